/- Part 2 of the proof. -/
import Derived.Test.YtknkndglfcfhkaaGreatDoorU1
import Derived.Conc.CrowdBase
import Derived.Conc.CrowdComm
import Derived.Conc.CrowdTrace
import Derived.Conc.Holds
import Derived.Conc.Know
import Derived.Conc.QuitsD
import Derived.Conc.WrBase2
import Derived.Conc.WrWorld
set_option maxRecDepth 100000
set_option linter.all false
namespace Go.L
open Go Go.Conc
variable {g g':Goroutine} {i n b mx j n' p ic sn rc:Nat} {Q:Machine→Outcome→World→Trace→Prop} {s s' gV:St} {ι:Type} {I:(Nat→St)→World→Trace→Prop} {st sm:Int} {main tm:Bool} {T:Goroutine→St→Prop} {w':World} {P:Program} {t u:Trace} {Stop:Goroutine→Prop} {cs:List Frame} {fn:FuncId} {gs:Array Goroutine} {ds:List Deferred} {pos:String} {ca:Array Value} {fr:Frame}
section rounds
variable {P:Program} {C:Class} {s:St}
def dX(bd:Nat):Deferred:={target:= .collected bd,args:= #[]}
def ib(fn:FuncId)(tmps:Array Value)(params:Array Tmp)(assign body:Code)(bd:Nat):Loop:={state:= .ready,pending:=none,fn,tmps,params,assign,body,defers:=bd}
def abv(Q:Post)(a:Act)(l:Nat):Ending→St→Prop
 | .returned _,s=>CL s l fun r up=>r.state≠ .busy∧(match r.pending with
  |none=>Q .normal a (up {r with state:= .exhausted})
  |some .ret=>Q .ret a (up {r with state:= .exhausted})
  |some (.exit id)=>Q (.exit id) a (up {r with state:= .exhausted})
  |_=>False)
 | .panicked ch,s=>Q (.panic ch) a s
 | .outgrown,_=>False
theorem zo(hC:∀main T,C main T→Closed P main T){x:Operand}{params:Array Tmp}{assign body:Code}{Q:Post}{a:Act}{g:FuncId}{fi:Array Value}(hx:a.eval x= .func (.func g) fi ca)(ff:FF P g)
 (h:∀bd bl,¬s.knows bd→¬(⟨s.ro,(bd,.deferred (some []))::s.rw⟩:St).knows bl→
  Fn C P g (fi++ #[.func (.yield bl) #[] #[]]++ca) ⟨s.ro,(bl,.loop (ib fn a.tmps params assign body bd))::(bd,.deferred (some []))::s.rw⟩ (abv Q {a with defers:=dX bd::a.defers} bl)):
 Wp C fn none (.rangeFunc x params assign body) Q a s:=by
 intro main T hT b k cs h1 h2 h3 h4
 have iD:=hC main T hT
 have hk:(b.kind==CallKind.early)=false:=by simpa using h2
 have vz:bP P (Instr.enterLoop fn a.tmps params assign body none) s (fun r s'=>∃bd bl,¬s.knows bd∧¬(⟨s.ro,(bd,.deferred (some []))::s.rw⟩:St).knows bl∧r=(bl,[dX bd])∧s'=⟨s.ro,(bl,.loop (ib fn a.tmps params assign body bd))::(bd,.deferred (some []))::s.rw⟩) (fun _ _=>False):=by
  simp only[Instr.enterLoop,aa,nV,ae]
  intro bd hbd
  intro bl E3
  exact⟨bd,bl,hbd,E3,rfl,rfl⟩
 refine iD.step _ _ rfl fun w oX=>?_
 obtain⟨res,es,bU,hl⟩:=gz _ _ _ _ w #[] vz oX
 rw[Array.empty_append] at bU
 cases res with
 |halt _ _=>obtain⟨_,_,hu⟩:=hl;exact hu.elim
 |ok r w1=>
  obtain⟨s1,ht1,bd,bl,hbd,E3,rfl,rfl⟩:=hl
  have aCk:bP P (callFunc g (fi++ #[.func (.yield bl) #[] #[]]++ca)) ⟨s.ro,(bl,.loop (ib fn a.tmps params assign body bd))::(bd,.deferred (some []))::s.rw⟩ (fun nx s2=>nx= .enter g (fi++ #[.func (.yield bl) #[] #[]]++ca)∧s2=⟨s.ro,(bl,.loop (ib fn a.tmps params assign body bd))::(bd,.deferred (some []))::s.rw⟩) (fun _ _=>False):=jO ff ⟨rfl,rfl⟩
  obtain⟨aJ2,Es,apH,qy⟩:=gz _ _ _ _ w1 #[] aCk ht1.jC
  rw[Array.empty_append] at apH
  cases aJ2 with
  |halt _ _=>obtain⟨_,_,hu⟩:=qy;exact hu.elim
  |ok nx w2=>
   obtain⟨s2,ht2,rfl,rfl⟩:=qy
   let nA:Frame:=aK b {a with defers:=dX bd::a.defers} (.inRangeFunc bl::k)
   refine⟨G (Frame.enter P g (fi++ #[.func (.yield bl) #[] #[]]++ca) .normal) (nA::cs),w2,seen P b.fn es++seen P b.fn Es,_,?_,rfl,(ht1.sub (ij _ _ _)).trans (ht2.sub (ij _ _ _)),?_⟩
   ·have SD:(aK b {a with defers:=dX bd::a.defers} (.inRangeFunc bl::k)).eval x= .func (.func g) fi ca:=by rw[Hv];exact hx
    have hdo:(do let d ←resolve (aK b {a with defers:=dX bd::a.defers} (.inRangeFunc bl::k)).eval {callee:= .value x,args:= #[.const (.func (.yield bl) #[] #[])],argTypes:= #[]} 0;invoke d.target d.args:Sem Next)=callFunc g (fi++ #[.func (.yield bl) #[] #[]]++ca):=by
     have hm:Array.map (aK b {a with defers:=dX bd::a.defers} (.inRangeFunc bl::k)).eval #[Operand.const (.func (.yield bl) #[] #[])]= #[.func (.yield bl) #[] #[]]:=by simp[Frame.eval]
     simp only[resolve,SD,Deferred.ofValue]
     rw[hm]
     rfl
    have bS:stepG P main (G (aK b a (.code (.rangeFunc x params assign body)::k)) cs) w=
     (let (r,es):=(Instr.enterLoop b.fn a.tmps params assign body b.roundOf).runT P w #[]
      GStep.after (seen P b.fn es)<|match r with
       | .ok (l,mark) w=>
        stepG.apply P true (aK b {a with defers:=mark++a.defers} (.inRangeFunc l::k)) cs none (do let d ←resolve (aK b {a with defers:=mark++a.defers} (.inRangeFunc l::k)).eval {callee:= .value x,args:= #[.const (.func (.yield l) #[] #[])],argTypes:= #[]} 0;invoke d.target d.args) w
       | .halt _ w=> .ended (.stuck "range over a function: no such loop" ((aK b a (.code (.rangeFunc x params assign body)::k)).pos P)) w):=rfl
    rw[bS,h1,h3,bU]
    simp only[List.singleton_append]
    rw[hdo]
    simp only[stepG.apply,if_true,apH]
    simp only[aK,hk,Bool.false_eq_true,if_false,GStep.after,h1]
    simp[G,nA,aK,h1]
   refine h bd bl hbd E3 main T hT nA cs (fun v s' hv=>?_) (fun ch s' hv=>h4 _ _ _ hv _)
   obtain⟨L,r,Rr,hs,B6,hq⟩:=hv
   have pZ:∀(jump:Option Code),r.pending=jump→T (G (aK b {a with defers:=dX bd::a.defers} ((jump.map Item.code).toList++k)) cs) ⟨s'.ro,L++(bl,.loop {r with state:= .exhausted})::Rr⟩→T (G (nA.finish v) cs) s':=by
    intro jump hj hT'
    have aCj:bP P (Instr.endLoop bl) s' (fun j s2=>j=jump∧s2=⟨s'.ro,L++(bl,.loop {r with state:= .exhausted})::Rr⟩) (fun _ _=>False):=by
     simp only[Instr.endLoop]
     refine wK hs ?_
     have hbq:(r.state==LoopState.busy)=false:=by simpa using B6
     simp only[hbq,Bool.false_eq_true,if_false,aa,ae]
     exact eg rfl hs rfl ⟨hj,rfl⟩
    refine iD.step _ _ rfl fun w oX=>?_
    obtain⟨res,es,bU,hl⟩:=gz _ _ _ _ w #[] aCj oX
    rw[Array.empty_append] at bU
    cases res with
    |halt _ _=>obtain⟨_,_,hu⟩:=hl;exact hu.elim
    |ok j w'=>
     obtain⟨s2,ht,rfl,rfl⟩:=hl
     refine⟨_,w',seen P b.fn es,_,?_,rfl,ht.sub (ij _ _ _),hT'⟩
     have aMG:stepG P main (G (nA.finish v) cs) w=(let (r,es):=(Instr.endLoop bl).runT P w #[]
      GStep.after (seen P b.fn es)<|match r with
      | .ok jump w=> .go (G (aK b {a with defers:=dX bd::a.defers} ((jump.map Item.code).toList++k)) cs) w
      | .halt (.panic v) w=> .go (G ((aK b {a with defers:=dX bd::a.defers} (.endRangeFunc bl::k)).raise [{v,recovered:=false}]) cs) w
      | .halt _ w=> .ended (.stuck "range over a function: no such loop" ((aK b {a with defers:=dX bd::a.defers} (.endRangeFunc bl::k)).pos P)) w):=rfl
     rw[aMG,bU]
     simp[GStep.after]
   split at hq
   ·rename_i hp;exact pZ none hp (h4 _ _ _ hq)
   ·rename_i hp;exact pZ _ hp (h4 _ _ _ hq k)
   ·rename_i id hp
    refine pZ _ hp ?_
    have h':=h4 _ _ _ hq
    simp only[jF] at h'
    cases iI:exitTo id k with
    |some k'=>
     rw[iI] at h'
     exact iD.go rfl rfl (g':=G (aK b {a with defers:=dX bd::a.defers} k') cs) (fun w=>by simp[G,stepG,stepG.exec,aK,iI]) h'
    |none=>rw[iI] at h';exact h' k iI
   exact hq.elim
end rounds
section marks
variable {P:Program} {C:Class} {s:St}
theorem unwind_mark(hC:∀main T,C main T→Closed P main T)(hT:C main T)(hm:fr.mode= .returning∨∃ch,fr.mode= .panicking ch){bd:Nat}(hd:fr.defers=dX bd::ds)
 {L Rr:List (Nat×Obj)}(hs:s.rw=L++(bd,.deferred (some []))::Rr)(h:T (G {fr with defers:=ds} cs) ⟨s.ro,L++(bd,.deferred none)::Rr⟩):T (G fr cs) s:=by
 have vz:bP P (Instr.takeDeferred bd) s (fun c s2=>c=[]∧s2=⟨s.ro,L++(bd,.deferred none)::Rr⟩) (fun _ _=>False):=by
  simp only[Instr.takeDeferred]
  refine cD (o:= .deferred (some [])) (.inr (by rw[hs];exact fg)) rfl rfl ?_
  exact eg rfl hs rfl ⟨rfl,rfl⟩
 refine(hC main T hT).step _ _ rfl fun w oX=>?_
 obtain⟨res,es,bU,hl⟩:=gz _ _ _ _ w #[] vz oX
 rw[Array.empty_append] at bU
 cases res with
 |halt _ _=>obtain⟨_,_,hu⟩:=hl;exact hu.elim
 |ok c w'=>
  obtain⟨s2,ht,rfl,rfl⟩:=hl
  refine⟨_,w',seen P fr.fn es,_,?_,rfl,ht.sub (ij _ _ _),h⟩
  rcases fr with ⟨fn',tmps,todo,defers,mode,kind,ro⟩
  simp only at hm hd
  subst hd
  rcases hm with rfl| ⟨ch,rfl⟩
  ·simp only[G,stepG,unwind,dX,bU,GStep.after,Array.append_empty,List.nil_append]
  simp only[G,stepG,unwind,dX,bU,GStep.after,Array.append_empty,List.nil_append]
end marks
section code
variable {P:Program} {C:Class} {fn:FuncId} {az:Option Nat} {n LF:Nat} {F:Nat×Obj→Prop} {R:Nat→Option Obj} {call:bZ}
theorem OU{Q:Post}{a:Act}(hC:∀main T,C main T→Closed P main T){c:Code}(h:Wp C fn az c Q a s):Wp C fn az (.scope c) Q a s:=by
 intro main T hT b k cs h1 h2 h3 h4
 refine(hC main T hT).go rfl rfl (g':=G (aK b a (.code c:: .inScope c::k)) cs) (fun w=>by simp[G,stepG,stepG.exec,aK]) ?_
 refine h main T hT b (.inScope c::k) cs h1 h2 h3 fun e a' s' q=>?_
 cases e with
 |normal=>exact(hC main T hT).go rfl rfl (g':=G (aK b a' k) cs) (fun w=>by simp[G,stepG,stepG.exec,aK]) (h4 _ _ _ q)
 |exit id=>
  have hh:exitTo id (.inScope c::k)=exitTo id k:=rfl
  have:=h4 _ _ _ q
  simp only[jF,hh] at this ⊢
  exact this
 |ret=>exact h4 _ _ _ q
 |panic ch=>exact h4 _ _ _ q
 |goto l=>exact(h4 _ _ _ q).elim
 |outgrown=>exact(h4 _ _ _ q).elim
theorem wp_label{Q:Post}{a:Act}(hC:∀main T,C main T→Closed P main T){l:Nat}(h:Q .normal a s):Wp C fn az (.label l) Q a s:=
 fun main T hT b k cs _ _ _ h4=>(hC main T hT).go rfl rfl (g':=G (aK b a k) cs) (fun w=>by simp[G,stepG,stepG.exec,aK]) (h4 _ _ _ h)
end code
section code
variable {P:Program} {C:Class} {fn:FuncId} {az:Option Nat} {n LF:Nat} {D:List Deferred} {F:Nat×Obj→Prop} {R:Nat→Option Obj} {call:bZ}
theorem sr(P:Program)(f:FuncId):seen P f #[]= #[]:=by
 apply Array.eq_empty_of_size_eq_zero
 rcases Nat.eq_zero_or_pos (seen P f #[]).size with h|h
 ·exact h
 have:=ij P f #[] (seen P f #[])[0] (Array.getElem_mem h)
 simp at this
def IP(P:Program)(f:FuncId):Option (Func×Tmp×Code):=
 match P.funcs[f]? with
 |some fn=>match fn.body with
  |some (.seq (.region _ ops false) rest)=>match ops.toList with
   | [o]=>match o.dst,o.op,o.guard with
    |some t,.call ⟨.builtin .recover,xs,_⟩,none=>bif xs.isEmpty&&(fn.results.isEmpty&& !(fn.name== "runtime.NumGoroutine")) then some (fn,t,rest) else none
    |_,_,_=>none
   |_=>none
  |_=>none
 |none=>none
structure aGd(P:Program)(f:FuncId)(fn:Func)(t:Tmp)(rest:Code):Prop where
 ex:P.funcs[f]?=some fn∧fn.results= #[]∧(fn.name== "runtime.NumGoroutine")=false∧∃id o at_,fn.body=some (.seq (.region id #[o] false) rest)∧o.dst=some t∧o.op= .call ⟨.builtin .recover,#[],at_⟩∧o.guard=none
theorem WI{f:FuncId}{fn:Func}{t:Tmp}{rest:Code}(h:IP P f=some (fn,t,rest)):aGd P f fn t rest:=by
 unfold IP at h
 split at h<;>try (cases h;done)
 rename_i fn0 ur
 split at h<;>try (cases h;done)
 rename_i id ops aS3 hb
 split at h<;>try (cases h;done)
 rename_i o ho
 split at h<;>try (cases h;done)
 rename_i t0 xs at_ h1 h2 h3
 cases hc:(xs.isEmpty&&(fn0.results.isEmpty&& !(fn0.name== "runtime.NumGoroutine"))) with
 |false=>rw[hc] at h;cases h
 |true=>
  rw[hc] at h;simp only[cond_true,Option.some.injEq,Prod.mk.injEq] at h
  obtain⟨rfl,rfl,rfl⟩:=h
  simp only[Bool.and_eq_true,Bool.not_eq_true',Array.isEmpty_iff] at hc
  obtain⟨rfl,c2,c3⟩:=hc
  refine⟨ur,c2,c3,id,o,at_,?_,h1,h2,h3⟩
  rw[hb]
  have:ops= #[o]:=by apply Array.ext';simpa using ho
  rw[this]
inductive UM where
 |ret
 |panic (v:Value)
inductive MR(ρ:aV):UM→FrameMode→Prop
 |ret:MR ρ .ret .returning
 |panic (v v':Value):VR ρ v v'→MR ρ (.panic v) (.panicking [{v:=v',recovered:=false}])
def alb:UM→Value
 | .ret=> .nilIface
 | .panic v=>v
theorem jm(hC:∀main T,C main T→Closed P main T)(hT:C main T)(hm:fr.mode= .returning∨∃ch,fr.mode= .panicking ch){f:FuncId}(ff:FF P f){a:Array Value} 
 (hd:fr.defers={target:= .fn (.func f) ca,args:=a}::ds)(h:T (G (Frame.enter P f (a++ca) .deferred) ({fr with defers:=ds}::cs)) s):T (G fr cs) s:=by
 have vz:bP P (invoke (.fn (.func f) ca) a) s (fun nx s2=>nx= .enter f (a++ca)∧s2=s) (fun _ _=>False):=by
  simp only[invoke]
  exact jO ff ⟨rfl,rfl⟩
 refine(hC main T hT).step _ _ rfl fun w oX=>?_
 obtain⟨res,es,bU,hl⟩:=gz _ _ _ _ w #[] vz oX
 rw[Array.empty_append] at bU
 cases res with
 |halt _ _=>obtain⟨_,_,hu⟩:=hl;exact hu.elim
 |ok c w'=>
  obtain⟨s2,ht,rfl,rfl⟩:=hl
  refine⟨_,w',seen P fr.fn es,_,?_,rfl,ht.sub (ij _ _ _),h⟩
  rcases fr with ⟨fn',tmps,todo,defers,mode,kind,ro⟩
  simp only at hm hd
  subst hd
  rcases hm with rfl| ⟨ch,rfl⟩
  ·simp only[G,stepG,unwind,callDeferred,bU,GStep.after,Array.append_empty]
   rfl
  simp only[G,stepG,unwind,callDeferred,bU,GStep.after,Array.append_empty]
  rfl
theorem z0(hC:∀main T,C main T→Closed P main T)(hT:C main T){b:Frame}{a:Act}{o:Oper}{t:Tmp}{at_:Array TypeId}{k:List Item}{ρ:aV}{u:UM}(rH:b.kind= .deferred)(qD:b.roundOf=none)
 (h1:o.dst=some t)(h2:o.op= .call ⟨.builtin .recover,#[],at_⟩)(h3:o.guard=none)(hu:MR ρ u fr.mode)
 (h:∀v' mP,VR ρ (alb u) v'∨(u= .ret∧v'= .nilIface)→(mP= .returning∨∃v,mP= .panicking [{v:=v,recovered:=true}])→T (G (aK b (a.put (some t) v') (.inRegion #[o] []::k)) ({fr with mode:=mP}::cs)) s):
 T (G (aK b a (.inRegion #[o] [0]::k)) (fr::cs)) s:=by
 have hw:Region.wanted o (yielded #[o] a.tmps)=true:=by unfold Region.wanted;rw[h3]
 have hex:∀aL,execOp aL o=pure .recover:=by
  intro aL
  simp only[execOp,h2,resolve]
  rfl
 have lZ:∀v,(aK b a (.inRegion #[o] [0]::k)).finish v=aK b (a.put (some t) v) (.inRegion #[o] []::k):=by
  intro v
  rw[fC]
  have:((#[o]:Array Oper)[0]?).bind (·.dst)=some t:=by simpa using h1
  rw[this]
 have gp:∀w,stepG P main (G (aK b a (.inRegion #[o] [0]::k)) (fr::cs)) w=stepG.apply P true (aK b a (.inRegion #[o] [0]::k)) (fr::cs) none (pure .recover) w:=by
  intro w
  have he:=ky b a (.inRegion #[o] [0]::k)
  simp only[aK] at he
  have ho:(#[o]:Array Oper)[0]?=some o:=by simp
  simp only[G,stepG,stepG.exec,aK,ho,Option.map_some,Option.getD_some,hw,if_true,stepG.oper,Frame.oper?,he,qD,hex]
 rcases QQ:fr.mode with _|_|ch
 ·rw[QQ] at hu;cases hu
 ·rw[QQ] at hu
  cases hu
  have:=h .nilIface .returning (.inr ⟨rfl,rfl⟩) (.inl rfl)
  rw[←lZ] at this
  refine(hC main T hT).go rfl rfl (fun w=>?_) this
  rw[gp]
  have hfr: {fr with mode:=FrameMode.returning}=fr:=by rw[←QQ]
  rw[hfr]
  simp only[stepG.apply,if_true]
  show GStep.after (seen P _ _) _=_
  simp[Sem.runT,pure,GStep.after,aK,rH,qD,tryRecover,QQ,G]
  exact sr P b.fn
 rw[QQ] at hu
 cases hu
 rename_i v v' hv
 have:=h v' (.panicking [{v:=v',recovered:=true}]) (.inl hv) (.inr ⟨v',rfl⟩)
 rw[←lZ] at this
 refine(hC main T hT).go rfl rfl (fun w=>?_) this
 rw[gp]
 simp only[stepG.apply,if_true]
 show GStep.after (seen P _ _) _=_
 simp[Sem.runT,pure,GStep.after,aK,rH,qD,tryRecover,QQ,G]
 exact sr P b.fn
end code
def iJ:Code→List Code
 | .seq a b=>iJ a++iJ b
 |c=>[c]
def fE(K:Nat→St)(i:Nat)(s:St):Nat→St:=fun j=>if j=i then s else K j
theorem aB(K:Nat→St)(i:Nat)(s:St):fE K i s i=s:=by simp[fE]
theorem aG(K:Nat→St)(s:St)(h:j≠i):fE K i s j=K j:=by simp[fE,h]
structure Fit(L:Nat→Option Obj)(K:Nat→St)(w:World)(t:Trace):Prop where
 D7:∀b o,L b=some o→w.heap[b]?=some o
 lg:∀i b,(K i).iN b→L b=none
 jC:∀i,aR (K i) w
 sep:∀i j b,i≠j→(K i).iN b→¬(K j).knows b
 perm:∀i b,(K i).iN b→∀p x,touchAt t p=some x→blk x.loc=some b→Knows t i p
 qL:∀i b,(K i).ro b≠none→∀p x,touchAt t p=some x→blk x.loc=some b→x.write=true→Knows t i p
 old:∀p x b,touchAt t p=some x→blk x.loc=some b→b <w.heap.size
 clean:∀said,¬Race said t
 sync:∀p x b,touchAt t p=some x→x.kind≠ .plain→blk x.loc=some b→L b=none∧∀i,¬(K i).knows b
theorem lt_size{α:Type}{a:Array α}{x:α}(h:a[i]?=some x):i <a.size:=by
 rcases Nat.lt_or_ge i a.size with h'|h'
 ·exact h'
 rw[Array.getElem?_eq_none h'] at h;cases h
theorem bE{x:Touch}(h:touchAt (t++u) p=some x):(p <t.size∧touchAt t p=some x)∨(t.size≤p∧∃op∈u,(t++u)[p]?=some op∧op.act.touch?=some x):=by
 rcases Nat.lt_or_ge p t.size with hp|hp
 ·exact .inl ⟨hp,by rw[←touchAt_old (u:=u) hp];exact h⟩
 obtain⟨op,ho,hx⟩:=touch_of h
 rcases getElem?_append_cases ho with ⟨h',_⟩| ⟨_,hm⟩
 ·omega
 exact .inr ⟨hp,op,hm,ho,hx⟩
theorem C6{es:Array Event}(h:∀e∈es,Ih s n e){op:MemOp}(ho:op∈MemOp.ofEvents i fn pos es):
 op.g=i∧∀x,op.act.touch?=some x→x.kind= .plain∧∃b,blk x.loc=some b∧(n≤b∨s.iN b∨(x.write=false∧s.ro b≠none))∧∃e∈es,blk e.loc=some b:=by
 rw[ofEvents_eq] at ho
 obtain⟨e,he,rfl⟩:=Array.mem_map.1 ho
 refine⟨rfl,fun x hx=>?_⟩
 have hk:=h e he
 obtain⟨loc,wr,sy⟩:=e
 cases loc with
 |cell a=>
  obtain⟨h1,h2⟩:=hk
  simp only at h1 h2
  subst h1
  cases wr<;>(simp only[MemAct.ofEvent,MemAct.touch?,Option.some.injEq] at hx;subst hx;exact⟨rfl,_,rfl,h2,_,he,rfl⟩)
 |obj r=>
  obtain⟨h1,h2⟩:=hk
  simp only at h1 h2
  subst h1
  cases wr<;>(simp only[MemAct.ofEvent,MemAct.touch?,Option.some.injEq] at hx;subst hx;exact⟨rfl,_,rfl,h2,_,he,rfl⟩)
 |mark m=>
  cases m<;>simp only[Ih,BL,Bool.false_eq_true] at hk<;>(cases hx)
 |_=>exact hk.elim
theorem BZ(hu:∀op∈u,op.g=i)(hp:t.size≤p){op:MemOp}(ho:(t++u)[p]?=some op):Knows (t++u) i p:=by
 rcases getElem?_append_cases ho with ⟨h',_⟩| ⟨_,hm⟩
 ·omega
 have:=knows_own ho
 rwa[hu op hm] at this
theorem Fit.own{L:Nat→Option Obj}{K:Nat→St}{w:World}(h:Fit L K w t){es:Array Event}(ht:Trans (K i) w s' w' es)(fn:FuncId)(pos:String):
 Fit L (fE K i s') w' (t++MemOp.ofEvents i fn pos es):=by
 have hu:=fun op (ho:op∈MemOp.ofEvents i fn pos es)=>C6 ht.uW ho
 have hg:∀op∈MemOp.ofEvents i fn pos es,op.g=i:=fun op ho=>(hu op ho).1
 have other:∀j b,j≠i→(K j).knows b→b <w.heap.size∧¬(K i).iN b:=fun j b hj hk=>by
  refine⟨?_,fun ho=>h.sep i j b (Ne.symm hj) ho hk⟩
  rcases hk with hk| ⟨o,hk⟩
  ·cases hr:(K j).ro b with
   |none=>exact absurd hr hk
   |some o=>exact(h.jC j).lt (.inl hr)
  exact(h.jC j).lt (.inr hk)
 have Xb:∀b o,L b=some o→b <w.heap.size:=fun b o hl=>lt_size (h.D7 b o hl)
 refine⟨fun b o hl=>?_,fun j b ho=>?_,fun j=>?_,fun j k b OH ho hk=>?_,fun j b ho p x hx hb=>?_,fun j b ho p x hx hb hw=>?_,fun p x b hx hb=>?_,fun said=>?_,fun p x b hx hk hb=>?_⟩
 ·rw[ht.frame b (Xb b o hl) (fun ho=>by have:=h.lg i b ho;rw[hl] at this;cases this)];exact h.D7 b o hl
 ·by_cases hj:j=i
  ·subst hj
   rw[aB] at ho
   rcases ht.own b ho with h1|h1
   ·cases hl:L b with
    |none=>rfl
    |some o=>have:=Xb b o hl;omega
   exact h.lg j b h1
  rw[aG K s' hj] at ho;exact h.lg j b ho
 ·by_cases hj:j=i
  ·subst hj;rw[aB];exact ht.jC
  rw[aG K s' hj]
  have a:=h.jC j
  refine⟨fun b o hb=>?_,fun b o hb=>?_,a.nodup,a.apart⟩
  ·have:=other j b hj (.inl (by rw[hb];simp))
   rw[ht.frame b this.1 this.2];exact a.ro b o hb
  have:=other j b hj (.inr ⟨o,hb⟩)
  rw[ht.frame b this.1 this.2];exact a.rw b o hb
 ·by_cases hj:j=i
  ·subst hj
   rw[aB] at ho
   rw[aG K s' (Ne.symm OH)] at hk
   have:=other k b (Ne.symm OH) hk
   rcases ht.own b ho with h1|h1
   ·omega
   exact this.2 h1
  rw[aG K s' hj] at ho
  by_cases jA:k=i
  ·subst jA
   rw[aB] at hk
   have:=other j b hj (.inr ho)
   rcases hk with hk|hk
   ·rcases ht.Mb b hk with h1|h1|h1
    ·omega
    ·exact h.sep j k b hj ho (.inl h1)
    exact this.2 h1
   rcases ht.own b hk with h1|h1
   ·omega
   exact this.2 h1
  rw[aG K s' jA] at hk
  exact h.sep j k b OH ho hk
 ·rcases bE hx with ⟨hp,lG⟩| ⟨hp,op,hm,ax,xL⟩
  ·by_cases hj:j=i
   ·subst hj
    rw[aB] at ho
    rcases ht.own b ho with h1|h1
    ·exact absurd (h.old p x b lG hb) (by omega)
    exact(h.perm j b h1 p x lG hb).app _
   rw[aG K s' hj] at ho
   exact(h.perm j b ho p x lG hb).app _
  by_cases hj:j=i
  ·subst hj;exact BZ hg hp ax
  rw[aG K s' hj] at ho
  obtain⟨_,b',ma,hc,e',zg,Ek⟩:=(hu op hm).2 x xL
  obtain rfl:b'=b:=by rw[hb] at ma;exact(Option.some.inj ma).symm
  have:=other j b' hj (.inr ho)
  rcases hc with h1|h1|h1
  ·omega
  ·exact absurd h1 this.2
  exact absurd (.inl h1.2) (h.sep j i b' hj ho)
 ·rcases bE hx with ⟨hp,lG⟩| ⟨hp,op,hm,ax,xL⟩
  ·by_cases hj:j=i
   ·subst hj
    rw[aB] at ho
    rcases ht.Mb b ho with h1|h1|h1
    ·exact absurd (h.old p x b lG hb) (by omega)
    ·exact(h.qL j b h1 p x lG hb hw).app _
    exact(h.perm j b h1 p x lG hb).app _
   rw[aG K s' hj] at ho
   exact(h.qL j b ho p x lG hb hw).app _
  by_cases hj:j=i
  ·subst hj;exact BZ hg hp ax
  rw[aG K s' hj] at ho
  obtain⟨_,b',ma,hc,e',zg,Ek⟩:=(hu op hm).2 x xL
  obtain rfl:b'=b:=by rw[hb] at ma;exact(Option.some.inj ma).symm
  have:=other j b' hj (.inl ho)
  rcases hc with h1|h1|h1
  ·omega
  ·exact absurd h1 this.2
  rw[h1.1] at hw;cases hw
 ·rcases bE hx with ⟨hp,lG⟩| ⟨hp,op,hm,ax,xL⟩
  ·exact Nat.lt_of_lt_of_le (h.old p x b lG hb) ht.size
  obtain⟨_,b',ma,hc,e',zg,Ek⟩:=(hu op hm).2 x xL
  obtain rfl:b'=b:=by rw[hb] at ma;exact(Option.some.inj ma).symm
  exact ht.low e' zg b' Ek
 case refine_9=>
  rcases bE hx with ⟨hp,lG⟩| ⟨hp,op,hm,ax,xL⟩
  ·have hs:=h.sync p x b lG hk hb
   refine⟨hs.1,fun j hj=>?_⟩
   by_cases e:j=i
   ·subst e
    rw[aB] at hj
    have cK:=h.old p x b lG hb
    rcases hj with hj|hj
    ·rcases ht.Mb b hj with h1|h1|h1
     ·omega
     ·exact hs.2 j (.inl h1)
     exact hs.2 j (.inr h1)
    rcases ht.own b hj with h1|h1
    ·omega
    exact hs.2 j (.inr h1)
   rw[aG K s' e] at hj;exact hs.2 j hj
  exact absurd ((hu op hm).2 x xL).1 hk
 case refine_8=>
  refine noRace_append (h.clean said) hg fun p a ha op hm b hb hc=>?_
  obtain⟨hk,c,hbc,uu,_⟩:=(hu op hm).2 b hb
  have auQ:blk a.loc=some c:=by rw[hc.1];exact hbc
  rcases uu with h1|h1|h1
  ·exact absurd (h.old p a c ha auQ) (by omega)
  ·exact h.perm i c h1 p a ha auQ
  refine h.qL i c h1.2 p a ha auQ ?_
  rcases hc.2.2.1 with hw|hw
  ·exact hw
  rw[h1.1] at hw;cases hw
theorem MO{said:Bool}(h:¬Race said t)(hu:∀op∈u,op.act.touch?=none):¬Race said (t++u):=by
 rintro⟨i,j,Is,⟨a,b,ha,hb,hc⟩,n1,n2⟩
 obtain⟨y,hy,hyb⟩:=touch_of hb
 rcases getElem?_append_cases hy with ⟨hj,_⟩| ⟨_,hyu⟩
 ·have hi:i <t.size:=Nat.lt_trans Is hj
  exact h ⟨i,j,Is,⟨a,b,by rw[←act?_old (u:=u) hi];exact ha,by rw[←act?_old (u:=u) hj];exact hb,hc⟩,fun e=>n1 (hb_app u e),fun e=>n2 (hb_app u e)⟩
 rw[hu y hyu] at hyb;cases hyb
section
variable {L:Nat→Option Obj} {K:Nat→St} {w w':World} {t u:Trace}
theorem Fit.GA(h:Fit L K w t)(hk:(K i).knows b):b <w.heap.size:=by
 rcases hk with hk| ⟨o,hk⟩
 ·cases hr:(K i).ro b with
  |none=>exact absurd hr hk
  |some o=>exact(h.jC i).lt (.inl hr)
 exact(h.jC i).lt (.inr hk)
theorem aR.congr(h:aR s w)(hf:∀b,s.knows b→w'.heap[b]?=w.heap[b]?):aR s w':=
 ⟨fun b o hb=>by rw[hf b (.inl (by rw[hb];simp))];exact h.ro b o hb,fun b o hb=>by rw[hf b (.inr ⟨o,hb⟩)];exact h.rw b o hb,h.nodup,h.apart⟩
theorem Fit.quiet(h:Fit L K w t)(B:Nat)(hB:∀j,¬(K j).knows B)(hBL:L B=none)(hs:w.heap.size≤w'.heap.size)(hf:∀b,b≠B→b <w.heap.size→w'.heap[b]?=w.heap[b]?)
 (hu:∀op∈u,op.act.touch?=none):Fit L K w' (t++u):=by
 have old:∀p x,touchAt (t++u) p=some x→touchAt t p=some x:=fun p x hx=>by
  rcases bE hx with ⟨_,h'⟩| ⟨_,op,hm,_,xL⟩
  ·exact h'
  rw[hu op hm] at xL;cases xL
 refine⟨fun b o hl=>?_,h.lg,fun i=>?_,h.sep,fun i b ho p x hx hb=>(h.perm i b ho p x (old p x hx) hb).app u,fun i b ho p x hx hb hw=>(h.qL i b ho p x (old p x hx) hb hw).app u,
  fun p x b hx hb=>Nat.lt_of_lt_of_le (h.old p x b (old p x hx) hb) hs,fun said=>MO (h.clean said) hu,fun p x b hx hk hb=>h.sync p x b (old p x hx) hk hb⟩
 ·rw[hf b (fun e=>by rw[e,hBL] at hl;cases hl) (lt_size (h.D7 b o hl))];exact h.D7 b o hl
 exact(h.jC i).congr fun b hb=>hf b (fun e=>hB i (e▸hb)) (h.GA hb)
theorem Fit.beside(h:Fit L K w t)(B i:Nat)(hB:∀j,¬(K j).knows B)(hBL:L B=none)(hBw:B <w.heap.size)(hs:w.heap.size≤w'.heap.size)(hf:∀b,b≠B→b <w.heap.size→w'.heap[b]?=w.heap[b]?)
 (hg:∀op∈u,op.g=i) (hu:∀op∈u,∀x,op.act.touch?=some x→blk x.loc=some B∧∀said p a,touchAt t p=some a→a.conflicts said x→Knows t i p):Fit L K w' (t++u):=by
 have old:∀b,b≠B→∀p x,touchAt (t++u) p=some x→blk x.loc=some b→touchAt t p=some x:=fun b dK p x hx hb=>by
  rcases bE hx with ⟨_,h'⟩| ⟨_,op,hm,_,xL⟩
  ·exact h'
  have:=(hu op hm x xL).1
  rw[hb] at this;exact absurd (Option.some.inj this) dK
 have ne:∀j b,(K j).knows b→b≠B:=fun j b hk e=>hB j (e▸hk)
 refine⟨fun b o hl=>?_,h.lg,fun i=>?_,h.sep,fun j b ho p x hx hb=>(h.perm j b ho p x (old b (ne j b (.inr ho)) p x hx hb) hb).app u,
  fun j b ho p x hx hb hw=>(h.qL j b ho p x (old b (ne j b (.inl ho)) p x hx hb) hb hw).app u,
  fun p x b hx hb=>?_,fun said=>noRace_append (h.clean said) hg fun p a ha op hm b hb hc=>(hu op hm b hb).2 said p a ha hc,fun p x b hx hk hb=>?_⟩
 ·rw[hf b (fun e=>by rw[e,hBL] at hl;cases hl) (lt_size (h.D7 b o hl))];exact h.D7 b o hl
 ·exact(h.jC i).congr fun b hb=>hf b (fun e=>hB i (e▸hb)) (h.GA hb)
 ·by_cases e:b=B
  ·subst e;omega
  exact Nat.lt_of_lt_of_le (h.old p x b (old b e p x hx hb) hb) hs
 by_cases e:b=B
 ·subst e;exact⟨hBL,hB⟩
 exact h.sync p x b (old b e p x hx hb) hk hb
theorem St.le.iN(h:s.le s')(hb:s.iN b):s'.iN b:=by
 obtain⟨R,h1,_⟩:=h
 obtain⟨o,ho⟩:=hb
 exact⟨o,h1.mem_iff.2 (by simp[ho])⟩
theorem St.le.ro(h:s.le s')(hb:s.ro b≠none):s'.ro b≠none∨s'.iN b:=by
 obtain⟨R,h1,h2⟩:=h
 cases hr:s.ro b with
 |none=>exact absurd hr hb
 |some o=>
  rcases h2 b o hr with h3|h3
  ·exact .inl (by rw[h3];simp)
  exact .inr ⟨o,h1.mem_iff.2 (by simp[h3])⟩
theorem St.le.knows(h:s.le s')(hb:s.knows b):s'.knows b:=hb.elim (fun hr=>(h.ro hr).elim .inl .inr) fun ho=> .inr (h.iN ho)
theorem Fit.le{K':Nat→St}(h:Fit L K w t)(hK:∀i,(K' i).le (K i)):Fit L K' w t:=
 ⟨h.D7,fun i b ho=>h.lg i b ((hK i).iN ho),fun i=>(h.jC i).of_le (hK i),fun i j b Is ho hk=>h.sep i j b Is ((hK i).iN ho) ((hK j).knows hk),
  fun i b ho p x hx hb=>h.perm i b ((hK i).iN ho) p x hx hb,
  fun i b ho p x hx hb hw=>((hK i).ro ho).elim (fun hr=>h.qL i b hr p x hx hb hw) fun hr=>h.perm i b hr p x hx hb,h.old,h.clean,
  fun p x b hx hk hb=>⟨(h.sync p x b hx hk hb).1,fun i hi=>(h.sync p x b hx hk hb).2 i ((hK i).knows hi)⟩⟩
theorem Fit.hand(h:Fit L K w t)(Is:i≠j)(X Y:List (Nat×Obj))(hX:(K j).rw.Perm (X++Y))
 (hk:∀b o,(b,o)∈X→∀p x,touchAt t p=some x→blk x.loc=some b→Knows t i p):
 Fit L (fE (fE K j ⟨(K j).ro,Y⟩) i ⟨(K i).ro,X++(K i).rw⟩) w t:=by
 have iP:∀x,x∈X→x∈(K j).rw:=fun x hx=>hX.mem_iff.2 (by simp[hx])
 have agl:∀x,x∈Y→x∈(K j).rw:=fun x hx=>hX.mem_iff.2 (by simp[hx])
 have lQ:(X.map (·.1)).Nodup∧(Y.map (·.1)).Nodup∧∀b o o',(b,o)∈X→(b,o')∈Y→False:=by
  have:=(hX.map (·.1)).nodup_iff.1 (h.jC j).nodup
  rw[List.map_append,List.nodup_append] at this
  exact⟨this.1,this.2.1,fun b o o' h1 h2=>this.2.2 b (List.mem_map.2 ⟨_,h1,rfl⟩) b (List.mem_map.2 ⟨_,h2,rfl⟩) rfl⟩
 have e1:fE (fE K j ⟨(K j).ro,Y⟩) i ⟨(K i).ro,X++(K i).rw⟩ i=⟨(K i).ro,X++(K i).rw⟩:=aB _ _ _
 have e2:fE (fE K j ⟨(K j).ro,Y⟩) i ⟨(K i).ro,X++(K i).rw⟩ j=⟨(K j).ro,Y⟩:=by rw[aG _ _ (Ne.symm Is),aB]
 have e3:∀k,k≠i→k≠j→fE (fE K j ⟨(K j).ro,Y⟩) i ⟨(K i).ro,X++(K i).rw⟩ k=K k:=fun k h1 h2=>by rw[aG _ _ h1,aG _ _ h2]
 have PV:∀b,(⟨(K i).ro,X++(K i).rw⟩:St).iN b→(∃o,(b,o)∈X)∨(K i).iN b:=fun b ⟨o,ho⟩=>(List.mem_append.1 ho).elim (fun h'=> .inl ⟨o,h'⟩) fun h'=> .inr ⟨o,h'⟩
 have Kc:∀b,(⟨(K j).ro,Y⟩:St).iN b→(K j).iN b∧¬ ∃o,(b,o)∈X:=fun b ⟨o,ho⟩=>⟨⟨o,agl _ ho⟩,fun⟨o',h'⟩=>lQ.2.2 b o' o h' ho⟩
 have jX:∀b,(∃o,(b,o)∈X)→(K j).iN b:=fun b ⟨o,ho⟩=>⟨o,iP _ ho⟩
 have M3:∀k b,k≠i→(fE (fE K j ⟨(K j).ro,Y⟩) i ⟨(K i).ro,X++(K i).rw⟩ k).knows b→(K k).knows b∧(k=j→¬ ∃o,(b,o)∈X):=fun k b jA hb=>by
  by_cases e:k=j
  ·subst e
   rw[e2] at hb
   rcases hb with hb|hb
   ·refine⟨.inl hb,fun _ ⟨o,ho⟩=>hb ((h.jC k).apart b o (iP _ ho))⟩
   exact⟨.inr (Kc b hb).1,fun _=>(Kc b hb).2⟩
  rw[e3 k jA e] at hb;exact⟨hb,fun e'=>absurd e' e⟩
 refine⟨h.D7,fun k b ho=>?_,fun k=>?_,fun k l b SB ho hb=>?_,fun k b ho p x hx hb=>?_,fun k b ho p x hx hb hw=>?_,h.old,h.clean,fun p x b hx jA hb=>⟨(h.sync p x b hx jA hb).1,fun k bV=>?_⟩⟩
 case refine_6=>
  have hs:=(h.sync p x b hx jA hb).2
  by_cases a:k=i
  ·subst a;rw[e1] at bV
   rcases bV with h'|h'
   ·exact hs k (.inl h')
   exact(PV b h').elim (fun h'=>hs j (.inr (jX b h'))) fun h'=>hs k (.inr h')
  exact hs k (M3 k b a bV).1
 ·by_cases a:k=i
  ·subst a;rw[e1] at ho
   exact(PV b ho).elim (fun h'=>h.lg j b (jX b h')) (h.lg k b)
  by_cases c:k=j
  ·subst c;rw[e2] at ho;exact h.lg k b (Kc b ho).1
  rw[e3 k a c] at ho;exact h.lg k b ho
 ·by_cases a:k=i
  ·subst a;rw[e1]
   refine⟨(h.jC k).ro,fun b o hb=>(List.mem_append.1 hb).elim (fun h'=>(h.jC j).rw b o (iP _ h')) ((h.jC k).rw b o),?_,fun b o hb=>?_⟩
   ·rw[List.map_append,List.nodup_append]
    refine⟨lQ.1,(h.jC k).nodup,?_⟩
    rintro b h1 _ h2 rfl
    obtain⟨⟨b1,o1⟩,m1,rfl⟩:=List.mem_map.1 h1
    obtain⟨⟨b2,o2⟩,m2,he⟩:=List.mem_map.1 h2
    simp only at he;subst he
    exact h.sep j k b2 (Ne.symm Is) (jX b2 ⟨o1,m1⟩) (.inr ⟨o2,m2⟩)
   rcases List.mem_append.1 hb with h'|h'
   ·cases hr:(K k).ro b with
    |none=>rfl
    |some y=>exact absurd (.inl (by rw[hr];simp)) (h.sep j k b (Ne.symm Is) (jX b ⟨o,h'⟩))
   exact(h.jC k).apart b o h'
  by_cases c:k=j
  ·subst c;rw[e2]
   exact⟨(h.jC k).ro,fun b o hb=>(h.jC k).rw b o (agl _ hb),lQ.2.1,fun b o hb=>(h.jC k).apart b o (agl _ hb)⟩
  rw[e3 k a c];exact h.jC k
 ·by_cases a:k=i
  ·subst a
   rw[e1] at ho
   have jA:=M3 l b (Ne.symm SB) hb
   rcases PV b ho with h'|h'
   ·by_cases c:l=j
    ·exact jA.2 c h'
    exact h.sep j l b (Ne.symm c) (jX b h') jA.1
   exact h.sep k l b SB h' jA.1
  have EW:(K k).iN b∧(k=j→¬ ∃o,(b,o)∈X):=by
   by_cases c:k=j
   ·subst c;rw[e2] at ho;exact⟨(Kc b ho).1,fun _=>(Kc b ho).2⟩
   rw[e3 k a c] at ho;exact⟨ho,fun e=>absurd e c⟩
  by_cases c:l=i
  ·subst c
   rw[e1] at hb
   rcases hb with hb|hb
   ·exact h.sep k l b SB EW.1 (.inl hb)
   rcases PV b hb with h'|h'
   ·by_cases d:k=j
    ·exact EW.2 d h'
    exact h.sep k j b d EW.1 (.inr (jX b h'))
   exact h.sep k l b SB EW.1 (.inr h')
  exact h.sep k l b SB EW.1 (M3 l b c hb).1
 ·by_cases a:k=i
  ·subst a;rw[e1] at ho
   exact(PV b ho).elim (fun⟨o,h'⟩=>hk b o h' p x hx hb) fun h'=>h.perm k b h' p x hx hb
  by_cases c:k=j
  ·subst c;rw[e2] at ho;exact h.perm k b (Kc b ho).1 p x hx hb
  rw[e3 k a c] at ho;exact h.perm k b ho p x hx hb
 by_cases a:k=i
 ·subst a;rw[e1] at ho;exact h.qL k b ho p x hx hb hw
 by_cases c:k=j
 ·subst c;rw[e2] at ho;exact h.qL k b ho p x hx hb hw
 rw[e3 k a c] at ho;exact h.qL k b ho p x hx hb hw
theorem Fit.share(h:Fit L K w t)(zf:i≠n)(s:St)(hrw:s.rw=[])(Ax:∀b o,s.ro b=some o→(K i).ro b=some o)
 (hk:∀b,s.ro b≠none→∀p x,touchAt t p=some x→blk x.loc=some b→x.write=true→Knows t n p):Fit L (fE K n s) w t:=by
 have no:∀b,¬s.iN b:=fun b ⟨o,ho⟩=>by rw[hrw] at ho;cases ho
 have kn:∀b,s.ro b≠none→(K i).ro b≠none:=fun b hb=>by
  cases hr:s.ro b with
  |none=>exact absurd hr hb
  |some o=>rw[Ax b o hr];simp
 refine⟨h.D7,fun k b ho=>?_,fun k=>?_,fun k l b SB ho hb=>?_,fun k b ho p x hx hb=>?_,fun k b ho p x hx hb hw=>?_,h.old,h.clean,fun p x b hx jA hb=>⟨(h.sync p x b hx jA hb).1,fun k bV=>?_⟩⟩
 case refine_6=>
  have hs:=(h.sync p x b hx jA hb).2
  by_cases a:k=n
  ·subst a;rw[aB] at bV;exact hs i (.inl (kn b (bV.resolve_right (no b))))
  rw[aG _ _ a] at bV;exact hs k bV
 ·by_cases a:k=n
  ·subst a;rw[aB] at ho;exact absurd ho (no b)
  rw[aG _ _ a] at ho;exact h.lg k b ho
 ·by_cases a:k=n
  ·subst a;rw[aB];exact⟨fun b o hb=>(h.jC i).ro b o (Ax b o hb),fun b o hb=>absurd ⟨o,hb⟩ (no b),by rw[hrw];simp,fun b o hb=>absurd ⟨o,hb⟩ (no b)⟩
  rw[aG _ _ a];exact h.jC k
 ·by_cases a:k=n
  ·subst a;rw[aB] at ho;exact no b ho
  rw[aG _ _ a] at ho
  by_cases c:l=n
  ·subst c;rw[aB] at hb
   have hr:=kn b (hb.resolve_right (no b))
   by_cases d:k=i
   ·subst d
    obtain⟨o,ho⟩:=ho
    exact hr ((h.jC k).apart b o ho)
   exact h.sep k i b d ho (.inl hr)
  rw[aG _ _ c] at hb;exact h.sep k l b SB ho hb
 ·by_cases a:k=n
  ·subst a;rw[aB] at ho;exact absurd ho (no b)
  rw[aG _ _ a] at ho;exact h.perm k b ho p x hx hb
 by_cases a:k=n
 ·subst a;rw[aB] at ho;exact hk b ho p x hx hb hw
 rw[aG _ _ a] at ho;exact h.qL k b ho p x hx hb hw
theorem Fit.alone(h:Fit L K w t)(hK:∀j,j≠i→∀b,¬(K j).knows b)(s:St)(ha:aR s w)
 (zf:∀b,s.knows b→L b≠none∨(K i).knows b)(jA:∀b,s.knows b→∀p x,touchAt t p=some x→x.kind= .plain→blk x.loc=some b→Knows t i p):
 Fit (fun _=>none) (fE K i s) w t:=by
 have aBk:∀b,s.knows b→∀p x,touchAt t p=some x→blk x.loc=some b→x.kind= .plain:=fun b hb p x hx hxb=>by
  by_cases e:x.kind= .plain
  ·exact e
  have hs:=h.sync p x b hx e hxb
  exact((zf b hb).elim (fun h'=>h' hs.1) fun h'=>hs.2 i h').elim
 have hk:∀b,s.knows b→∀p x,touchAt t p=some x→blk x.loc=some b→Knows t i p:=fun b hb p x hx hxb=>jA b hb p x hx (aBk b hb p x hx hxb) hxb
 refine⟨fun b o hl=>((by cases hl)),fun _ _ _=>rfl,fun k=>?_,fun k l b SB ho hb=>?_,fun k b ho p x hx hb=>?_,fun k b ho p x hx hb hw=>?_,h.old,h.clean,fun p x b hx hkd hb=>⟨rfl,fun k bV=>?_⟩⟩
 case refine_5=>
  by_cases a:k=i
  ·subst a;rw[aB] at bV;exact hkd (aBk b bV p x hx hb)
  rw[aG _ _ a] at bV;exact hK k a b bV
 ·by_cases a:k=i
  ·subst a;rw[aB];exact ha
  rw[aG _ _ a];exact h.jC k
 ·by_cases a:k=i
  ·rw[aG _ _ (fun e=>SB (a.trans e.symm))] at hb;exact hK l (fun e=>SB (a.trans e.symm)) b hb
  rw[aG _ _ a] at ho;exact hK k a b (.inr ho)
 ·by_cases a:k=i
  ·subst a;rw[aB] at ho;exact hk b (.inr ho) p x hx hb
  rw[aG _ _ a] at ho;exact absurd (.inr ho) (hK k a b)
 by_cases a:k=i
 ·subst a;rw[aB] at ho;exact hk b (.inl ho) p x hx hb
 rw[aG _ _ a] at ho;exact absurd (.inl ho) (hK k a b)
end
inductive Tree:Type
 |leaf
 |node (f:World→Tree)
inductive Tree.Lt:Tree→Tree→Prop
 |mk (f:World→Tree) (w:World):Tree.Lt (f w) (.node f)
theorem Tree.wf:WellFounded Tree.Lt:=by
 refine⟨fun t=>?_⟩
 induction t with
 |leaf=>exact⟨_,fun y h=>(by cases h)⟩
 |node f ih=>exact⟨_,fun y h=>by cases h;exact ih _⟩
def oz(P:Program)(main:Bool)(Stop:Goroutine→St→Prop):Tree→Goroutine→St→Prop
 | .leaf,g,s=>Stop g s
 | .node f,g,s=>g.status= .running∧∀w,aR s w→∃g' w' es s',stepG P main g w= .go g' w' es∧g'.status= .running∧Trans s w s' w' es∧oz P main Stop (f w) g' s'
theorem St.le.trans{a b c:St}(h:a.le b)(k:b.le c):a.le c:=by
 obtain⟨R,h1,h2⟩:=h
 obtain⟨R',k1,k2⟩:=k
 refine⟨R++R',?_,fun x o hx=>?_⟩
 ·rw[←List.append_assoc];exact k1.trans (h1.append_right R')
 rcases h2 x o hx with h3|h3
 ·exact(k2 x o h3).imp id fun h'=>by simp[h']
 exact .inr (by simp[h3])
theorem Trans.le{w:World}{es:Array Event}(h:Trans s w s' w' es)(hl:gV.le s'):Trans s w gV w' es:=
 ⟨h.jC.of_le hl,h.size,h.frame,fun b hb=>h.own b (hl.iN hb),fun b hb=>(hl.ro hb).elim (h.Mb b) fun ho=>(h.own b ho).imp id .inr,h.os,h.output,h.tape,h.uW,h.low⟩
def eF(P:Program)(main:Bool)(Stop:Goroutine→St→Prop)(g:Goroutine)(s:St):Prop:=∃tr gV,gV.le s∧oz P main Stop tr g gV
theorem dN(P:Program)(main:Bool)(Stop:Goroutine→St→Prop):Closed P main (eF P main Stop) where
 step:=fun g s hs h=>by
  have key:∀w,∃tr,aR s w→∃g' w' es s',stepG P main g w= .go g' w' es∧g'.status= .running∧Trans s w s' w' es∧oz P main Stop tr g' s':=fun w=>by
   by_cases ha:aR s w
   ·obtain⟨g',w',es,s',h1,h2,h3,tr,gV,hl,h4⟩:=h w ha
    exact⟨tr,fun _=>⟨g',w',es,gV,h1,h2,h3.le hl,h4⟩⟩
   exact⟨.leaf,fun uv=>absurd uv ha⟩
  refine⟨.node fun w=>(key w).choose,s,St.le_refl s,hs,fun w ha=>(key w).choose_spec ha⟩
 mono:=fun g s s' hl ⟨tr,gV,h,ht⟩=>⟨tr,gV,h.trans hl,ht⟩
theorem eF.stop{Stop:Goroutine→St→Prop}(h:Stop g s):eF P main Stop g s:=⟨.leaf,s,St.le_refl s,h⟩
section
variable {α:Type}
inductive One(r:α→α→Prop):List α→List α→Prop
 |mk (a:List α) (x y:α) (b:List α):r y x→One r (a++y::b) (a++x::b)
theorem One.cons_inv{r:α→α→Prop}{x:α}{l m:List α}(h:One r m (x::l)):(∃y,m=y::l∧r y x)∨∃l',m=x::l'∧One r l' l:=by
 generalize hk:x::l=k at h
 obtain⟨a,u,v,b,hr⟩:=h
 cases a with
 |nil=>simp only[List.nil_append,List.cons.injEq] at hk;obtain⟨rfl,rfl⟩:=hk;exact .inl ⟨v,rfl,hr⟩
 |cons c a=>simp only[List.cons_append,List.cons.injEq] at hk;obtain⟨rfl,rfl⟩:=hk;exact .inr ⟨_,rfl,.mk a u v b hr⟩
theorem One.acc{r:α→α→Prop}:∀l:List α,(∀x∈l,Acc r x)→Acc (One r) l
 | [],_=>⟨_,fun m h=>by
  generalize hk:([]:List α)=k at h
  obtain⟨a,u,v,b,hr⟩:=h
  cases a<;>simp at hk⟩
 |x::l,h=>by
  have hl:=One.acc l fun y hy=>h y (List.mem_cons_of_mem _ hy)
  have hx:=h x (List.mem_cons_self ..)
  clear h
  induction hx generalizing l with
  |intro x hx ihx=>
   clear hx
   induction hl with
   |intro l hl ihl=>
    refine⟨_,fun m hm=>?_⟩
    rcases hm.cons_inv with ⟨y,rfl,hr⟩| ⟨l',rfl,hr⟩
    ·exact ihx y hr l ⟨_,hl⟩
    exact ihl l' hr
theorem One.wf{r:α→α→Prop}(h:WellFounded r):WellFounded (One r):=⟨fun l=>One.acc l fun x _=>h.apply x⟩
theorem One.set{r:α→α→Prop}{l:List α}{x y:α}(h:l[i]?=some x) (hr:r y x):One r (l.set i y) l:=by
 obtain⟨hi,rfl⟩:=List.getElem?_eq_some_iff.1 h
 have e1:l=l.take i++l[i]::l.drop (i+1):=by
  rw[List.getElem_cons_drop,List.take_append_drop]
 have e2:l.set i y=l.take i++y::l.drop (i+1):=by
  rw[List.set_eq_take_append_cons_drop,if_pos hi]
 rw[e2]
 conv=>rhs;rw[e1]
 exact .mk _ _ _ _ hr
end
open Go.ConcR (KK wgBlock WgAt stA smA rd wr)
abbrev said(m:Mark):Event:=Go.ConcR.mk m
def Pure(P:Program)(main:Bool)(Live:World→Prop)(Stop:Goroutine→Prop):Nat→Goroutine→Prop
 |0,g=>Stop g
 |n+1,g=>g.status= .running∧∃g',(∀w,Live w→stepG P main g w= .go g' w #[])∧Pure P main Live Stop n g'
structure dM(ι:Type) where
 P:Program
 ty:TypeId
 Wg:Nat
 Ch:Nat
 max:Nat
 z:Value
 os:Os
 out:Array (Nat×ByteArray)
 VP:ι→Value→List (Nat×Obj)→Prop
section
variable {ι:Type} (E:dM ι)
def dM.live(w:World):Prop:=∃st sm,WgAt E.ty E.Wg w st sm
def dM.pure(main:Bool)(Stop:Goroutine→Prop)(g:Goroutine):Prop:=∃n,Pure E.P main E.live Stop n g
def dM.D4(g:Goroutine):Prop:=g.status= .running∧mayWake E.P g=true∧∃g',(∀w,WgAt E.ty E.Wg w 0 0→stepG E.P false g w= .go g' (w.setCell (smA E.Wg) (.int .u32 1)) (semEvents (smA E.Wg)))∧∃q,QuitsD E.P q 1 g'
def dM.D3(g:Goroutine):Prop:=g.status= .running∧∃g',(∀w,WgAt E.ty E.Wg w 1 0→stepG E.P false g w= .go g' (w.setCell (stA E.Wg) (.int .u64 0)) #[wr (stA E.Wg)])∧E.pure false E.D4 g'
def dM.D2(g:Goroutine):Prop:=g.status= .running∧∃g',(∀w,WgAt E.ty E.Wg w 1 0→stepG E.P false g w= .go g' w #[rd (stA E.Wg)])∧E.pure false E.D3 g'
def dM.D1(g:Goroutine):Prop:=g.status= .running∧∀v wt:Nat,wt≤1→v <E.max→
 ∃g',(∀w,WgAt E.ty E.Wg w (((v+1:Nat):Int)*KK+(wt:Int)) 0→stepG E.P false g w= .go g' (w.setCell (stA E.Wg) (.int .u64 ((v:Int)*KK+(wt:Int)))) #[rd (stA E.Wg),wr (stA E.Wg)])∧
  ((v=0∧wt=1)→E.pure false E.D2 g')∧(¬(v=0∧wt=1)→∃q,QuitsD E.P q 1 g')
def dM.K1(g:Goroutine):Prop:=g.status= .running∧∃g',(∀w,stepG E.P false g w= .go g' w #[said .disable])∧E.pure false E.D1 g'
def dM.R0(g:Goroutine):Prop:=g.status= .running∧∃g',(∀w,stepG E.P false g w= .go g' w #[said (.releaseMerge (stA E.Wg))])∧E.pure false E.K1 g'
def dM.Ii(g:Goroutine)(_:St):Prop:=E.pure false E.R0 g
def dM.Jj(o:ι)(g:Goroutine)(s:St):Prop:=g.status= .running∧∃p9 v zs X Y,s.rw.Perm (X++Y)∧E.VP o v X∧
 (∀w,aR s w→stepG E.P false g w= .comm p9 #[scase E.Ch v zs] true .send w #[])∧∃tr gV,gV.le ⟨s.ro,Y⟩∧oz E.P false E.Ii tr (Conc.served p9 undef) gV
def dM.Ji(g:Goroutine)(_:St):Prop:=g.status= .running∧mayWake E.P g=true∧
 ∃g',(∀w s r tm,w.heap[E.Ch]?=some (.chan 0 #[] false s r tm)→stepG E.P false g w= .go g' {w with heap:=w.heap.setIfInBounds E.Ch (.chan 0 #[] true s r tm)} #[⟨.obj E.Ch,false,true⟩,⟨.obj E.Ch,true,true⟩])∧∃q,QuitsD E.P q 0 g'
def dM.Aq(s:St)(g:Goroutine):Prop:=g.status= .running∧∃g',(∀w,stepG E.P false g w= .go g' w #[said (.acquire (stA E.Wg))])∧∃tr gV,gV.le s∧oz E.P false E.Ji tr g' gV
def dM.Ke(s:St)(g:Goroutine):Prop:=g.status= .running∧∃g',(∀w,stepG E.P false g w= .go g' w #[said .enable])∧E.pure false (E.Aq s) g'
def dM.W4(s:St)(g:Goroutine):Prop:=g.status= .running∧∃g',(∀w,WgAt E.ty E.Wg w 0 0→stepG E.P false g w= .go g' w #[rd (stA E.Wg)])∧E.pure false (E.Ke s) g'
def dM.W3(s:St)(g:Goroutine):Prop:=g.status= .running∧g.offers=none∧(∀w st,WgAt E.ty E.Wg w st 0→stepG E.P false g w= .go {g with status:= .blocked} w #[])∧
 ∃g',(∀w,WgAt E.ty E.Wg w 0 1→stepG E.P false g w= .go g' (w.setCell (smA E.Wg) (.int .u32 0)) (semEvents (smA E.Wg)))∧E.pure false (E.W4 s) g'
def dM.Wr(s:St)(g:Goroutine):Prop:=g.status= .running∧∃g',(∀w,stepG E.P false g w= .go g' w #[said (.write (smA E.Wg))])∧E.pure false (E.W3 s) g'
def dM.W2(ajq:Goroutine→Prop)(s:St)(vs:Nat)(g:Goroutine):Prop:=g.status= .running∧
 (∃g',(∀w,WgAt E.ty E.Wg w ((vs:Int)*KK) 0→stepG E.P false g w= .go g' (w.setCell (stA E.Wg) (.int .u64 ((vs:Int)*KK+1))) #[rd (stA E.Wg),wr (stA E.Wg)])∧E.pure false (E.Wr s) g')∧
 ∀v:Nat,v <vs→∃g',(∀w,WgAt E.ty E.Wg w ((v:Int)*KK) 0→stepG E.P false g w= .go g' w #[rd (stA E.Wg)])∧ajq g'
def dM.W1(E:dM ι)(s:St):Nat→Goroutine→Prop
 |0,g=>g.status= .running∧∃g',(∀w,WgAt E.ty E.Wg w 0 0→stepG E.P false g w= .go g' w #[rd (stA E.Wg)])∧E.pure false (E.Ke s) g'
 |b+1,g=>g.status= .running∧(∃g',(∀w,WgAt E.ty E.Wg w 0 0→stepG E.P false g w= .go g' w #[rd (stA E.Wg)])∧E.pure false (E.Ke s) g')∧
  ∀v,1≤v→v≤b+1→∃g',(∀w,WgAt E.ty E.Wg w ((v:Int)*KK) 0→stepG E.P false g w= .go g' w #[rd (stA E.Wg)])∧E.pure false (E.W2 (E.pure false (E.W1 s b)) s v) g'
def dM.Kd(s:St)(g:Goroutine):Prop:=g.status= .running∧∃g',(∀w,stepG E.P false g w= .go g' w #[said .disable])∧E.pure false (E.W1 s E.max) g'
def dM.closes(s:St)(g:Goroutine):Prop:=E.pure false (E.Kd s) g
inductive WK where
 |r0|k1|d1|d2|d3|d4
inductive ar(ι:Type) where
 |leave (q d:Nat) (cur:Bool)
 |work (o:ι) (tr:Tree)
 |gk (o:ι)
 |back (tr:Tree)
 |st (k:WK) (n:Nat)
 |closer
def WK.stop:WK→Goroutine→Prop
 | .r0=>E.R0| .k1=>E.K1| .d1=>E.D1| .d2=>E.D2| .d3=>E.D3| .d4=>E.D4
def WK.deaf:WK→Nat
 | .r0| .k1=>0
 |_=>1
def WK.said:WK→Bool
 | .r0=>false
 |_=>true
def WK.Mi:WK→Nat
 | .r0=>6| .k1=>5| .d1=>4| .d2=>3| .d3=>2| .d4=>1
inductive CK where
 |kd|w1 (b:Nat)|w2 (b vs:Nat)|wr|w3|blk|w4|ke|aq|run (tr:Tree)
def CK.deaf:CK→Nat
 | .kd| .aq| .run _=>0
 |_=>1
def ep(t:Trace)(i:Nat):Prop:=∀p,t.g? p=some i→t.counts p→∃j,t.g? j=some 0∧HappensBefore t p j
def nG(t:Trace)(i:Nat)(s:St)(g:Goroutine):ar ι→Prop
 | .leave q d cur=>s=⟨fun _=>none,[]⟩∧QuitsD E.P q d g∧Deaf t i=d∧(cur=true→∃r,ConcN.RelBy (stA E.Wg) t i r)∧(cur=false→ep t i)
 | .work o tr=>Deaf t i=0∧oz E.P false (E.Jj o) tr g s
 | .gk o=>Deaf t i=0∧∃uL p9 v zs X Y,g=parked p9 #[scase E.Ch v zs] .send∧s.rw.Perm (X++Y)∧E.VP o v X∧uL=p9∧∃tr gV,gV.le ⟨s.ro,Y⟩∧oz E.P false E.Ii tr (Conc.served p9 undef) gV
 | .back tr=>Deaf t i=0∧oz E.P false E.Ii tr g s
 | .st k n=>s=⟨fun _=>none,[]⟩∧Deaf t i=k.deaf∧Pure E.P false E.live (k.stop E) n g∧(k.said=true→∃r,ConcN.RelBy (stA E.Wg) t i r)
 | .closer=>True
def CK.at(s:St)(g:Goroutine)(n:Nat):CK→Prop
 | .kd=>Pure E.P false E.live (E.Kd s) n g
 | .w1 b=>Pure E.P false E.live (E.W1 s b) n g
 | .w2 b vs=>Pure E.P false E.live (E.W2 (E.pure false (E.W1 s b)) s vs) n g
 | .wr=>Pure E.P false E.live (E.Wr s) n g
 | .w3=>∃m,n=m+1∧Pure E.P false E.live (E.W3 s) m g
 | .blk=>n=0∧∃uL,E.W3 s uL∧g={uL with status:= .blocked}
 | .w4=>Pure E.P false E.live (E.W4 s) n g
 | .ke=>Pure E.P false E.live (E.Ke s) n g
 | .aq=>Pure E.P false E.live (E.Aq s) n g
 | .run tr=>n=0∧oz E.P false E.Ji tr g s
end
section
variable {ι:Type} {E:dM ι} {t u:Trace} {i j:Nat} {s:St} {g:Goroutine}
theorem Pure.running{Live:World→Prop}(hS:∀g,Stop g→g.status= .running):∀ {n:Nat} {g:Goroutine},Pure P main Live Stop n g→g.status= .running
 |0,_,h=>hS _ h
 |_+1,_,h=>h.1
theorem dM.pure.running(hS:∀g,Stop g→g.status= .running)(h:E.pure main Stop g):g.status= .running:=Pure.running hS h.choose_spec
theorem WK.running:∀(k:WK) (g:Goroutine),k.stop E g→g.status= .running
 | .r0,_,h=>h.1
 | .k1,_,h=>h.1
 | .d1,_,h=>h.1
 | .d2,_,h=>h.1
 | .d3,_,h=>h.1
 | .d4,_,h=>h.1
theorem oz.running{Stop:Goroutine→St→Prop}(hS:∀g s,Stop g s→g.status= .running):∀ {tr:Tree} {g:Goroutine} {s:St},oz P main Stop tr g s→g.status= .running
 | .leaf,_,_,h=>hS _ _ h
 | .node _,_,_,h=>h.1
theorem ep.other(h:ep t j)(hu:∀op∈u,op.g≠j):ep (t++u) j:=by
 intro p hp hc
 obtain⟨op,ho,hg⟩:=Option.map_eq_some_iff.1 hp
 rcases getElem?_append_cases ho with ⟨cK,_⟩| ⟨_,hm⟩
 ·obtain⟨q,h1,h2⟩:=h p (by rw[←g?_old (u:=u) cK];exact hp) ((counts_old cK).1 hc)
  have hq:q <t.size:=by
   obtain⟨o,ho,_⟩:=Option.map_eq_some_iff.1 h1
   exact lt_size_of_getElem? ho
  exact⟨q,by rw[g?_old hq];exact h1,hb_app u h2⟩
 exact absurd hg (hu op hm)
theorem RelBy.other{a:Addr}{r:Nat}(h:ConcN.RelBy a t j r)(hu:∀op∈u,op.g≠j):ConcN.RelBy a (t++u) j r:=by
 refine h.app fun p hp hg=>?_
 obtain⟨op,ho,hgo⟩:=Option.map_eq_some_iff.1 hg
 rcases getElem?_append_cases ho with ⟨cK,_⟩| ⟨_,hm⟩
 ·omega
 exact absurd hgo (hu op hm)
theorem gF(t:Trace){g:Nat}(u:Trace)(hu:∀op∈u,op.g≠g):Deaf (t++u) g=Deaf t g:=by
 obtain⟨l⟩:=u
 rw[Deaf_append]
 induction l generalizing t with
 |nil=>rfl
 |cons y l ih=>
  have hy:y.g≠g:=hu y (by simp)
  have e1:deafStep g (Deaf t g) y=Deaf t g:=by
   unfold deafStep
   split<;>simp[hy]
  rw[List.foldl_cons,e1]
  exact ih t (fun op ax=>hu op (by simp at ax ⊢;exact .inr ax))
theorem nG.other{r:ar ι}(h:nG E t j s g r)(hu:∀op∈u,op.g≠j):nG E (t++u) j s g r:=by
 have hd:=gF t u hu
 cases r with
 |leave q d cur=>exact⟨h.1,h.2.1,by rw[hd];exact h.2.2.1,fun hc=>let ⟨r,hr⟩:=h.2.2.2.1 hc;⟨r,RelBy.other hr hu⟩,fun hc=>(h.2.2.2.2 hc).other hu⟩
 |work o tr=>exact⟨by rw[hd];exact h.1,h.2⟩
 |gk o=>exact⟨by rw[hd];exact h.1,h.2⟩
 |back tr=>exact⟨by rw[hd];exact h.1,h.2⟩
 |st k n=>exact⟨h.1,by rw[hd];exact h.2.1,h.2.2.1,fun hc=>let ⟨r,hr⟩:=h.2.2.2 hc;⟨r,RelBy.other hr hu⟩⟩
 |closer=>trivial
theorem nG.running{r:ar ι}(h:nG E t j s g r)(h1:∀o,r≠ .gk o)(h2:r≠ .closer):g.status= .running∨g.status= .finished:=by
 cases r with
 |leave q d cur=>exact h.2.1.status
 |work o tr=>exact .inl (oz.running (fun _ _ x=>x.1) h.2)
 |gk o=>exact absurd rfl (h1 o)
 |back tr=>exact .inl (oz.running (fun _ _ x=>dM.pure.running (fun _ y=>y.1) x) h.2)
 |st k n=>exact .inl (Pure.running (WK.running k) h.2.2.1)
 |closer=>exact absurd rfl h2
theorem nG.woken{r:ar ι}(h:nG E t j s g r)(h2:r≠ .closer){a a':Goroutine}(ho:(∃o,r= .gk o)→∃sn rc tm,w'.heap[E.Ch]?=some (.chan 0 #[] false sn rc tm)):
 woken E.P a a' w' g=g:=by
 by_cases hb:∃o,r= .gk o
 ·obtain⟨sn,rc,tm,hc⟩:=ho hb
  obtain⟨o,rfl⟩:=hb
  obtain⟨_,uL,p9,v,zs,X,Y,rfl,_⟩:=h
  exact woken_send_open a a' hc
 have:=h.running (fun o e=>hb ⟨o,e⟩) h2
 unfold Go.Conc.woken
 split
 ·exact again_running _ this
 rfl
def VQ(w w':World):Prop:=w'.os=w.os∧w'.output=w.output
structure Base(E:dM ι)(L:Nat→Option Obj)(K:Nat→St)(gs:Array Goroutine)(w:World)(t:Trace)(D:List (ar ι)):Prop where
 fit:Fit L K w t
 size:gs.size=D.length+1
 ok:∀i r,D[i]?=some r→∃g,gs[i+1]?=some g∧nG E t (i+1) (K (i+1)) g r
 far:∀i,gs.size≤i→∀b,¬(K i).knows b
 ops:∀op∈t,op.g <gs.size
 same:w.os=E.os∧w.output=E.out
theorem fO{k:Nat}{x:Goroutine}(hki:k≠i)(hk:gs[k]?=some x):((gs.map (woken P g g' w')).setIfInBounds i g')[k]?=some (woken P g g' w' x):=by
 rw[Array.getElem?_setIfInBounds_ne (Ne.symm hki)];simp[hk]
theorem Base.step{L:Nat→Option Obj}{K:Nat→St}{w:World}{D:List (ar ι)}(h:Base E L K gs w t D){r':ar ι}(hi:i <D.length) 
 (hu:∀op∈u,op.g=i+1)(QB:VQ w w')(mJ:Fit L (fE K (i+1) s') w' (t++u))(hr:nG E (t++u) (i+1) s' g' r')
 (ho:∀(k:Nat) (o:ι),k≠i→D[k]?=some (.gk o)→∃sn rc tm,w'.heap[E.Ch]?=some (.chan 0 #[] false sn rc tm)):
 Base E L (fE K (i+1) s') ((gs.map (woken E.P g g' w')).setIfInBounds (i+1) g') w' (t++u) (D.set i r'):=by
 refine⟨mJ,by simp[h.size],fun k r hk=>?_,fun k hk=>?_,fun op ax=>?_,⟨QB.1.trans h.same.1,QB.2.trans h.same.2⟩⟩
 ·by_cases e:k=i
  ·subst e
   have lH:r=r':=by simpa [List.getElem?_set,hi] using hk.symm
   subst lH
   exact⟨g',by simp[h.size,hi],by rw[aB];exact hr⟩
  rw[List.getElem?_set_ne (Ne.symm e)] at hk
  obtain⟨x,hx,eZ⟩:=h.ok k r hk
  have dK:k+1≠i+1:=by omega
  rw[aG K s' dK]
  have aax:=eZ.other (u:=u) fun op ax=>by rw[hu op ax];omega
  by_cases hc:r= .closer
  ·subst hc;exact⟨_,fO dK hx,trivial⟩
  refine⟨x,?_,aax⟩
  rw[fO dK hx,eZ.woken hc fun⟨o,e'⟩=>ho k o e (e'▸hk)]
 ·rw[Array.size_setIfInBounds,Array.size_map] at hk
  rw[aG K s' (by have:=h.size;omega)]
  exact h.far k hk
 rw[Array.size_setIfInBounds,Array.size_map]
 rcases Array.mem_append.1 ax with h'|h'
 ·exact h.ops op h'
 rw[hu op h',h.size];omega
end
def ar.cnt:ar ι→Nat
 | .work .. | .gk _| .back _| .st .r0 _| .st .k1 _| .st .d1 _=>1
 |_=>0
def ar.c4:ar ι→Nat
 | .st .d2 _=>1
 |_=>0
def ar.c3:ar ι→Nat
 | .st .d3 _=>1
 |_=>0
def ar.c2:ar ι→Nat
 | .st .d4 _=>1
 |_=>0
def ar.WQ:ar ι→Option ι
 | .work o _| .gk o=>some o
 |_=>none
def ar.early:ar ι→Prop
 | .leave _ _ c=>c=false
 | .work .. | .gk _=>True
 |_=>False
def ar.cur:ar ι→Bool
 | .leave _ _ c=>c
 |_=>false
def ar.left:ar ι→Bool
 | .leave .. =>true
 |_=>false
def fe(f:ar ι→Nat)(D:List (ar ι)):Nat:=(D.map f).sum
theorem jv(f:ar ι→Nat){x y:ar ι}:∀ {D:List (ar ι)} {i:Nat},D[i]?=some x→fe f (D.set i y)+f x=fe f D+f y
 | [],i,h=>by simp at h
 |a::D,0,h=>by simp only[List.getElem?_cons_zero,Option.some.injEq] at h;subst h;simp[fe];omega
 |a::D,i+1,h=>by
  have:=jv f (y:=y) (D:=D) (i:=i) (by simpa using h)
  simp only[fe,List.set_cons_succ,List.map_cons,List.sum_cons] at this ⊢;omega
def CK.early:CK→Prop
 | .kd| .w1 _| .w2 .. | .wr=>True
 |_=>False
def CK.waits:CK→Prop
 | .wr| .w3| .blk=>True
 |_=>False
def CK.over:CK→Prop
 | .w4| .ke| .aq| .run _=>True
 |_=>False
inductive Md(mx:Nat):(n n4 n3 n2:Nat)→Option CK→Int→Int→Prop
 |start {n:Nat}:Md mx n 0 0 0 none ((n:Int)*KK) 0
 |kd {n:Nat}:Md mx n 0 0 0 (some .kd) ((n:Int)*KK) 0
 |w1 {n b:Nat}:n≤b→Md mx n 0 0 0 (some (.w1 b)) ((n:Int)*KK) 0
 |w2 {n b v:Nat}:n≤v→1≤v→v≤b+1→Md mx n 0 0 0 (some (.w2 b v)) ((n:Int)*KK) 0
 |reg {n:Nat} {c:CK}:c.waits→1≤n→Md mx n 0 0 0 (some c) ((n:Int)*KK+1) 0
 |l4 {c:CK}:c.waits→Md mx 0 1 0 0 (some c) 1 0
 |l3 {c:CK}:c.waits→Md mx 0 0 1 0 (some c) 1 0
 |l2 {c:CK}:c.waits→Md mx 0 0 0 1 (some c) 0 0
 |sema {c:CK}:c.waits→c≠ .blk→Md mx 0 0 0 0 (some c) 0 1
 |over {c:CK}:c.over→Md mx 0 0 0 0 (some c) 0 0
section
variable {ι:Type} (E:dM ι)
def AcqAll(t:Trace)(D:List (ar ι))(ic:Nat):Prop:=
 ∃q,t.act? q=some (.mark (.acquire (stA E.Wg)))∧t.g? q=some (ic+1)∧t.heard q∧∀(i:Nat) (r:ar ι),D[i]?=some r→r.cur=true→∃p,ConcN.RelBy (stA E.Wg) t (i+1) p∧p <q
def dM.At(x:Touch):Prop:=blk x.loc=some E.Wg∨blk x.loc=some E.Ch
abbrev zk:=Option (Nat×CK×Nat)
def ajA(K:Nat→St)(gs:Array Goroutine)(t:Trace)(D:List (ar ι)):zk→Prop
 |none=>∀r∈D,r.early
 |some (ic,c,n)=>D[ic]?=some .closer∧(∀k,D[k]?=some .closer→k=ic)∧Deaf t (ic+1)=c.deaf∧(∃gc,gs[ic+1]?=some gc∧c.at E (K (ic+1)) gc n)∧((∃tr,c= .run tr)→AcqAll E t D ic)
def aRP(t:Trace):zk→Prop
 |none=>∀p x,touchAt t p=some x→blk x.loc=some E.Wg→x.kind= .said→Knows t 0 p
 |some (ic,c,_)=>c.early→∀p x,touchAt t p=some x→blk x.loc=some E.Wg→x.kind= .said→Knows t (ic+1) p
structure Sy(L:Nat→Option Obj)(K:Nat→St)(gs:Array Goroutine)(w:World)(t:Trace)(D:List (ar ι))(pend:Nat)(cl:zk):Prop where
 kW:∀i,¬(K i).knows E.Wg
 kC:∀i,¬(K i).knows E.Ch
 lW:L E.Wg=none
 lC:L E.Ch=none
 ne:E.Wg≠E.Ch
 norel:∀a,NoRelease a t
 plain:∀i,(i=0∨∃k r,i=k+1∧D[k]?=some r∧r.left=false)→∀p x,touchAt t p=some x→E.At x→x.kind= .plain→Knows t i p
 said:aRP E t cl
 cells:∃st sm,WgAt E.ty E.Wg w st sm∧Md E.max (fe ar.cnt D+pend) (fe ar.c4 D) (fe ar.c3 D) (fe ar.c2 D) (cl.map (·.2.1)) st sm
 BQ:fe ar.cnt D+pend≤E.max
 chan:∃sn rc tm,w.heap[E.Ch]?=some (.chan 0 #[] false sn rc tm)
 bal:∀sn rc tm,w.heap[E.Ch]?=some (.chan 0 #[] false sn rc tm)→sn=rc
 Ex:ajA E K gs t D cl
end
inductive y7:zk→zk→Prop
 |same (c:zk):y7 c c
 |up (ic:Nat):y7 (some (ic,.blk,0)) (some (ic,.w3,1))
section
variable {ι:Type} {E:dM ι}
theorem CK.tZ:∀ {c:CK},c.at E s g n→c≠ .blk→g.status= .running
 | .kd,h,_=>Pure.running (fun _ x=>x.1) h
 | .w1 b,h,_=>Pure.running (fun _ x=>by cases b<;>exact x.1) h
 | .w2 _ _,h,_=>Pure.running (fun _ x=>x.1) h
 | .wr,h,_=>Pure.running (fun _ x=>x.1) h
 | .w3,⟨_,_,h⟩,_=>Pure.running (fun _ x=>x.1) h
 | .blk,_,h=>absurd rfl h
 | .w4,h,_=>Pure.running (fun _ x=>x.1) h
 | .ke,h,_=>Pure.running (fun _ x=>x.1) h
 | .aq,h,_=>Pure.running (fun _ x=>x.1) h
 | .run _,⟨_,h⟩,_=>oz.running (fun _ _ x=>x.1) h
theorem CK.tries{c:CK}{gc:Goroutine}(h:c.at E s gc n)(a a':Goroutine)(w':World):
 ∃c' n',y7 (some (ic,c,n)) (some (ic,c',n'))∧c'.at E s (woken E.P a a' w' gc) n'∧(mayWake E.P a=true→(a'.status= .running∨a'.status= .finished)→c'≠ .blk)∧c'.deaf=c.deaf:=by
 by_cases hb:c= .blk
 ·subst hb
  obtain⟨rfl,uL,hg,rfl⟩:=h
  by_cases hw:(mayWake E.P a&&a'.status != .blocked&&a'.status != .waiting)=true
  ·refine⟨.w3,1,.up ic,⟨0,rfl,?_⟩,fun _ _=>by simp,rfl⟩
   have:woken E.P a a' w' {uL with status:= .blocked}=uL:=by
    have h1:=hg.1;have h2:=hg.2.1
    obtain⟨f,cs,stt,dy,of⟩:=uL
    simp only at h1 h2
    subst h1 h2
    simp[Go.Conc.woken,hw,Goroutine.again]
   rw[this];exact hg
  refine⟨.blk,0,.same _,⟨rfl,uL,hg,by simp[Go.Conc.woken,hw]⟩,fun h1 h2=>absurd ?_ hw,rfl⟩
  rcases h2 with h2|h2<;>simp[h1,h2]
 refine⟨c,n,.same _,?_,fun _ _=>hb,rfl⟩
 have:woken E.P a a' w' gc=gc:=by
  unfold Go.Conc.woken
  split
  ·exact again_running _ (.inl (CK.tZ h hb))
  rfl
 rw[this];exact h
end
section
variable {ι:Type} {E:dM ι} {L:Nat→Option Obj} {K:Nat→St} {gs:Array Goroutine} {w w':World} {t u:Trace} {D:List (ar ι)} {pend:Nat} {cl:zk}
theorem AcqAll.step{r r':ar ι}(h:AcqAll E t D ic)(hi:D[i]?=some r) (hu:∀op∈u,op.g=i+1) (Hb:r'.cur=true→r.cur=true)
 (gP:r'.cur=true→∀p,ConcN.RelBy (stA E.Wg) t (i+1) p→ConcN.RelBy (stA E.Wg) (t++u) (i+1) p):AcqAll E (t++u) (D.set i r') ic:=by
 obtain⟨q,h1,h2,h3,h4⟩:=h
 have hq:=lt_of_act? h1
 refine⟨q,by rw[act?_old hq];exact h1,by rw[g?_old hq];exact h2,(heard_old hq).2 h3,fun k x hk hc=>?_⟩
 by_cases e:k=i
 ·subst e
  have cK:=(List.getElem?_eq_some_iff.1 hi).1
  have:r'=x:=by simpa [List.getElem?_set,cK] using hk
  subst this
  obtain⟨p,hp,XE⟩:=h4 k r hi (Hb hc)
  exact⟨p,gP hc p hp,XE⟩
 rw[List.getElem?_set_ne (Ne.symm e)] at hk
 obtain⟨p,hp,XE⟩:=h4 k x hk hc
 exact⟨p,RelBy.other hp (fun op ax=>by rw[hu op ax];omega),XE⟩
theorem SO(kL:∀op∈u,∀x,op.act.touch?=some x→E.At x→x.kind= .atomic){x:Touch}(hx:touchAt (t++u) p=some x)(hb:E.At x)(hk:x.kind≠ .atomic):
 touchAt t p=some x:=by
 rcases bE hx with ⟨_,h'⟩| ⟨_,op,hm,_,xL⟩
 ·exact h'
 exact absurd (kL op hm x xL hb) hk
theorem Sy.step(h:Sy E L K gs w t D pend cl)(uI:gs.size=D.length+1){r r':ar ι}(hi:D[i]?=some r) (Ds:r≠ .closer) (UB:r'≠ .closer)
 (hu:∀op∈u,op.g=i+1) (bX:¬s'.knows E.Wg) (pU:¬s'.knows E.Ch) (uV:w'.heap[E.Ch]?=w.heap[E.Ch]?)
 (kL:∀op∈u,∀x,op.act.touch?=some x→E.At x→x.kind= .atomic) (ia:∀op∈u,∀a,op.act≠ .mark (.release a))
 (xM:r'.left=false→r.left=false) (yP:r.early→r'.early) (Hb:(∃ic tr n,cl=some (ic,.run tr,n))→r'.cur=true→r.cur=true)
 (gP:r.cur=true→∀p,ConcN.RelBy (stA E.Wg) t (i+1) p→ConcN.RelBy (stA E.Wg) (t++u) (i+1) p)
 (QP:fe ar.cnt (D.set i r')≤fe ar.cnt D)
 (nu:∀cl',y7 cl cl'→(mayWake E.P g=true→(g'.status= .running∨g'.status= .finished)→∀ic n,cl'≠some (ic,.blk,n))→
  ∃st sm,WgAt E.ty E.Wg w' st sm∧Md E.max (fe ar.cnt (D.set i r')+pend) (fe ar.c4 (D.set i r')) (fe ar.c3 (D.set i r')) (fe ar.c2 (D.set i r')) (cl'.map (·.2.1)) st sm):
 ∃cl',y7 cl cl'∧Sy E L (fE K (i+1) s') ((gs.map (woken E.P g g' w')).setIfInBounds (i+1) g') w' (t++u) (D.set i r') pend cl':=by
 have cK:=(List.getElem?_eq_some_iff.1 hi).1
 have oI:∀ {k x},(D.set i r')[k]?=some x→(k=i∧x=r')∨(k≠i∧D[k]?=some x):=fun {k x} hk=>by
  by_cases e:k=i
  ·subst e
   exact .inl ⟨rfl,by simpa [List.getElem?_set,cK] using hk.symm⟩
  rw[List.getElem?_set_ne (Ne.symm e)] at hk;exact .inr ⟨e,hk⟩
 have It:∀b,¬s'.knows b→(∀j,¬(K j).knows b)→∀j,¬(fE K (i+1) s' j).knows b:=fun b h1 h2 j=>by
  by_cases e:j=i+1
  ·subst e;rw[aB];exact h1
  rw[aG _ _ e];exact h2 j
 have yQ:∀ic,ic≠i→Deaf (t++u) (ic+1)=Deaf t (ic+1):=fun ic dK=>gF t u fun op ax=>by rw[hu op ax];omega
 obtain⟨cl',Ee,aNv,iQ⟩:∃cl',y7 cl cl'∧(mayWake E.P g=true→(g'.status= .running∨g'.status= .finished)→∀ic n,cl'≠some (ic,.blk,n))∧
  ajA E (fE K (i+1) s') ((gs.map (woken E.P g g' w')).setIfInBounds (i+1) g') (t++u) (D.set i r') cl':=by
  have hc:=h.Ex
  match cl,hc,Hb with
  |none,hc,_=>
   refine⟨none,.same _,fun _ _ _ _=>by simp,fun x hx=>?_⟩
   obtain⟨k,hk⟩:=List.getElem?_of_mem hx
   rcases oI hk with ⟨_,rfl⟩| ⟨_,jA⟩
   ·exact yP (hc r (List.mem_of_getElem? hi))
   exact hc x (List.mem_of_getElem? jA)
  |some (ic,c,n),⟨h1,h2,h3,⟨gc,hg,pw⟩,h5⟩,Hb=>
   have dK:ic≠i:=fun e=>by subst e;rw[hi] at h1;exact Ds (Option.some.inj h1)
   obtain⟨c',n',hw,avR,hm,hdc⟩:=CK.tries (ic:=ic) pw g g' w'
   refine⟨some (ic,c',n'),hw,fun a b ic' n'' e=>hm a b (by cases e;rfl),by rw[List.getElem?_set_ne (Ne.symm dK)];exact h1,fun k hk=>?_,by rw[yQ ic dK,hdc];exact h3,⟨_,fO (by omega) hg,by rw[aG _ _ (by omega)];exact avR⟩,fun⟨tr,htr⟩=>?_⟩
   ·rcases oI hk with ⟨_,e⟩| ⟨_,jA⟩
    ·exact absurd e.symm UB
    exact h2 k jA
   subst htr
   cases hw with
   |same=>
    have SE:=Hb ⟨_,_,_,rfl⟩
    exact(h5 ⟨tr,rfl⟩).step hi hu SE fun hc p hp=>gP (SE hc) p hp
 refine⟨cl',Ee,⟨It _ bX h.kW,It _ pU h.kC,h.lW,h.lC,h.ne,fun a=>(h.norel a).app fun op ax=>ia op ax a,fun j hj p x hx hb hk=>?_,?_,nu cl' Ee aNv,Nat.le_trans (Nat.add_le_add_right QP _) h.BQ,?_,fun sn rc tm hc=>h.bal sn rc tm (by rw[←uV];exact hc),iQ⟩⟩
 ·refine(h.plain j ?_ p x (SO kL hx hb (by rw[hk];simp)) hb hk).app u
  rcases hj with hj| ⟨k,y,rfl,jA,hl⟩
  ·exact .inl hj
  rcases oI jA with ⟨rfl,rfl⟩| ⟨_,avc⟩
  ·exact .inr ⟨_,r,rfl,hi,xM hl⟩
  exact .inr ⟨k,y,rfl,avc,hl⟩
 ·have hs:=h.said
  match cl,cl',Ee,hs with
  |none,_,.same _,hs=>exact fun p x hx hb hk=>(hs p x (SO kL hx (.inl hb) (by rw[hk];simp)) hb hk).app u
  |some (ic,c,n),_,.same _,hs=>exact fun he p x hx hb hk=>(hs he p x (SO kL hx (.inl hb) (by rw[hk];simp)) hb hk).app u
  |_,_,.up ic,_=>exact fun he=>he.elim
 obtain⟨sn,rc,tm,hc⟩:=h.chan
 exact⟨sn,rc,tm,by rw[uV];exact hc⟩
end
def ar.mu:ar ι→Nat×Tree×Nat
 | .closer=>(10,.leaf,0)
 | .work _ tr=>(9,tr,0)
 | .gk _=>(8,.leaf,0)
 | .back tr=>(7,tr,0)
 | .st k n=>(k.Mi,.leaf,n)
 | .leave q _ _=>(0,.leaf,q)
abbrev EB:Nat×Tree×Nat→Nat×Tree×Nat→Prop:=Prod.Lex (· < ·) (Prod.Lex Tree.Lt (· < ·))
theorem EB.wf:WellFounded EB:=(Prod.lex ⟨_,Nat.lt_wfRel.wf⟩ (Prod.lex ⟨_,Tree.wf⟩ ⟨_,Nat.lt_wfRel.wf⟩)).wf
def ub(a b:ar ι):Prop:=EB a.mu b.mu
theorem ub.wf:WellFounded (ub (ι:=ι)):=InvImage.wf ar.mu EB.wf
theorem fJ{a b:Nat×Tree×Nat}(h:a.1 <b.1):EB a b:=by
 obtain⟨a1,a2⟩:=a;obtain⟨b1,b2⟩:=b
 exact Prod.Lex.left _ _ h
theorem Gr{a b:Tree}{x y:Nat}(h:Tree.Lt a b):EB (n,a,x) (n,b,y):=Prod.Lex.right _ (Prod.Lex.left _ _ h)
theorem EP{a:Tree}{x y:Nat}(h:x <y):EB (n,a,x) (n,a,y):=Prod.Lex.right _ (Prod.Lex.right _ h)
section
variable {ι:Type} {E:dM ι}
def iA(E:dM ι)(e:Event):Prop:=e=said .disable∨e=said .enable∨e=said (.releaseMerge (stA E.Wg))∨e=said (.acquire (stA E.Wg))∨∃a wr,e=⟨.cell a,wr,true⟩∧a.block=E.Wg
theorem iA.ops{es:Array Event}(h:∀e∈es,iA E e)(i:Nat)(fn:FuncId)(pos:String):∀op∈MemOp.ofEvents i fn pos es,
 op.g=i∧(∀a,op.act≠ .mark (.release a))∧∀x,op.act.touch?=some x→blk x.loc=some E.Wg∧x.kind= .atomic:=by
 intro op ax
 rw[ofEvents_eq] at ax
 obtain⟨e,he,rfl⟩:=Array.mem_map.1 ax
 rcases h e he with rfl|rfl|rfl|rfl| ⟨a,wr,rfl,ha⟩
 ·exact⟨rfl,fun a=>by simp[said,Go.ConcR.mk,MemAct.ofEvent],fun x hx=>by cases hx⟩
 ·exact⟨rfl,fun a=>by simp[said,Go.ConcR.mk,MemAct.ofEvent],fun x hx=>by cases hx⟩
 ·exact⟨rfl,fun a=>by simp[said,Go.ConcR.mk,MemAct.ofEvent],fun x hx=>by cases hx⟩
 ·exact⟨rfl,fun a=>by simp[said,Go.ConcR.mk,MemAct.ofEvent],fun x hx=>by cases hx⟩
 refine⟨rfl,fun a=>by cases wr<;>simp[MemAct.ofEvent],fun x hx=>?_⟩
 cases wr<;>(simp only[MemAct.ofEvent,MemAct.touch?,Option.some.injEq] at hx;subst hx;exact⟨by simp[blk,ha],rfl⟩)
theorem Ki{es:Array Event}(h:∀e∈es,Event.mute e=true):∀op∈MemOp.ofEvents i fn pos es,op.act.touch?=none:=by
 intro op ax
 rw[ofEvents_eq] at ax
 obtain⟨e,he,rfl⟩:=Array.mem_map.1 ax
 have:=h e he
 obtain⟨loc,wr,sy⟩:=e
 cases loc with
 |mark m=>cases m<;>first|rfl| (simp[Event.mute] at this)
 |_=>simp[Event.mute] at this
theorem Qg{es:Array Event}(h:∀e∈es,Event.mute e=true)(a:Addr):∀op∈MemOp.ofEvents i fn pos es,op.act≠ .mark (.release a):=by
 intro op ax
 rw[ofEvents_eq] at ax
 obtain⟨e,he,rfl⟩:=Array.mem_map.1 ax
 have:=h e he
 obtain⟨loc,wr,sy⟩:=e
 cases loc with
 |mark m=>cases m<;>first| (simp[MemAct.ofEvent];done)| (simp[Event.mute] at this)
 |_=>simp[Event.mute] at this
variable {L:Nat→Option Obj} {K:Nat→St} {gs:Array Goroutine} {w w':World} {t:Trace} {D:List (ar ι)} {pend d0:Nat} {cl:zk} {main:Goroutine} {sl:Option (Nat×Nat)}
structure Inv(E:dM ι)(L:Nat→Option Obj)(K:Nat→St)(gs:Array Goroutine)(w:World)(t:Trace)(D:List (ar ι))(pend:Nat)(cl:zk)(main:Goroutine)(d0:Nat):Prop where
 base:Base E L K gs w t D
 sy:Sy E L K gs w t D pend cl
 main:gs[0]?=some main
 deaf:Deaf t 0=d0
def gx(E:dM ι)(main:Goroutine):Prop:=main.status= .running∨∃m z,main=parked m #[rcase E.Ch z] (.recv true)
theorem gx.woken{main:Goroutine}(h:gx E main)(a a':Goroutine)(hc:w'.heap[E.Ch]?=some (.chan 0 #[] false sn rc tm)):woken E.P a a' w' main=main:=by
 rcases h with h| ⟨m,z,rfl⟩
 ·unfold Go.Conc.woken
  split
  ·exact again_running _ (.inl h)
  rfl
 exact woken_recv_open a a' hc
def ki(D:List (ar ι)):List ι:=D.filterMap ar.WQ
theorem Gf{r r':ar ι}(ho:r'.WQ=r.WQ):∀ {D:List (ar ι)} {i:Nat},D[i]?=some r→ki (D.set i r')=ki D
 | [],i,h=>by simp at h
 |a::D,0,h=>by simp only[List.getElem?_cons_zero,Option.some.injEq] at h;subst h;simp[ki,List.filterMap_cons,ho]
 |a::D,i+1,h=>by
  have:=Gf ho (D:=D) (i:=i) (by simpa using h)
  simp only[ki,List.set_cons_succ,List.filterMap_cons] at this ⊢
  rw[this]
def qu(E:dM ι)(L:Nat→Option Obj)(K:Nat→St)(D:List (ar ι))(pend:Nat)(cl:zk)(main:Goroutine)(d0:Nat)(m:Machine)(sl:Option (Nat×Nat))(t:Trace)(i:Nat):Prop:=
 ∃K' kS w' u D' cl',runT E.P m i=(.next (crowd kS w' sl),u)∧Inv E L K' kS w' (t++u) D' pend cl' main d0∧K' 0=K 0∧ki D'=ki D∧One ub D' D∧(cl=none→cl'=none)∧(cl≠none→cl'≠none)∧(∀o,ar.gk o∈D'→ar.gk o∈D∨main.status= .running)
theorem Inv.go'(h:Inv E L K gs w t D pend cl main d0)(hm:gx E main){r r':ar ι}(hi:D[i]?=some r) (Ds:r≠ .closer) (UB:r'≠ .closer)
 (hg:gs[i+1]?=some g) (hu:∀op∈u,op.g=i+1)
 (bU:runT E.P (crowd gs w sl) (i+1)=(.next (crowd ((gs.map (woken E.P g g' w')).setIfInBounds (i+1) g') w' sl),u)) (QB:VQ w w')
 (bX:¬s'.knows E.Wg) (pU:¬s'.knows E.Ch) (uV:w'.heap[E.Ch]?=w.heap[E.Ch]?)
 (mJ:Fit L (fE K (i+1) s') w' (t++u)) (hr:nG E (t++u) (i+1) s' g' r')
 (kL:∀op∈u,∀x,op.act.touch?=some x→E.At x→x.kind= .atomic)
 (ia:∀op∈u,∀a,op.act≠ .mark (.release a))
 (xM:r'.left=false→r.left=false) (yP:r.early→r'.early) (Hb:(∃ic tr n,cl=some (ic,.run tr,n))→r'.cur=true→r.cur=true)
 (gP:r.cur=true→∀p,ConcN.RelBy (stA E.Wg) t (i+1) p→ConcN.RelBy (stA E.Wg) (t++u) (i+1) p)
 (I6:r'.cnt≤r.cnt) (af8:r'.WQ=r.WQ) (Sz:ub r' r)
 (nu:∀cl',y7 cl cl'→(mayWake E.P g=true→(g'.status= .running∨g'.status= .finished)→∀ic n,cl'≠some (ic,.blk,n))→
  ∃st sm,WgAt E.ty E.Wg w' st sm∧Md E.max (fe ar.cnt (D.set i r')+pend) (fe ar.c4 (D.set i r')) (fe ar.c3 (D.set i r')) (fe ar.c2 (D.set i r')) (cl'.map (·.2.1)) st sm)
 (hsb:(∃o,r'= .gk o)→main.status= .running:=by rintro⟨o,e⟩;cases e):
 qu E L K D pend cl main d0 (crowd gs w sl) sl t (i+1):=by
 have cK:=(List.getElem?_eq_some_iff.1 hi).1
 obtain⟨sn,rc,tm,hc⟩:=h.sy.chan
 have sO:w'.heap[E.Ch]?=some (.chan 0 #[] false sn rc tm):=by rw[uV];exact hc
 have XX:=h.base.step (g:=g) cK hu QB mJ hr fun _ _ _ _=>⟨sn,rc,tm,sO⟩
 have QP:fe ar.cnt (D.set i r')≤fe ar.cnt D:=by have:=jv ar.cnt (y:=r') hi;omega
 obtain⟨cl',Ee,hsy⟩:=h.sy.step h.base.size hi Ds UB hu bX pU uV kL ia xM yP Hb gP QP nu
 refine⟨_,_,w',_,_,cl',bU,⟨XX,hsy,?_,?_⟩,aG _ _ (by omega),Gf af8 hi,One.set hi Sz,fun e=>?_,fun e=>?_,fun o ho=>?_⟩
 ·rw[fO (by omega) h.main,hm.woken _ _ sO]
 ·rw[gF _ _ fun op ax=>by rw[hu op ax];omega];exact h.deaf
 ·subst e;cases Ee;rfl
 ·cases Ee with
  |same=>exact e
  |up ic=>simp
 rcases List.mem_or_eq_of_mem_set ho with h'|h'
 ·exact .inl h'
 exact .inr (hsb ⟨o,h'.symm⟩)
theorem Inv.go(h:Inv E L K gs w t D pend cl main d0)(hm:gx E main){r r':ar ι}{es:Array Event}(hi:D[i]?=some r) (Ds:r≠ .closer) (UB:r'≠ .closer)
 (hg:gs[i+1]?=some g) (hgo:stepG E.P false g w= .go g' w' es) (QB:VQ w w')
 (bX:¬s'.knows E.Wg) (pU:¬s'.knows E.Ch) (uV:w'.heap[E.Ch]?=w.heap[E.Ch]?)
 (mJ:Fit L (fE K (i+1) s') w' (t++MemOp.ofEvents (i+1) g.frame.fn g.frame.place es)) (hr:nG E (t++MemOp.ofEvents (i+1) g.frame.fn g.frame.place es) (i+1) s' g' r')
 (kL:∀op∈MemOp.ofEvents (i+1) g.frame.fn g.frame.place es,∀x,op.act.touch?=some x→E.At x→x.kind= .atomic)
 (ia:∀op∈MemOp.ofEvents (i+1) g.frame.fn g.frame.place es,∀a,op.act≠ .mark (.release a))
 (xM:r'.left=false→r.left=false) (yP:r.early→r'.early) (Hb:(∃ic tr n,cl=some (ic,.run tr,n))→r'.cur=true→r.cur=true)
 (gP:r.cur=true→∀p,ConcN.RelBy (stA E.Wg) t (i+1) p→ConcN.RelBy (stA E.Wg) (t++MemOp.ofEvents (i+1) g.frame.fn g.frame.place es) (i+1) p)
 (I6:r'.cnt≤r.cnt) (af8:r'.WQ=r.WQ) (Sz:ub r' r)
 (nu:∀cl',y7 cl cl'→(mayWake E.P g=true→(g'.status= .running∨g'.status= .finished)→∀ic n,cl'≠some (ic,.blk,n))→
  ∃st sm,WgAt E.ty E.Wg w' st sm∧Md E.max (fe ar.cnt (D.set i r')+pend) (fe ar.c4 (D.set i r')) (fe ar.c3 (D.set i r')) (fe ar.c2 (D.set i r')) (cl'.map (·.2.1)) st sm)
 (hsb:(∃o,r'= .gk o)→main.status= .running:=by rintro⟨o,e⟩;cases e):
 qu E L K D pend cl main d0 (crowd gs w sl) sl t (i+1):=
 h.go' hm hi Ds UB hg (fun op ax=>Go.ConcR.g_of_ofEvents op ax) (runT_crowd_go (P:=E.P) (sl:=sl) (i:=i+1) hg (by simpa using hgo)) QB bX pU uV mJ hr kL ia xM yP Hb gP I6 af8 Sz nu hsb
end
section
variable {ι:Type} {E:dM ι} {L:Nat→Option Obj} {K:Nat→St} {gs:Array Goroutine} {w w':World} {t u:Trace} {D:List (ar ι)} {pend d0:Nat} {cl:zk} {main:Goroutine} {sl:Option (Nat×Nat)}
 {i:Nat} {g g':Goroutine} {es:Array Event}
theorem lN(K:Nat→St)(i:Nat):fE K i (K i)=K:=by
 funext j
 by_cases e:j=i
 ·subst e;rw[aB]
 rw[aG _ _ e]
theorem Md.aq5{a c:Nat}{cl cl':zk}(h:Md mx n a b c (cl.map (·.2.1)) st sm)(hw:y7 cl cl'):Md mx n a b c (cl'.map (·.2.1)) st sm:=by
 cases hw with
 |same=>exact h
 |up ic=>
  simp only[Option.map_some] at h ⊢
  cases h with
  |reg _ h2=>exact .reg trivial h2
  |l4 _=>exact .l4 trivial
  |l3 _=>exact .l3 trivial
  |l2 _=>exact .l2 trivial
  |sema _ h2=>exact absurd rfl h2
  |over h1=>exact h1.elim
theorem Inv.ql(h:Inv E L K gs w t D pend cl main d0){r r':ar ι}(hi:D[i]?=some r) (hw:w'.heap[E.Wg]?=w.heap[E.Wg]?) (h1:r'.cnt=r.cnt) (h4:r'.c4=r.c4) (h3:r'.c3=r.c3) (h2:r'.c2=r.c2):
 ∀cl',y7 cl cl'→∃st sm,WgAt E.ty E.Wg w' st sm∧Md E.max (fe ar.cnt (D.set i r')+pend) (fe ar.c4 (D.set i r')) (fe ar.c3 (D.set i r')) (fe ar.c2 (D.set i r')) (cl'.map (·.2.1)) st sm:=by
 intro cl' Ee
 obtain⟨st,sm,ha,hm⟩:=h.sy.cells
 have e1:=jv ar.cnt (y:=r') hi
 have e4:=jv ar.c4 (y:=r') hi
 have e3:=jv ar.c3 (y:=r') hi
 have e2:=jv ar.c2 (y:=r') hi
 rw[show fe ar.cnt (D.set i r')=fe ar.cnt D by omega,show fe ar.c4 (D.set i r')=fe ar.c4 D by omega,show fe ar.c3 (D.set i r')=fe ar.c3 D by omega,show fe ar.c2 (D.set i r')=fe ar.c2 D by omega]
 exact⟨st,sm,by unfold WgAt;rw[hw];exact ha,hm.aq5 Ee⟩
theorem ep.quiet(h:ep t j)(hu:∀op∈u,op.act.touch?=none):ep (t++u) j:=by
 intro p hp hc
 obtain⟨op,ho,hg⟩:=Option.map_eq_some_iff.1 hp
 rcases getElem?_append_cases ho with ⟨cK,_⟩| ⟨_,hm⟩
 ·obtain⟨q,h1,h2⟩:=h p (by rw[←g?_old (u:=u) cK];exact hp) ((counts_old cK).1 hc)
  have hq:q <t.size:=by
   obtain⟨o,ho,_⟩:=Option.map_eq_some_iff.1 h1
   exact lt_size_of_getElem? ho
  exact⟨q,by rw[g?_old hq];exact h1,hb_app u h2⟩
 obtain⟨x,hx,_⟩:=hc
 obtain⟨o',EW,lG⟩:=touch_of hx
 rw[ho] at EW;cases EW
 rw[hu op hm] at lG;cases lG
theorem TX{e:Event}(h:Event.mute e=true):(MemAct.ofEvent e).touch?=none:=by
 obtain⟨loc,wr,sy⟩:=e
 cases loc with
 |mark m=>cases m<;>first|rfl| (simp[Event.mute] at h)
 |_=>simp[Event.mute] at h
theorem Inv.leave(h:Inv E L K gs w t D pend cl main d0)(hm:gx E main){q d:Nat}{cur:Bool}(hi:D[i]?=some (.leave q d cur)) (hg:gs[i+1]?=some g) (hs:g.status= .running):
 qu E L K D pend cl main d0 (crowd gs w sl) sl t (i+1):=by
 obtain⟨eV,dg,eZ⟩:=h.base.ok i _ hi
 obtain rfl:eV=g:=by rw[hg] at dg;exact(Option.some.inj dg).symm
 obtain⟨hK,hq,hd,hc,hk⟩:=eZ
 cases q with
 |zero=>have:=hq.1;rw[hs] at this;cases this
 |succ q=>
  rcases hq with ⟨h1,_⟩| ⟨_,g',es,Sz,bS,EV⟩
  ·rw[hs] at h1;cases h1
  have hu:=Ki (i:=i+1) (fn:=eV.frame.fn) (pos:=eV.frame.place) Sz
  have hrb:∀p,ConcN.RelBy (stA E.Wg) t (i+1) p→ConcN.RelBy (stA E.Wg) (t++MemOp.ofEvents (i+1) eV.frame.fn eV.frame.place es) (i+1) p:=fun p hp=>
   ConcN.RelBy.appOwn hp _ _ _ fun j e he=> .inl (TX (Sz e (Array.mem_of_getElem? he)))
  refine h.go hm (r':= .leave q (deafBehind d es) cur) (s':=K (i+1)) (w':=w) hi (by simp) (by simp) hg (bS w) ⟨rfl,rfl⟩ (h.sy.kW _) (h.sy.kC _) rfl ?_ ?_ (fun op ax x hx=>by rw[hu op ax] at hx;cases hx) (fun op ax a=>Qg Sz a op ax)
   (fun e=>e) (fun e=>e) (fun _ e=>e) (fun _ p hp=>hrb p hp) (Nat.le_refl _) rfl (EP (Nat.lt_succ_self q)) fun cl' hw _=>h.ql (r':= .leave q (deafBehind d es) cur) hi rfl rfl rfl rfl rfl cl' hw
  ·rw[lN]
   exact h.base.fit.quiet E.Wg h.sy.kW h.sy.lW (Nat.le_refl _) (fun _ _ _=>rfl) hu
  refine⟨hK,EV,?_,fun e=>let ⟨r,hr⟩:=hc e;⟨r,hrb r hr⟩,fun e=>(hk e).quiet hu⟩
  rw[Deaf_own,hd]
theorem Sy.Aj(h:Sy E L K gs w t D pend cl)(ht:Trans (K j) w s' w' es)(fn:FuncId)(pos:String):
 ¬s'.knows E.Wg∧¬s'.knows E.Ch∧w'.heap[E.Wg]?=w.heap[E.Wg]?∧w'.heap[E.Ch]?=w.heap[E.Ch]?∧
 (∀op∈MemOp.ofEvents j fn pos es,∀x,op.act.touch?=some x→¬E.At x)∧(∀op∈MemOp.ofEvents j fn pos es,∀a,op.act≠ .mark (.release a)):=by
 obtain⟨st,sm,ha,_⟩:=h.cells
 obtain⟨sn,rc,tm,hc⟩:=h.chan
 have hW:E.Wg <w.heap.size:=lt_size ha
 have hC:E.Ch <w.heap.size:=lt_size hc
 have kn:∀b,b <w.heap.size→¬(K j).knows b→¬s'.knows b:=fun b hb hk jA=>by
  rcases jA with h'|h'
  ·rcases ht.Mb b h' with h1|h1|h1
   ·omega
   ·exact hk (.inl h1)
   exact hk (.inr h1)
  rcases ht.own b h' with h1|h1
  ·omega
  exact hk (.inr h1)
 refine⟨kn _ hW (h.kW j),kn _ hC (h.kC j),ht.frame _ hW fun ho=>h.kW j (.inr ho),ht.frame _ hC fun ho=>h.kC j (.inr ho),fun op ax x hx hb=>?_,fun op ax a e=>?_⟩
 ·obtain⟨_,b,ma,uu,_⟩:=(C6 ht.uW ax).2 x hx
  rcases hb with hb|hb
  ·obtain rfl:b=E.Wg:=by rw[hb] at ma;exact(Option.some.inj ma).symm
   rcases uu with h1|h1|h1
   ·omega
   ·exact h.kW j (.inr h1)
   exact h.kW j (.inl h1.2)
  obtain rfl:b=E.Ch:=by rw[hb] at ma;exact(Option.some.inj ma).symm
  rcases uu with h1|h1|h1
  ·omega
  ·exact h.kC j (.inr h1)
  exact h.kC j (.inl h1.2)
 rw[ofEvents_eq] at ax
 obtain⟨e',he,rfl⟩:=Array.mem_map.1 ax
 have hl:=Go.ConcR.loc_of_ofEvent e
 have:=ht.uW e' he
 unfold Ih at this
 rw[hl] at this
 simp[BL] at this
theorem xT:∀(es:List Event) (d:Nat),(∀e∈es,Ih s n e)→es.foldl (fun d e=>match e.loc with| .mark .disable=>d+1| .mark .enable=>d-1|_=>d) d=d
 | [],_,_=>rfl
 |e::es,d,h=>by
  have he:=h e (by simp)
  have:(match e.loc with| .mark .disable=>d+1| .mark .enable=>d-1|_=>d)=d:=by
   unfold Ih at he
   split<;>simp_all[BL]
  rw[List.foldl_cons,this]
  exact xT es d fun x hx=>h x (by simp[hx])
theorem Trans.deaf(ht:Trans s w s' w' es)(d:Nat):deafBehind d es=d:=by
 obtain⟨l⟩:=es
 rw[deafBehind,List.foldl_toArray']
 ·exact xT l d fun e he=>ht.uW e (by simpa using he)
 simp
theorem Inv.work(h:Inv E L K gs w t D pend cl main d0)(hm:gx E main){o:ι}{f:World→Tree}(hi:D[i]?=some (.work o (.node f))) (hg:gs[i+1]?=some g):
 qu E L K D pend cl main d0 (crowd gs w sl) sl t (i+1):=by
 obtain⟨eV,dg,eZ⟩:=h.base.ok i _ hi
 obtain rfl:eV=g:=by rw[hg] at dg;exact(Option.some.inj dg).symm
 obtain⟨hd,hs,gp⟩:=eZ
 obtain⟨g',w',es,s',bS,bU,ht,htr⟩:=gp w (h.base.fit.jC _)
 obtain⟨k1,k2,k3,k4,k5,k6⟩:=h.sy.Aj ht eV.frame.fn eV.frame.place
 refine h.go hm (r':= .work o (f w)) hi (by simp) (by simp) hg bS ⟨ht.os,ht.output⟩ k1 k2 k4 (h.base.fit.own ht _ _) ⟨?_,htr⟩ (fun op ax x hx hb=>absurd hb (k5 op ax x hx)) k6
  (fun _=>rfl) (fun e=>e) (fun _ e=>e) (fun e=>(by cases e)) (Nat.le_refl _) rfl (Gr (.mk f w)) fun cl' hw _=>h.ql (r':= .work o (f w)) hi k3 rfl rfl rfl rfl cl' hw
 rw[Deaf_own,ht.deaf];exact hd
theorem Inv.back(h:Inv E L K gs w t D pend cl main d0)(hm:gx E main){f:World→Tree}(hi:D[i]?=some (.back (.node f))) (hg:gs[i+1]?=some g):
 qu E L K D pend cl main d0 (crowd gs w sl) sl t (i+1):=by
 obtain⟨eV,dg,eZ⟩:=h.base.ok i _ hi
 obtain rfl:eV=g:=by rw[hg] at dg;exact(Option.some.inj dg).symm
 obtain⟨hd,hs,gp⟩:=eZ
 obtain⟨g',w',es,s',bS,bU,ht,htr⟩:=gp w (h.base.fit.jC _)
 obtain⟨k1,k2,k3,k4,k5,k6⟩:=h.sy.Aj ht eV.frame.fn eV.frame.place
 refine h.go hm (r':= .back (f w)) hi (by simp) (by simp) hg bS ⟨ht.os,ht.output⟩ k1 k2 k4 (h.base.fit.own ht _ _) ⟨?_,htr⟩ (fun op ax x hx hb=>absurd hb (k5 op ax x hx)) k6
  (fun _=>rfl) (fun e=>e) (fun _ e=>e) (fun e=>(by cases e)) (Nat.le_refl _) rfl (Gr (.mk f w)) fun cl' hw _=>h.ql (r':= .back (f w)) hi k3 rfl rfl rfl rfl cl' hw
 rw[Deaf_own,ht.deaf];exact hd
theorem Inv.arR(h:Inv E L K gs w t D pend cl main d0)(hm:gx E main){k:WK}(hi:D[i]?=some (.st k (n+1))) (hg:gs[i+1]?=some g):
 qu E L K D pend cl main d0 (crowd gs w sl) sl t (i+1):=by
 obtain⟨eV,dg,eZ⟩:=h.base.ok i _ hi
 obtain rfl:eV=g:=by rw[hg] at dg;exact(Option.some.inj dg).symm
 obtain⟨hK,hd,⟨hs,g',bS,hp⟩,XA⟩:=eZ
 obtain⟨st,sm,ha,_⟩:=h.sy.cells
 have e0:MemOp.ofEvents (i+1) eV.frame.fn eV.frame.place #[]= #[]:=rfl
 refine h.go hm (r':= .st k n) (s':=K (i+1)) hi (by simp) (by simp) hg (bS w ⟨st,sm,ha⟩) ⟨rfl,rfl⟩ (h.sy.kW _) (h.sy.kC _) rfl ?_ ?_ (by rw[e0];simp) (by rw[e0];simp)
  (fun _=>rfl) (fun e=>e) (fun _ e=>e) (fun e=>(by cases e)) (by cases k<;>exact Nat.le_refl _) rfl (EP (Nat.lt_succ_self n)) fun cl' hw _=>h.ql (r':= .st k n) hi rfl (by cases k<;>rfl) (by cases k<;>rfl) (by cases k<;>rfl) (by cases k<;>rfl) cl' hw
 ·rw[lN,e0,Array.append_empty];exact h.base.fit
 rw[e0,Array.append_empty];exact⟨hK,hd,hp,XA⟩
end
theorem Md.d1{a c:Nat}{o:Option CK}(h:Md mx n a b c o st sm)(hn:1≤n)(ho:o≠none):
 ∃v wt:Nat,v+1=n∧wt≤1∧st=((v+1:Nat):Int)*KK+(wt:Int)∧sm=0∧a=0∧b=0∧c=0∧
  ((v=0∧wt=1)→Md mx v 1 0 0 o ((v:Int)*KK+(wt:Int)) 0)∧(¬(v=0∧wt=1)→Md mx v 0 0 0 o ((v:Int)*KK+(wt:Int)) 0):=by
 cases h with
 |start=>exact absurd rfl ho
 |kd=>exact⟨n-1,0,by omega,by omega,by rw[show n-1+1=n by omega];simp,rfl,rfl,rfl,rfl,fun h=>by omega,fun _=>by simpa using .kd⟩
 |w1 h1=>exact⟨n-1,0,by omega,by omega,by rw[show n-1+1=n by omega];simp,rfl,rfl,rfl,rfl,fun h=>by omega,fun _=>by simpa using .w1 (by omega)⟩
 |w2 h1 h2 h3=>exact⟨n-1,0,by omega,by omega,by rw[show n-1+1=n by omega];simp,rfl,rfl,rfl,rfl,fun h=>by omega,fun _=>by simpa using .w2 (by omega) h2 h3⟩
 |reg h1 h2=>
  refine⟨n-1,1,by omega,by omega,by rw[show n-1+1=n by omega];simp,rfl,rfl,rfl,rfl,fun h=>?_,fun h=>?_⟩
  ·rw[h.1];simpa using .l4 h1
  exact .reg h1 (by omega)
 |l4 _=>omega
 |l3 _=>omega
 |l2 _=>omega
 |sema _ _=>omega
 |over _=>omega
theorem Md.d2{a c:Nat}{o:Option CK}(h:Md mx n a b c o st sm)(hn:1≤a):st=1∧sm=0∧n=0∧a=1∧b=0∧c=0∧Md mx 0 0 1 0 o 1 0:=by
 cases h with
 |l4 h1=>exact⟨rfl,rfl,rfl,rfl,rfl,rfl,.l3 h1⟩
 |_=>omega
theorem Md.d3{a c:Nat}{o:Option CK}(h:Md mx n a b c o st sm)(hn:1≤b):st=1∧sm=0∧n=0∧a=0∧b=1∧c=0∧Md mx 0 0 0 1 o 0 0:=by
 cases h with
 |l3 h1=>exact⟨rfl,rfl,rfl,rfl,rfl,rfl,.l2 h1⟩
 |_=>omega
theorem Md.d4{a c:Nat}{o:Option CK}(h:Md mx n a b c o st sm)(hn:1≤c):st=0∧sm=0∧n=0∧a=0∧b=0∧c=1∧(o≠some .blk→Md mx 0 0 0 0 o 0 1):=by
 cases h with
 |l2 h1=>exact⟨rfl,rfl,rfl,rfl,rfl,rfl,fun h'=> .sema h1 fun e=>h' (by rw[e])⟩
 |_=>omega
theorem Md.run{a c:Nat}{o:Option CK}(h:Md mx n a b c o st sm){k:CK}(ho:o=some k)(hk:k.over):n=0∧a=0∧b=0∧c=0∧st=0∧sm=0:=by
 have nw:¬k.waits:=by cases k<;>simp_all[CK.over,CK.waits]
 cases h with
 |start=>cases ho
 |kd=>cases ho;exact hk.elim
 |w1 _=>cases ho;exact hk.elim
 |w2 _ _ _=>cases ho;exact hk.elim
 |reg h1 _=>cases ho;exact absurd h1 nw
 |l4 h1=>cases ho;exact absurd h1 nw
 |l3 h1=>cases ho;exact absurd h1 nw
 |l2 h1=>cases ho;exact absurd h1 nw
 |sema h1 _=>cases ho;exact absurd h1 nw
 |over _=>exact⟨rfl,rfl,rfl,rfl,rfl,rfl⟩
section
variable {ι:Type} {E:dM ι} {L:Nat→Option Obj} {K:Nat→St} {gs:Array Goroutine} {w w':World} {t u:Trace} {D:List (ar ι)} {pend d0:Nat} {cl:zk} {main:Goroutine} {sl:Option (Nat×Nat)}
 {i:Nat} {g g':Goroutine} {es:Array Event}
structure eE(E:dM ι)(w w':World):Prop where
 size:w'.heap.size=w.heap.size
 block:∀b,b≠E.Wg→w'.heap[b]?=w.heap[b]?
 same:VQ w w'
theorem eE.refl(w:World):eE E w w:=⟨rfl,fun _ _=>rfl,rfl,rfl⟩
theorem eE.set(w:World)(k:Nat)(v:Value):eE E w (w.setCell ⟨E.Wg,k,none⟩ v):=
 ⟨by simp[World.setCell],fun b hb=>by simp[World.setCell,Array.getElem?_modify,Ne.symm hb],rfl,rfl⟩
theorem Sy.AO(h:Sy E L K gs w t D pend cl)(hf:Fit L K w t)(hj:j=0∨∃k r,j=k+1∧D[k]?=some r∧r.left=false) (hw:eE E w w') (yO:∀e∈es,iA E e) (fn:FuncId) (pos:String):
 Fit L K w' (t++MemOp.ofEvents j fn pos es):=by
 have ho:=iA.ops yO j fn pos
 obtain⟨st,sm,ha,_⟩:=h.cells
 refine hf.beside E.Wg j h.kW h.lW (lt_size ha) (Nat.le_of_eq hw.size.symm) (fun b hb _=>hw.block b hb) (fun op ax=>(ho op ax).1) fun op ax x hx=>?_
 obtain⟨h1,h2⟩:=(ho op ax).2.2 x hx
 refine⟨h1,fun sd p a uv hc=>h.plain j hj p a uv (.inl (by rw[hc.1];exact h1)) ?_⟩
 rcases hc.2.2.2 with h3|h3|h3
 ·exact h3
 ·rw[h2] at h3;cases h3
 rw[h2] at h3;cases h3.2.2
theorem Inv.yj(h:Inv E L K gs w t D pend cl main d0)(hm:gx E main){k:WK}{r':ar ι}(hi:D[i]?=some (.st k 0)) (hg:gs[i+1]?=some g) (hgo:stepG E.P false g w= .go g' w' es)
 (hw:eE E w w') (yO:∀e∈es,iA E e) (UB:r'≠ .closer) (hr:nG E (t++MemOp.ofEvents (i+1) g.frame.fn g.frame.place es) (i+1) (K (i+1)) g' r')
 (Hb:(∃ic tr n,cl=some (ic,.run tr,n))→r'.cur=true→False)
 (I6:r'.cnt≤(ar.st (ι:=ι) k 0).cnt) (af8:r'.WQ=none) (Sz:ub r' (.st k 0))
  (mG:Md E.max (fe ar.cnt D+pend) (fe ar.c4 D) (fe ar.c3 D) (fe ar.c2 D) (cl.map (·.2.1)) st sm)
 (nu:∀cl':zk,cl'≠none→Md E.max (fe ar.cnt D+pend) (fe ar.c4 D) (fe ar.c3 D) (fe ar.c2 D) (cl'.map (·.2.1)) st sm→
  (mayWake E.P g=true→(g'.status= .running∨g'.status= .finished)→∀ic n,cl'≠some (ic,.blk,n))→
  ∃st sm,WgAt E.ty E.Wg w' st sm∧Md E.max (fe ar.cnt (D.set i r')+pend) (fe ar.c4 (D.set i r')) (fe ar.c3 (D.set i r')) (fe ar.c2 (D.set i r')) (cl'.map (·.2.1)) st sm)
 (hsb:(∃o,r'= .gk o)→main.status= .running:=by rintro⟨o,e⟩;cases e):
 qu E L K D pend cl main d0 (crowd gs w sl) sl t (i+1):=by
 have ho:=iA.ops yO (i+1) g.frame.fn g.frame.place
 have iD:cl≠none:=fun e=>by
  have:=h.sy.Ex
  subst e
  exact this _ (List.mem_of_getElem? hi)
 refine h.go hm (r':=r') (s':=K (i+1)) hi (by simp) UB hg hgo hw.same (h.sy.kW _) (h.sy.kC _) (hw.block _ (Ne.symm h.sy.ne)) ?_ hr (fun op ax x hx _=>((ho op ax).2.2 x hx).2) (fun op ax=>(ho op ax).2.1)
  (fun _=>rfl) (fun e=>e.elim) (fun e e'=>(Hb e e').elim) (fun e=>(by cases e)) I6 (by rw[af8];rfl) Sz (fun cl' Ee hb=>?_) hsb
 ·rw[lN]
  exact h.sy.AO h.base.fit (.inr ⟨i,_,rfl,hi,rfl⟩) hw yO _ _
 refine nu cl' ?_ (mG.aq5 Ee) hb
 cases Ee with
 |same=>exact iD
 |up ic=>simp
theorem TY{cl:zk}(h:cl≠none):cl.map (·.2.1)≠none:=by cases cl<;>simp_all
theorem alV{cl:zk}(h:∀ic n,cl≠some (ic,.blk,n)):cl.map (·.2.1)≠some .blk:=by
 match cl with
 |none=>simp
 |some (ic,c,n)=>intro e;simp only[Option.map_some,Option.some.injEq] at e;subst e;exact h ic n rfl
theorem LP{st4 st3 st2:Nat}{o:Option CK}{r r':ar ι}(hi:D[i]?=some r)
 (e1:n+r.cnt=fe ar.cnt D+pend+r'.cnt) (e4:st4+r.c4=fe ar.c4 D+r'.c4) (e3:st3+r.c3=fe ar.c3 D+r'.c3) (e2:st2+r.c2=fe ar.c2 D+r'.c2) (h:Md mx n st4 st3 st2 o st sm):
 Md mx (fe ar.cnt (D.set i r')+pend) (fe ar.c4 (D.set i r')) (fe ar.c3 (D.set i r')) (fe ar.c2 (D.set i r')) o st sm:=by
 have f1:=jv ar.cnt (y:=r') hi
 have f4:=jv ar.c4 (y:=r') hi
 have f3:=jv ar.c3 (y:=r') hi
 have f2:=jv ar.c2 (y:=r') hi
 rw[show fe ar.cnt (D.set i r')+pend=n by omega,show fe ar.c4 (D.set i r')=st4 by omega,show fe ar.c3 (D.set i r')=st3 by omega,show fe ar.c2 (D.set i r')=st2 by omega]
 exact h
theorem tK(f:ar ι→Nat){r:ar ι}(hi:D[i]?=some r):f r≤fe f D:=by
 have:=jv f (y:=ar.closer) hi
 have h0:=jv f (D:=D.set i .closer) (i:=i) (x:= .closer) (y:=r) (by rw[List.getElem?_set_self (List.getElem?_eq_some_iff.1 hi).1])
 rw[List.set_set,show D.set i r=D from by obtain⟨hl,rfl⟩:=List.getElem?_eq_some_iff.1 hi;simp] at h0
 have key:∀(D:List (ar ι)) (i:Nat) (r:ar ι),D[i]?=some r→f r≤fe f D:=by
  intro D
  induction D with
  |nil=>intro i r h;simp at h
  |cons a D ih=>
   intro i r h
   cases i with
   |zero=>simp only[List.getElem?_cons_zero,Option.some.injEq] at h;subst h;simp[fe]
   |succ i=>have:=ih i r (by simpa using h);simp only[fe,List.map_cons,List.sum_cons] at this ⊢;omega
 exact key D i r hi
theorem nJ(k:Nat)(b:Bool):iA E ⟨.cell ⟨E.Wg,k,none⟩,b,true⟩:= .inr (.inr (.inr (.inr ⟨_,_,rfl,rfl⟩)))
theorem Inv.r0(h:Inv E L K gs w t D pend cl main d0)(hm:gx E main)(hi:D[i]?=some (.st .r0 0)) (hg:gs[i+1]?=some g):qu E L K D pend cl main d0 (crowd gs w sl) sl t (i+1):=by
 obtain⟨eV,dg,eZ⟩:=h.base.ok i _ hi
 obtain rfl:eV=g:=by rw[hg] at dg;exact(Option.some.inj dg).symm
 obtain⟨hK,hd,⟨hs,g',bS,n,hp⟩,_⟩:=eZ
 obtain⟨st,sm,ha,mG⟩:=h.sy.cells
 refine h.yj hm (r':= .st .k1 n) hi hg (bS w) (eE.refl w) (by intro e he;simp at he;subst he;exact .inr (.inr (.inl rfl))) (by simp) ?_ (fun _ e=>(by cases e)) (Nat.le_refl _) rfl (fJ (by simp[ar.mu,WK.Mi])) mG fun cl' hc B8 _=>?_
 ·refine⟨hK,?_,hp,fun _=>⟨_,ConcN.RelBy.new hd _ _⟩⟩
  rw[Deaf_own,hd];rfl
 exact⟨st,sm,ha,LP hi rfl rfl rfl rfl B8⟩
theorem Inv.k1(h:Inv E L K gs w t D pend cl main d0)(hm:gx E main)(hi:D[i]?=some (.st .k1 0)) (hg:gs[i+1]?=some g):qu E L K D pend cl main d0 (crowd gs w sl) sl t (i+1):=by
 obtain⟨eV,dg,eZ⟩:=h.base.ok i _ hi
 obtain rfl:eV=g:=by rw[hg] at dg;exact(Option.some.inj dg).symm
 obtain⟨hK,hd,⟨hs,g',bS,n,hp⟩,OC⟩:=eZ
 obtain⟨p,ia⟩:=OC rfl
 obtain⟨st,sm,ha,mG⟩:=h.sy.cells
 refine h.yj hm (r':= .st .d1 n) hi hg (bS w) (eE.refl w) (by intro e he;simp at he;subst he;exact .inl rfl) (by simp) ?_ (fun _ e=>(by cases e)) (Nat.le_refl _) rfl (fJ (by simp[ar.mu,WK.Mi])) mG fun cl' hc B8 _=>?_
 ·refine⟨hK,?_,hp,fun _=>⟨p,ConcN.RelBy.appOwn ia _ _ _ fun j e he=> .inl ?_⟩⟩
  ·rw[Deaf_own,hd];rfl
  have:=Array.mem_of_getElem? he;simp at this;subst this;rfl
 exact⟨st,sm,ha,LP hi rfl rfl rfl rfl B8⟩
theorem Inv.d1(h:Inv E L K gs w t D pend cl main d0)(hm:gx E main)(hi:D[i]?=some (.st .d1 0)) (hg:gs[i+1]?=some g):qu E L K D pend cl main d0 (crowd gs w sl) sl t (i+1):=by
 obtain⟨eV,dg,eZ⟩:=h.base.ok i _ hi
 obtain rfl:eV=g:=by rw[hg] at dg;exact(Option.some.inj dg).symm
 obtain⟨hK,hd,aCl,OC⟩:=eZ
 obtain⟨p,ia⟩:=OC rfl
 obtain⟨st,sm,ha,mG⟩:=h.sy.cells
 have iD:cl≠none:=fun e=>by
  have:=h.sy.Ex
  subst e
  exact this _ (List.mem_of_getElem? hi)
 have hn:1≤fe ar.cnt D+pend:=Nat.le_trans (tK ar.cnt hi) (Nat.le_add_right _ _)
 obtain⟨v,wt,hv,hwt,rfl,rfl,ea,eb,ec,_,_⟩:=mG.d1 hn (TY iD)
 have I2:=h.sy.BQ
 obtain⟨hs,dc⟩:=aCl
 obtain⟨g',bS,QT,Nj⟩:=dc v wt hwt (by omega)
 have apI:ConcN.RelBy (stA E.Wg) (t++MemOp.ofEvents (i+1) eV.frame.fn eV.frame.place #[rd (stA E.Wg),wr (stA E.Wg)]) (i+1) p:=by
  refine ConcN.RelBy.appOwn ia _ _ _ fun j e he=> .inr ?_
  have E1:Deaf t (i+1)=1:=hd
  match j,he with
  |0,he=>simp at he;subst he;exact⟨⟨_,_,rfl⟩,by simp[deafBehind,E1]⟩
  |1,he=>simp at he;subst he;exact⟨⟨_,_,rfl⟩,by simp[deafBehind,E1,rd]⟩
  |j+2,he=>simp at he
 have yQ:Deaf (t++MemOp.ofEvents (i+1) eV.frame.fn eV.frame.place #[rd (stA E.Wg),wr (stA E.Wg)]) (i+1)=1:=by rw[Deaf_own,hd];rfl
 have yO:∀e∈ #[rd (stA E.Wg),wr (stA E.Wg)],iA E e:=by intro e he;simp at he;rcases he with rfl|rfl<;>exact nJ 0 _
 have bU:¬ ∃ic tr n,cl=some (ic,CK.run tr,n):=fun⟨ic,tr,n,e⟩=>by
  have:=mG.run (k:= .run tr) (by rw[e];rfl) trivial
  omega
 by_cases hb:v=0∧wt=1
 ·obtain⟨n,hp⟩:=QT hb
  refine h.yj hm (r':= .st .d2 n) hi hg (bS w ha) (eE.set w 0 _) yO (by simp) ⟨hK,yQ,hp,fun _=>⟨p,apI⟩⟩ (fun _ e=>(by cases e)) (Nat.zero_le _) rfl (fJ (by simp[ar.mu,WK.Mi])) mG fun cl' hc B8 _=>?_
  obtain⟨v',wt',hv',aMh,est,_,_,_,_,h1,_⟩:=B8.d1 hn (TY hc)
  have:v'=v:=by omega
  subst this
  have:wt'=wt:=by omega
  subst this
  exact⟨_,_,Go.ConcR.WgAt.setSt ha _,LP hi (by simp[ar.cnt];omega) (by simp[ar.c4];omega) (by simp[ar.c3];omega) (by simp[ar.c2];omega) (h1 hb)⟩
 obtain⟨q,hq⟩:=Nj hb
 refine h.yj hm (r':= .leave q 1 true) hi hg (bS w ha) (eE.set w 0 _) yO (by simp) ⟨hK,hq,yQ,fun _=>⟨p,apI⟩,fun e=>(by cases e)⟩ (fun e _=>bU e) (Nat.zero_le _) rfl (fJ (by simp[ar.mu,WK.Mi])) mG fun cl' hc B8 _=>?_
 obtain⟨v',wt',hv',aMh,est,_,_,_,_,_,h1⟩:=B8.d1 hn (TY hc)
 have:v'=v:=by omega
 subst this
 have:wt'=wt:=by omega
 subst this
 exact⟨_,_,Go.ConcR.WgAt.setSt ha _,LP hi (by simp[ar.cnt];omega) (by simp[ar.c4];omega) (by simp[ar.c3];omega) (by simp[ar.c2];omega) (h1 hb)⟩
theorem Inv.d2(h:Inv E L K gs w t D pend cl main d0)(hm:gx E main)(hi:D[i]?=some (.st .d2 0)) (hg:gs[i+1]?=some g):qu E L K D pend cl main d0 (crowd gs w sl) sl t (i+1):=by
 obtain⟨eV,dg,eZ⟩:=h.base.ok i _ hi
 obtain rfl:eV=g:=by rw[hg] at dg;exact(Option.some.inj dg).symm
 obtain⟨hK,hd,⟨hs,g',bS,n,hp⟩,OC⟩:=eZ
 obtain⟨p,ia⟩:=OC rfl
 obtain⟨st,sm,ha,mG⟩:=h.sy.cells
 have hn:1≤fe ar.c4 D:=tK ar.c4 hi
 obtain⟨rfl,rfl,e1,e4,e3,e2,_⟩:=mG.d2 hn
 refine h.yj hm (r':= .st .d3 n) hi hg (bS w ha) (eE.refl w) (by intro e he;simp at he;subst he;exact nJ 0 _) (by simp) ?_ (fun _ e=>(by cases e)) (Nat.le_refl _) rfl (fJ (by simp[ar.mu,WK.Mi])) mG fun cl' hc B8 _=>?_
 ·refine⟨hK,?_,hp,fun _=>⟨p,ConcN.RelBy.appOwn ia _ _ _ fun j e he=> .inr ?_⟩⟩
  ·rw[Deaf_own,hd];rfl
  have E1:Deaf t (i+1)=1:=hd
  match j,he with
  |0,he=>simp at he;subst he;exact⟨⟨_,_,rfl⟩,by simp[deafBehind,E1]⟩
  |j+1,he=>simp at he
 exact⟨_,_,ha,LP hi (by simp[ar.cnt];omega) (by simp[ar.c4];omega) (by simp[ar.c3];omega) (by simp[ar.c2];omega) (B8.d2 hn).2.2.2.2.2.2⟩
theorem Inv.d3(h:Inv E L K gs w t D pend cl main d0)(hm:gx E main)(hi:D[i]?=some (.st .d3 0)) (hg:gs[i+1]?=some g):qu E L K D pend cl main d0 (crowd gs w sl) sl t (i+1):=by
 obtain⟨eV,dg,eZ⟩:=h.base.ok i _ hi
 obtain rfl:eV=g:=by rw[hg] at dg;exact(Option.some.inj dg).symm
 obtain⟨hK,hd,⟨hs,g',bS,n,hp⟩,OC⟩:=eZ
 obtain⟨p,ia⟩:=OC rfl
 obtain⟨st,sm,ha,mG⟩:=h.sy.cells
 have hn:1≤fe ar.c3 D:=tK ar.c3 hi
 obtain⟨rfl,rfl,e1,e4,e3,e2,_⟩:=mG.d3 hn
 refine h.yj hm (r':= .st .d4 n) hi hg (bS w ha) (eE.set w 0 _) (by intro e he;simp at he;subst he;exact nJ 0 _) (by simp) ?_ (fun _ e=>(by cases e)) (Nat.le_refl _) rfl (fJ (by simp[ar.mu,WK.Mi])) mG fun cl' hc B8 _=>?_
 ·refine⟨hK,?_,hp,fun _=>⟨p,ConcN.RelBy.appOwn ia _ _ _ fun j e he=> .inr ?_⟩⟩
  ·rw[Deaf_own,hd];rfl
  have E1:Deaf t (i+1)=1:=hd
  match j,he with
  |0,he=>simp at he;subst he;exact⟨⟨_,_,rfl⟩,by simp[deafBehind,E1]⟩
  |j+1,he=>simp at he
 exact⟨_,_,Go.ConcR.WgAt.setSt ha _,LP hi (by simp[ar.cnt];omega) (by simp[ar.c4];omega) (by simp[ar.c3];omega) (by simp[ar.c2];omega) (B8.d3 hn).2.2.2.2.2.2⟩
theorem Inv.d4(h:Inv E L K gs w t D pend cl main d0)(hm:gx E main)(hi:D[i]?=some (.st .d4 0)) (hg:gs[i+1]?=some g):qu E L K D pend cl main d0 (crowd gs w sl) sl t (i+1):=by
 obtain⟨eV,dg,eZ⟩:=h.base.ok i _ hi
 obtain rfl:eV=g:=by rw[hg] at dg;exact(Option.some.inj dg).symm
 obtain⟨hK,hd,⟨hs,hmw,g',bS,q,hq⟩,OC⟩:=eZ
 obtain⟨p,ia⟩:=OC rfl
 obtain⟨st,sm,ha,mG⟩:=h.sy.cells
 have hn:1≤fe ar.c2 D:=tK ar.c2 hi
 obtain⟨rfl,rfl,e1,e4,e3,e2,_⟩:=mG.d4 hn
 have E1:Deaf t (i+1)=1:=hd
 have bU:¬ ∃ic tr n,cl=some (ic,CK.run tr,n):=fun⟨ic,tr,n,e⟩=>by
  have:=mG.run (k:= .run tr) (by rw[e];rfl) trivial
  omega
 refine h.yj hm (r':= .leave q 1 true) hi hg (bS w ha) (eE.set w 1 _) (by
  intro e he;simp[semEvents] at he
  rcases he with rfl|rfl|rfl|rfl
  ·exact .inl rfl
  ·exact nJ 1 _
  ·exact nJ 1 _
  exact .inr (.inl rfl)) (by simp) ?_ (fun e _=>bU e) (Nat.le_refl _) rfl (fJ (by simp[ar.mu,WK.Mi])) mG fun cl' hc B8 hb=>?_
 ·refine⟨hK,hq,?_,fun _=>⟨p,ConcN.RelBy.appOwn ia _ _ _ fun j e he=>?_⟩,fun e=>(by cases e)⟩
  ·rw[Deaf_own,hd];rfl
  match j,he with
  |0,he=>simp[semEvents] at he;subst he;exact .inl rfl
  |1,he=>simp[semEvents] at he;subst he;exact .inr ⟨⟨_,_,rfl⟩,by simp[deafBehind,E1,semEvents]⟩
  |2,he=>simp[semEvents] at he;subst he;exact .inr ⟨⟨_,_,rfl⟩,by simp[deafBehind,E1,semEvents]⟩
  |3,he=>simp[semEvents] at he;subst he;exact .inl rfl
  |j+4,he=>simp[semEvents] at he
 exact⟨_,_,Go.ConcR.WgAt.setSm ha _,LP hi (by simp[ar.cnt];omega) (by simp[ar.c4];omega) (by simp[ar.c3];omega) (by simp[ar.c2];omega) ((B8.d4 hn).2.2.2.2.2.2 (alV (hb hmw hq.status)))⟩
end
def CK.phi(mx:Nat):CK→Nat
 | .kd=>2*mx+9
 | .w1 b=>2*b+8
 | .w2 b _=>2*b+9
 | .wr=>7
 | .w3| .blk=>6
 | .w4=>5
 | .ke=>4
 | .aq=>3
 | .run _=>2
def CK.tree:CK→Tree
 | .run tr=>tr
 |_=> .leaf
def mW(mx:Nat):zk→Nat×Tree×Nat
 |none=>(0,.leaf,0)
 |some (_,c,n)=>(c.phi mx,c.tree,n)
section
variable {ι:Type} {E:dM ι} {L:Nat→Option Obj} {K:Nat→St} {gs:Array Goroutine} {w w':World} {t u:Trace} {D:List (ar ι)} {pend d0:Nat} {main:Goroutine} {sl:Option (Nat×Nat)}
 {ic:Nat} {g g':Goroutine} {es:Array Event} {c:CK} {n:Nat}
def Sj(E:dM ι)(L:Nat→Option Obj)(K:Nat→St)(D:List (ar ι))(pend:Nat)(ic:Nat)(c:CK)(n:Nat)(main:Goroutine)(d0:Nat)(m:Machine)(sl:Option (Nat×Nat))(t:Trace):Prop:=
 ∃K' kS w' u c' n',runT E.P m (ic+1)=(.next (crowd kS w' sl),u)∧Inv E L K' kS w' (t++u) D pend (some (ic,c',n')) main d0∧K' 0=K 0∧EB (mW E.max (some (ic,c',n'))) (mW E.max (some (ic,c,n)))
theorem Inv.goC(h:Inv E L K gs w t D pend (some (ic,c,n)) main d0)(hm:gx E main){c':CK} 
 (hg:gs[ic+1]?=some g) (hgo:stepG E.P false g w= .go g' w' es) (QB:VQ w w')
 (bX:¬s'.knows E.Wg) (pU:¬s'.knows E.Ch) (uV:w'.heap[E.Ch]?=w.heap[E.Ch]?)
 (mJ:Fit L (fE K (ic+1) s') w' (t++MemOp.ofEvents (ic+1) g.frame.fn g.frame.place es))
 (kL:∀op∈MemOp.ofEvents (ic+1) g.frame.fn g.frame.place es,∀x,op.act.touch?=some x→E.At x→x.kind≠ .plain)
 (XA:c'.early→c.early∧∀op∈MemOp.ofEvents (ic+1) g.frame.fn g.frame.place es,∀x,op.act.touch?=some x→blk x.loc=some E.Wg→x.kind≠ .said)
 (ia:∀op∈MemOp.ofEvents (ic+1) g.frame.fn g.frame.place es,∀a,op.act≠ .mark (.release a))
 (nu:∃st sm,WgAt E.ty E.Wg w' st sm∧Md E.max (fe ar.cnt D+pend) (fe ar.c4 D) (fe ar.c3 D) (fe ar.c2 D) (some c') st sm)
 (yQ:deafBehind c.deaf es=c'.deaf) (pw:c'.at E s' g' n') (UT:(∃tr,c'= .run tr)→AcqAll E (t++MemOp.ofEvents (ic+1) g.frame.fn g.frame.place es) D ic)
 (Sz:EB (mW E.max (some (ic,c',n'))) (mW E.max (some (ic,c,n)))):
 Sj E L K D pend ic c n main d0 (crowd gs w sl) sl t:=by
 have hu:∀op∈MemOp.ofEvents (ic+1) g.frame.fn g.frame.place es,op.g=ic+1:=fun op ax=>Go.ConcR.g_of_ofEvents op ax
 obtain⟨h1,h2,h3,⟨gc,EZ,aZ1⟩,h5⟩:=h.sy.Ex
 have cK:=(List.getElem?_eq_some_iff.1 h1).1
 obtain⟨sn,rc,tm,hc⟩:=h.sy.chan
 have sO:w'.heap[E.Ch]?=some (.chan 0 #[] false sn rc tm):=by rw[uV];exact hc
 have eD:D.set ic ar.closer=D:=by obtain⟨hl,e⟩:=List.getElem?_eq_some_iff.1 h1;rw[←e];simp
 have XX:=h.base.step (g:=g) (g':=g') (r':= .closer) cK hu QB mJ trivial fun _ _ _ _=>⟨sn,rc,tm,sO⟩
 rw[eD] at XX
 have bU:=runT_crowd_go (P:=E.P) (sl:=sl) (i:=ic+1) hg (by simpa using hgo)
 have It:∀b,¬s'.knows b→(∀j,¬(K j).knows b)→∀j,¬(fE K (ic+1) s' j).knows b:=fun b h1 h2 j=>by
  by_cases e:j=ic+1
  ·subst e;rw[aB];exact h1
  rw[aG _ _ e];exact h2 j
 have old:∀p x,touchAt (t++MemOp.ofEvents (ic+1) g.frame.fn g.frame.place es) p=some x→E.At x→x.kind= .plain→touchAt t p=some x:=fun p x hx hb hk=>by
  rcases bE hx with ⟨_,h'⟩| ⟨_,op,hm,_,xL⟩
  ·exact h'
  exact absurd hk (kL op hm x xL hb)
 refine⟨_,_,w',_,c',n',bU,⟨XX,⟨It _ bX h.sy.kW,It _ pU h.sy.kC,h.sy.lW,h.sy.lC,h.sy.ne,fun a=>(h.sy.norel a).app fun op ax=>ia op ax a,fun j hj p x hx hb hk=>(h.sy.plain j hj p x (old p x hx hb hk) hb hk).app _,fun he p x hx hb hk=>?_,nu,h.sy.BQ,⟨sn,rc,tm,sO⟩,fun sn rc tm hc=>h.sy.bal sn rc tm (by rw[←uV];exact hc),
  ⟨h1,h2,by rw[Deaf_own,h3];exact yQ,⟨g',by simp[h.base.size,cK],by rw[aB];exact pw⟩,UT⟩⟩,?_,?_⟩,aG _ _ (by omega),Sz⟩
 ·rcases bE hx with ⟨_,h'⟩| ⟨_,op,hm,_,xL⟩
  ·exact(h.sy.said (XA he).1 p x h' hb hk).app _
  exact absurd hk ((XA he).2 op hm x xL hb)
 ·rw[fO (by omega) h.main,hm.woken _ _ sO]
 rw[gF _ _ fun op ax=>by rw[hu op ax];omega];exact h.deaf
theorem Inv.xH(h:Inv E L K gs w t D pend (some (ic,c,n)) main d0)(hm:gx E main){c':CK} 
 (hg:gs[ic+1]?=some g) (hgo:stepG E.P false g w= .go g' w' es) (hw:eE E w w') (yO:∀e∈es,iA E e) (yP:c'.early→c.early)
 (nu:∃st sm,WgAt E.ty E.Wg w' st sm∧Md E.max (fe ar.cnt D+pend) (fe ar.c4 D) (fe ar.c3 D) (fe ar.c2 D) (some c') st sm)
 (yQ:deafBehind c.deaf es=c'.deaf) (pw:c'.at E (K (ic+1)) g' n') (UT:(∃tr,c'= .run tr)→AcqAll E (t++MemOp.ofEvents (ic+1) g.frame.fn g.frame.place es) D ic)
 (Sz:EB (mW E.max (some (ic,c',n'))) (mW E.max (some (ic,c,n)))):
 Sj E L K D pend ic c n main d0 (crowd gs w sl) sl t:=by
 have ho:=iA.ops yO (ic+1) g.frame.fn g.frame.place
 refine h.goC hm hg hgo hw.same (h.sy.kW _) (h.sy.kC _) (hw.block _ (Ne.symm h.sy.ne)) ?_ (fun op ax x hx _=>by rw[((ho op ax).2.2 x hx).2];simp) (fun e=>⟨yP e,fun op ax x hx _=>by rw[((ho op ax).2.2 x hx).2];simp⟩)
  (fun op ax=>(ho op ax).2.1) nu yQ pw UT Sz
 rw[lN]
 exact h.sy.AO h.base.fit (.inr ⟨ic,_,rfl,h.sy.Ex.1,rfl⟩) hw yO _ _
theorem Inv.Dh(h:Inv E L K gs w t D pend (some (ic,c,n)) main d0)(hm:gx E main)(hg:gs[ic+1]?=some g) (Sx:∀tr,c≠ .run tr)
 (bS:∀w,E.live w→stepG E.P false g w= .go g' w #[]) (pw:c.at E (K (ic+1)) g' n') (hn:n' <n):Sj E L K D pend ic c n main d0 (crowd gs w sl) sl t:=by
 obtain⟨st,sm,ha,mG⟩:=h.sy.cells
 exact h.xH hm hg (bS w ⟨st,sm,ha⟩) (eE.refl w) (by simp) (fun e=>e) ⟨st,sm,ha,mG⟩ rfl pw (fun⟨tr,e⟩=>absurd e (Sx tr)) (EP hn)
theorem Md.zero{a c:Nat}{k:CK}(h:Md mx n a b c (some k) st sm)(hk:k= .kd∨(∃b,k= .w1 b)∨∃b v,k= .w2 b v):st=(n:Int)*KK∧sm=0∧a=0∧b=0∧c=0∧(∀b,k= .w1 b→n≤b)∧∀b v,k= .w2 b v→n≤v∧1≤v∧v≤b+1:=by
 have nw:¬k.waits∧¬k.over:=by rcases hk with rfl| ⟨_,rfl⟩| ⟨_,_,rfl⟩<;>exact⟨id,id⟩
 cases h with
 |kd=>exact⟨rfl,rfl,rfl,rfl,rfl,(fun _ e=>(by cases e)),(fun _ _ e=>(by cases e))⟩
 |w1 h1=>exact⟨rfl,rfl,rfl,rfl,rfl,(fun _ e=>by cases e;exact h1),(fun _ _ e=>(by cases e))⟩
 |w2 h1 h2 h3=>exact⟨rfl,rfl,rfl,rfl,rfl,(fun _ e=>(by cases e)),(fun _ _ e=>by cases e;exact⟨h1,h2,h3⟩)⟩
 |reg h1 _=>exact absurd h1 nw.1
 |l4 h1=>exact absurd h1 nw.1
 |l3 h1=>exact absurd h1 nw.1
 |l2 h1=>exact absurd h1 nw.1
 |sema h1 _=>exact absurd h1 nw.1
 |over h1=>exact absurd h1 nw.2
theorem Md.waiting{a c:Nat}{k k':CK}(h:Md mx n a b c (some k) st sm)(hk:k.waits)(jA:k'.waits)(hb:k'≠ .blk∨sm=0):Md mx n a b c (some k') st sm:=by
 cases h with
 |kd=>exact hk.elim
 |w1 _=>exact hk.elim
 |w2 _ _ _=>exact hk.elim
 |reg _ h2=>exact .reg jA h2
 |l4 _=>exact .l4 jA
 |l3 _=>exact .l3 jA
 |l2 _=>exact .l2 jA
 |sema _ _=>exact .sema jA (hb.resolve_right (by decide))
 |over h1=>cases k<;>first|exact hk.elim|exact h1.elim
theorem Md.up{a c:Nat}{k:CK}(h:Md mx n a b c (some k) st sm)(hk:k.waits):(∃x,x=st∧sm=0)∨(st=0∧sm=1∧n=0∧a=0∧b=0∧c=0):=by
 cases h with
 |kd=>exact hk.elim
 |w1 _=>exact hk.elim
 |w2 _ _ _=>exact hk.elim
 |reg _ _=>exact .inl ⟨_,rfl,rfl⟩
 |l4 _=>exact .inl ⟨_,rfl,rfl⟩
 |l3 _=>exact .inl ⟨_,rfl,rfl⟩
 |l2 _=>exact .inl ⟨_,rfl,rfl⟩
 |sema _ _=>exact .inr ⟨rfl,rfl,rfl,rfl,rfl,rfl⟩
 |over h1=>cases k<;>first|exact hk.elim|exact h1.elim
theorem Zr:(∀e∈ #[said .disable],iA E e)∧(∀e∈ #[said .enable],iA E e)∧(∀e∈ #[said (.acquire (stA E.Wg))],iA E e)∧(∀e∈ #[rd (stA E.Wg)],iA E e)∧(∀e∈ #[rd (stA E.Wg),wr (stA E.Wg)],iA E e)∧(∀e∈semEvents (smA E.Wg),iA E e):=by
 refine⟨?_,?_,?_,?_,?_,?_⟩
 ·intro e he;simp at he;subst he;exact .inl rfl
 ·intro e he;simp at he;subst he;exact .inr (.inl rfl)
 ·intro e he;simp at he;subst he;exact .inr (.inr (.inr (.inl rfl)))
 ·intro e he;simp at he;subst he;exact nJ 0 _
 ·intro e he;simp at he;rcases he with rfl|rfl<;>exact nJ 0 _
 intro e he;simp[semEvents] at he
 rcases he with rfl|rfl|rfl|rfl
 ·exact .inl rfl
 ·exact nJ 1 _
 ·exact nJ 1 _
 exact .inr (.inl rfl)
end
section
variable {ι:Type} {E:dM ι} {L:Nat→Option Obj} {K:Nat→St} {gs:Array Goroutine} {w w':World} {t u:Trace} {D:List (ar ι)} {pend d0:Nat} {main:Goroutine} {sl:Option (Nat×Nat)}
 {ic:Nat} {g g':Goroutine} {es:Array Event} {c:CK} {n:Nat}
theorem Inv.closer(h:Inv E L K gs w t D pend (some (ic,c,n)) main d0)(hm:gx E main)(hg:gs[ic+1]?=some g) (hs:g.status= .running) (Sx:c≠ .run .leaf):
 Sj E L K D pend ic c n main d0 (crowd gs w sl) sl t:=by
 obtain⟨_,_,yQ,⟨gc,EZ,pw⟩,UT⟩:=h.sy.Ex
 obtain rfl:gc=g:=by rw[hg] at EZ;exact(Option.some.inj EZ).symm
 obtain⟨st,sm,ha,mG⟩:=h.sy.cells
 obtain⟨s1,s2,s3,s4,s5,s6⟩:=Zr (E:=E)
 cases c with
 |kd=>
  cases n with
  |succ n=>obtain⟨_,g',bS,hp⟩:=pw;exact h.Dh hm hg (by simp) bS hp (Nat.lt_succ_self n)
  |zero=>
   obtain⟨_,g',bS,n',hp⟩:=pw
   obtain⟨rfl,rfl,e4,e3,e2,_⟩:=mG.zero (.inl rfl)
   refine h.xH hm (c':= .w1 E.max) hg (bS w) (eE.refl w) s1 (fun _=>trivial) ⟨_,_,ha,?_⟩ rfl hp (fun⟨_,e⟩=>(by cases e)) (fJ (by simp[mW,CK.phi]))
   rw[e4,e3,e2];exact .w1 h.sy.BQ
 |w1 b=>
  cases n with
  |succ n=>
   have:∃g',(∀w,E.live w→stepG E.P false gc w= .go g' w #[])∧Pure E.P false E.live (E.W1 (K (ic+1)) b) n g':=pw.2
   obtain⟨g',bS,hp⟩:=this
   exact h.Dh hm hg (by simp) bS hp (Nat.lt_succ_self n)
  |zero=>
   obtain⟨rfl,rfl,e4,e3,e2,hb,_⟩:=mG.zero (.inr (.inl ⟨b,rfl⟩))
   have hle:=hb b rfl
   rw[e4,e3,e2] at mG
   have out:(∃g',(∀w,WgAt E.ty E.Wg w 0 0→stepG E.P false gc w= .go g' w #[rd (stA E.Wg)])∧E.pure false (E.Ke (K (ic+1))) g')→fe ar.cnt D+pend=0→Sj E L K D pend ic (.w1 b) 0 main d0 (crowd gs w sl) sl t:=by
    rintro⟨g',bS,n',hp⟩ h0
    rw[h0] at ha
    have uv:WgAt E.ty E.Wg w 0 0:=by simpa using ha
    refine h.xH hm (c':= .ke) hg (bS w uv) (eE.refl w) s4 (fun e=>e.elim) ⟨_,_,uv,?_⟩ rfl hp (fun⟨_,e⟩=>(by cases e)) (fJ (by simp[mW,CK.phi]))
    rw[e4,e3,e2,h0];exact .over trivial
   cases b with
   |zero=>exact out pw.2 (by omega)
   |succ b=>
    obtain⟨_,h0,hv⟩:=pw
    by_cases hz:fe ar.cnt D+pend=0
    ·exact out h0 hz
    obtain⟨g',bS,n',hp⟩:=hv (fe ar.cnt D+pend) (by omega) hle
    refine h.xH hm (c':= .w2 b (fe ar.cnt D+pend)) hg (bS w ha) (eE.refl w) s4 (fun _=>trivial) ⟨_,_,ha,?_⟩ rfl hp (fun⟨_,e⟩=>(by cases e)) (fJ (by simp only[mW,CK.phi];omega))
    rw[e4,e3,e2];exact .w2 (Nat.le_refl _) (by omega) hle
 |w2 b v=>
  cases n with
  |succ n=>obtain⟨_,g',bS,hp⟩:=pw;exact h.Dh hm hg (by simp) bS hp (Nat.lt_succ_self n)
  |zero=>
   obtain⟨rfl,rfl,e4,e3,e2,_,hb⟩:=mG.zero (.inr (.inr ⟨b,v,rfl⟩))
   obtain⟨h1,h2,h3⟩:=hb b v rfl
   obtain⟨_,⟨eV,aMI,n1,hp1⟩,aC4⟩:=pw
   by_cases hv:fe ar.cnt D+pend=v
   ·rw[hv] at ha
    refine h.xH hm (c':= .wr) hg (aMI w ha) (eE.set w 0 _) s5 (fun _=>trivial) ⟨_,_,Go.ConcR.WgAt.setSt ha _,?_⟩ rfl hp1 (fun⟨_,e⟩=>(by cases e)) (fJ (by simp only[mW,CK.phi];omega))
    rw[e4,e3,e2,hv];exact .reg trivial h2
   obtain⟨p9,aMH,n2,Sw⟩:=aC4 (fe ar.cnt D+pend) (by omega)
   refine h.xH hm (c':= .w1 b) hg (aMH w ha) (eE.refl w) s4 (fun _=>trivial) ⟨_,_,ha,?_⟩ rfl Sw (fun⟨_,e⟩=>(by cases e)) (fJ (by simp only[mW,CK.phi];omega))
   rw[e4,e3,e2];exact .w1 (by omega)
 |wr=>
  cases n with
  |succ n=>obtain⟨_,g',bS,hp⟩:=pw;exact h.Dh hm hg (by simp) bS hp (Nat.lt_succ_self n)
  |zero=>
   obtain⟨_,g',bS,n',hp⟩:=pw
   have e1:MemOp.ofEvents (ic+1) gc.frame.fn gc.frame.place #[said (.write (smA E.Wg))]= #[{g:=ic+1,fn:=gc.frame.fn,pos:=gc.frame.place,act:= .mark (.write (smA E.Wg))}]:=by rw[ofEvents_eq];simp[said,Go.ConcR.ofEvent_mk]
   refine h.goC hm (c':= .w3) (n':=n'+1) (s':=K (ic+1)) hg (bS w) ⟨rfl,rfl⟩ (h.sy.kW _) (h.sy.kC _) rfl ?_ (fun op ax x hx _=>?_) (fun e=>e.elim) (fun op ax=>?_)
    ⟨_,_,ha,mG.waiting trivial trivial (.inl (by simp))⟩ rfl ⟨n',rfl,hp⟩ (fun⟨_,e⟩=>(by cases e)) (fJ (by simp[mW,CK.phi]))
   ·rw[lN,e1]
    refine h.base.fit.beside E.Wg (ic+1) h.sy.kW h.sy.lW (lt_size ha) (Nat.le_refl _) (fun _ _ _=>rfl) (by simp) fun op ax x hx=>?_
    simp only[List.mem_toArray,List.mem_singleton] at ax
    subst ax
    simp only[MemAct.touch?,Option.some.injEq] at hx
    subst hx
    refine⟨rfl,fun sd p a uv hc=>?_⟩
    have hl:blk a.loc=some E.Wg:=by rw[hc.1];rfl
    rcases hc.2.2.2 with h3|h3|h3
    ·exact h.sy.plain _ (.inr ⟨ic,_,rfl,h.sy.Ex.1,rfl⟩) p a uv (.inl hl) h3
    ·cases h3
    exact h.sy.said trivial p a uv hl h3.2.1
   ·rw[e1] at ax
    simp only[List.mem_toArray,List.mem_singleton] at ax
    subst ax
    simp only[MemAct.touch?,Option.some.injEq] at hx
    subst hx
    simp
   rw[e1] at ax
   simp only[List.mem_toArray,List.mem_singleton] at ax
   subst ax
   simp
 |w3=>
  obtain⟨m,rfl,hp⟩:=pw
  cases m with
  |succ m=>obtain⟨_,g',bS,hp⟩:=hp;exact h.Dh hm hg (by simp) bS ⟨m,rfl,hp⟩ (Nat.lt_succ_self _)
  |zero=>
   have hp0:E.W3 (K (ic+1)) gc:=hp
   obtain⟨h1,h2,hb,g',bS,n',hp⟩:=hp
   rcases mG.up trivial with ⟨_,rfl,rfl⟩| ⟨rfl,rfl,e1,e4,e3,e2⟩
   ·refine h.xH hm (c':= .blk) (n':=0) hg (hb w _ ha) (eE.refl w) (by simp) (fun e=>e.elim) ⟨_,_,ha,mG.waiting trivial trivial (.inr rfl)⟩ rfl ⟨rfl,gc,hp0,rfl⟩ (fun⟨_,e⟩=>(by cases e)) (EP (Nat.lt_succ_self 0))
   refine h.xH hm (c':= .w4) hg (bS w ha) (eE.set w 1 _) s6 (fun e=>e.elim) ⟨_,_,Go.ConcR.WgAt.setSm ha _,?_⟩ rfl hp (fun⟨_,e⟩=>(by cases e)) (fJ (by simp[mW,CK.phi]))
   rw[e1,e4,e3,e2];exact .over trivial
 |blk=>
  obtain⟨_,uL,_,e⟩:=pw
  rw[e] at hs;cases hs
 |w4=>
  obtain⟨e1,e4,e3,e2,rfl,rfl⟩:=mG.run rfl trivial
  cases n with
  |succ n=>obtain⟨_,g',bS,hp⟩:=pw;exact h.Dh hm hg (by simp) bS hp (Nat.lt_succ_self n)
  |zero=>
   obtain⟨_,g',bS,n',hp⟩:=pw
   refine h.xH hm (c':= .ke) hg (bS w ha) (eE.refl w) s4 (fun e=>e.elim) ⟨_,_,ha,?_⟩ rfl hp (fun⟨_,e⟩=>(by cases e)) (fJ (by simp[mW,CK.phi]))
   rw[e1,e4,e3,e2];exact .over trivial
 |ke=>
  obtain⟨e1,e4,e3,e2,rfl,rfl⟩:=mG.run rfl trivial
  cases n with
  |succ n=>obtain⟨_,g',bS,hp⟩:=pw;exact h.Dh hm hg (by simp) bS hp (Nat.lt_succ_self n)
  |zero=>
   obtain⟨_,g',bS,n',hp⟩:=pw
   refine h.xH hm (c':= .aq) hg (bS w) (eE.refl w) s2 (fun e=>e.elim) ⟨_,_,ha,?_⟩ rfl hp (fun⟨_,e⟩=>(by cases e)) (fJ (by simp[mW,CK.phi]))
   rw[e1,e4,e3,e2];exact .over trivial
 |aq=>
  obtain⟨e1,e4,e3,e2,rfl,rfl⟩:=mG.run rfl trivial
  cases n with
  |succ n=>obtain⟨_,g',bS,hp⟩:=pw;exact h.Dh hm hg (by simp) bS hp (Nat.lt_succ_self n)
  |zero=>
   obtain⟨_,g',bS,tr,gV,hle,hp⟩:=pw
   have q1:MemOp.ofEvents (ic+1) gc.frame.fn gc.frame.place #[said (.acquire (stA E.Wg))]= #[{g:=ic+1,fn:=gc.frame.fn,pos:=gc.frame.place,act:= .mark (.acquire (stA E.Wg))}]:=by rw[ofEvents_eq];simp[said,Go.ConcR.ofEvent_mk]
   have hy:(t++ #[({g:=ic+1,fn:=gc.frame.fn,pos:=gc.frame.place,act:= .mark (.acquire (stA E.Wg))}:MemOp)])[t.size]?=some {g:=ic+1,fn:=gc.frame.fn,pos:=gc.frame.place,act:= .mark (.acquire (stA E.Wg))}:=by simp
   refine h.goC hm (c':= .run tr) (n':=0) (s':=gV) hg (bS w) ⟨rfl,rfl⟩ (fun hk=>h.sy.kW _ (hle.knows hk)) (fun hk=>h.sy.kC _ (hle.knows hk)) rfl ?_
    (fun op ax x hx _=>by rw[((iA.ops s3 _ _ _ op ax).2.2 x hx).2];simp) (fun e=>e.elim) (fun op ax=>(iA.ops s3 _ _ _ op ax).2.1) ⟨_,_,ha,?_⟩ rfl ⟨rfl,hp⟩ (fun _=>?_) (fJ (by simp[mW,CK.phi]))
   ·refine(h.sy.AO h.base.fit (.inr ⟨ic,_,rfl,h.sy.Ex.1,rfl⟩) (eE.refl w) s3 _ _).le fun j=>?_
    by_cases e:j=ic+1
    ·subst e;rw[aB];exact hle
    rw[aG _ _ e];exact St.le_refl _
   ·rw[e1,e4,e3,e2];exact .over trivial
   rw[q1]
   refine⟨t.size,by rw[act?_of hy],by simp[Trace.g?],⟨ic+1,by simp[Trace.g?],by rw[deaf_old (Nat.le_refl _)];exact yQ⟩,fun i r hi hc=>?_⟩
   obtain⟨x,hx,eZ⟩:=h.base.ok i r hi
   cases r with
   |leave q d cur=>
    obtain⟨p,hp⟩:=eZ.2.2.2.1 hc
    have dK:i≠ic:=fun e=>by subst e;rw[h.sy.Ex.1] at hi;cases hi
    refine⟨p,RelBy.other hp (fun op ax=>by simp at ax;subst ax;simp;omega),lt_of_act? hp.act⟩
   |_=>cases hc
 |run tr=>
  obtain⟨e1,e4,e3,e2,rfl,rfl⟩:=mG.run rfl trivial
  obtain⟨rfl,hp⟩:=pw
  cases tr with
  |leaf=>exact absurd rfl Sx
  |node f=>
   obtain⟨_,gp⟩:=hp
   obtain⟨g',w',es,s',bS,bU,ht,htr⟩:=gp w (h.base.fit.jC _)
   obtain⟨k1,k2,k3,k4,k5,k6⟩:=h.sy.Aj ht gc.frame.fn gc.frame.place
   refine h.goC hm (c':= .run (f w)) (n':=0) hg bS ⟨ht.os,ht.output⟩ k1 k2 k4 (h.base.fit.own ht _ _) (fun op ax x hx hb=>absurd hb (k5 op ax x hx)) (fun e=>e.elim) k6
    ⟨0,0,by unfold WgAt;rw[k3];exact ha,by rw[e1,e4,e3,e2];exact .over trivial⟩ (ht.deaf _) ⟨rfl,htr⟩ (fun _=>?_) (Gr (.mk f w))
   have:=(UT ⟨_,rfl⟩).step (r:= .closer) (r':= .closer) h.sy.Ex.1 (u:=MemOp.ofEvents (ic+1) gc.frame.fn gc.frame.place es) (fun op ax=>Go.ConcR.g_of_ofEvents op ax) (fun e=>e) (fun e=>(by cases e))
   rwa[show D.set ic ar.closer=D from by obtain⟨hl,e⟩:=List.getElem?_eq_some_iff.1 h.sy.Ex.1;rw[←e];simp] at this
end
section
variable {ι:Type} {E:dM ι} {L:Nat→Option Obj} {K:Nat→St} {gs:Array Goroutine} {w w':World} {t u:Trace} {D:List (ar ι)} {pend d0:Nat} {cl:zk} {main:Goroutine} {sl:Option (Nat×Nat)}
 {i:Nat} {g g':Goroutine} {es:Array Event}
theorem IT(h:g.offers=none)(r:Nat)(send:Bool):offersAt g r send=[]:=by
 unfold offersAt
 split
 ·rename_i h';rw[h] at h';cases h'
 rfl
theorem qN(h:g.status= .running∨g.status= .finished)(r:Nat)(send:Bool):offersAt g r send=[]:=
 offersAt_of_not_blocked (by rcases h with h|h<;>rw[h]<;>simp) r send
theorem Inv.offers(h:Inv E L K gs w t D pend cl main d0){x:Goroutine}(hj:gs[j+1]?=some x):
 (∃o p9 v zs,D[j]?=some (.gk o)∧x=parked p9 #[scase E.Ch v zs] .send)∨∀r send,offersAt x r send=[]:=by
 have cK:j <D.length:=by have:=lt_size hj;have:=h.base.size;omega
 have hD:D[j]?=some D[j]:=List.getElem?_eq_getElem cK
 obtain⟨y,hy,eZ⟩:=h.base.ok j _ hD
 obtain rfl:y=x:=by rw[hj] at hy;exact(Option.some.inj hy).symm
 by_cases hb:∃o,D[j]= .gk o
 ·obtain⟨o,e⟩:=hb
  rw[e] at eZ
  obtain⟨_,uL,p9,v,zs,X,Y,rfl,_⟩:=eZ
  exact .inl ⟨o,p9,v,zs,by rw[hD,e],rfl⟩
 right
 by_cases hc:D[j]= .closer
 ·have iQ:=h.sy.Ex
  match cl,iQ with
  |none,iQ=>
   have:=iQ D[j] (List.mem_of_getElem? hD)
   rw[hc] at this
   exact this.elim
  |some (ic,c,n),⟨_,h2,_,⟨gc,EZ,pw⟩,_⟩=>
   have e:=h2 j (by rw[hD,hc])
   subst e
   obtain rfl:gc=y:=by rw[hj] at EZ;exact(Option.some.inj EZ).symm
   intro r send
   by_cases agP:c= .blk
   ·subst agP
    obtain⟨_,uL,apY,e⟩:=pw
    exact IT (by rw[e];exact apY.2.1) r send
   exact qN (.inl (CK.tZ pw agP)) r send
 exact qN (eZ.running (fun o e=>hb ⟨o,e⟩) hc)
theorem Inv.Zo(h:Inv E L K gs w t D pend cl main d0)(hm:main.status= .running){o:ι}(hi:D[i]?=some (.work o .leaf)) (hg:gs[i+1]?=some g):
 qu E L K D pend cl main d0 (crowd gs w sl) sl t (i+1):=by
 obtain⟨eV,dg,eZ⟩:=h.base.ok i _ hi
 obtain rfl:eV=g:=by rw[hg] at dg;exact(Option.some.inj dg).symm
 obtain⟨hd,hs,p9,v,zs,X,Y,hXY,n7,bS,xN⟩:=eZ
 obtain⟨sn,rc,tm,hc⟩:=h.sy.chan
 have Io:partners (gs.setIfInBounds (i+1) ph) E.Ch false=[]:=partners_nil fun j x hx=>by
  rcases getElem?_stand gs _ _ _ hx with ⟨_,rfl⟩| ⟨_,lG⟩
  ·exact offersAt_ph _ _
  cases j with
  |zero=>
   have:x=main:=by rw[h.main] at lG;exact(Option.some.inj lG).symm
   subst this
   exact qN (.inl hm) _ _
  |succ j=>
   rcases h.offers lG with ⟨o',g',v',zs',_,rfl⟩|hn
   ·exact offersAt_parked_send' _ _ _ _ _ _
   exact hn _ _
 have bU:=crowd_waits (sl:=sl) hg (by simpa using bS w (h.base.fit.jC _)) (fun cc uu=>by
  simp only[List.mem_toArray,List.mem_singleton] at uu
  subst uu
  exact ways_send_none hc (Nat.le_refl 0) Io)
 have e0:MemOp.ofEvents (i+1) eV.frame.fn eV.frame.place #[]= #[]:=rfl
 rw[e0] at bU
 have ew:gs.map (woken E.P eV (parked p9 #[scase E.Ch v zs] .send) w)=gs:=by
  have:woken E.P eV (parked p9 #[scase E.Ch v zs] .send) w=id:=by funext x;simp[Go.Conc.woken,parked]
  rw[this,Array.map_id]
 refine h.go' (.inl hm) (r':= .gk o) (s':=K (i+1)) (w':=w) (g':=parked p9 #[scase E.Ch v zs] .send) (u:= #[]) hi (by simp) (by simp) hg (by simp) (by rw[ew];exact bU) ⟨rfl,rfl⟩ (h.sy.kW _) (h.sy.kC _) rfl ?_ ?_ (by simp) (by simp)
  (fun _=>rfl) (fun e=>e) (fun _ e=>e) (fun e=>(by cases e)) (Nat.le_refl _) rfl (fJ (by simp[ar.mu])) (fun cl' hw _=>h.ql (r':= .gk o) hi rfl rfl rfl rfl rfl cl' hw) fun _=>hm
 ·rw[lN,Array.append_empty];exact h.base.fit
 rw[Array.append_empty];exact⟨hd,p9,p9,v,zs,X,Y,rfl,hXY,n7,rfl,xN⟩
theorem Inv.norm(h:Inv E L K gs w t D pend cl main d0)(hi:D[i]?=some (.back .leaf)):
 ∃n,Inv E L (fE K (i+1) ⟨fun _=>none,[]⟩) gs w t (D.set i (.st .r0 n)) pend cl main d0∧ki (D.set i (.st .r0 n))=ki D∧One ub (D.set i (.st .r0 n)) D:=by
 obtain⟨g,hg,hd,n,hp⟩:=h.base.ok i _ hi
 have cK:=(List.getElem?_eq_some_iff.1 hi).1
 have oI:∀ {k x},(D.set i (ar.st .r0 n))[k]?=some x→(k=i∧x= .st .r0 n)∨(k≠i∧D[k]?=some x):=fun {k x} hk=>by
  by_cases e:k=i
  ·subst e
   exact .inl ⟨rfl,by simpa [List.getElem?_set,cK] using hk.symm⟩
  rw[List.getElem?_set_ne (Ne.symm e)] at hk;exact .inr ⟨e,hk⟩
 have hle:∀j,(fE K (i+1) ⟨fun _=>none,[]⟩ j).le (K j):=fun j=>by
  by_cases e:j=i+1
  ·subst e;rw[aB];exact⟨(K (i+1)).rw,by simp,fun b o hb=>(by cases hb)⟩
  rw[aG _ _ e];exact St.le_refl _
 have iD:cl≠none:=fun e=>by
  have:=h.sy.Ex
  subst e
  exact this _ (List.mem_of_getElem? hi)
 refine⟨n,⟨⟨h.base.fit.le hle,by simp[h.base.size],fun k r hk=>?_,fun k hk b hb=>h.base.far k hk b ((hle k).knows hb),h.base.ops,h.base.same⟩,
  ⟨fun j hj=>h.sy.kW j ((hle j).knows hj),fun j hj=>h.sy.kC j ((hle j).knows hj),h.sy.lW,h.sy.lC,h.sy.ne,h.sy.norel,fun j hj=>h.sy.plain j ?_,h.sy.said,?_,?_,h.sy.chan,h.sy.bal,?_⟩,h.main,h.deaf⟩,Gf (r:= .back .leaf) (r':= .st .r0 n) rfl hi,One.set hi (fJ (by simp[ar.mu,WK.Mi]))⟩
 ·rcases oI hk with ⟨rfl,rfl⟩| ⟨dK,jA⟩
  ·exact⟨g,hg,by rw[aB],hd,hp,fun e=>(by cases e)⟩
  rw[aG _ _ (by omega)];exact h.base.ok k r jA
 ·rcases hj with hj| ⟨k,r,rfl,hk,hl⟩
  ·exact .inl hj
  rcases oI hk with ⟨rfl,rfl⟩| ⟨_,jA⟩
  ·exact .inr ⟨_,_,rfl,hi,rfl⟩
  exact .inr ⟨k,r,rfl,jA,hl⟩
 ·obtain⟨st,sm,ha,mG⟩:=h.sy.cells
  exact⟨st,sm,ha,LP hi rfl rfl rfl rfl mG⟩
 ·have:=jv ar.cnt (y:=ar.st .r0 n) hi
  have e:(ar.st (ι:=ι) .r0 n).cnt=(ar.back (ι:=ι) .leaf).cnt:=rfl
  have:=h.sy.BQ
  omega
 have iQ:=h.sy.Ex
 match cl,iQ,iD with
 |some (ic,c,m),⟨h1,h2,h3,⟨gc,EZ,pw⟩,h5⟩,_=>
  have dK:ic≠i:=fun e=>by subst e;rw[hi] at h1;cases h1
  refine⟨by rw[List.getElem?_set_ne (Ne.symm dK)];exact h1,fun k hk=>?_,h3,⟨gc,EZ,by rw[aG _ _ (by omega)];exact pw⟩,fun hr=>?_⟩
  ·rcases oI hk with ⟨_,e⟩| ⟨_,jA⟩
   ·cases e
   exact h2 k jA
  have:=(h5 hr).step (u:= #[]) (r':= .st .r0 n) hi (by simp) (fun e=>(by cases e)) (fun e=>(by cases e))
  rwa[Array.append_empty] at this
end
section
variable {ι:Type} {E:dM ι} {L:Nat→Option Obj} {K:Nat→St} {gs kS:Array Goroutine} {w w':World} {t u:Trace} {D:List (ar ι)} {pend d0:Nat} {cl:zk} {main main':Goroutine} {sl:Option (Nat×Nat)}
 {i:Nat} {g g':Goroutine} {es:Array Event}
theorem fM(t:Trace)(g:Nat)(u:Trace)(hu:∀op∈u,∀m,op.act≠ .mark m):Deaf (t++u) g=Deaf t g:=by
 obtain⟨l⟩:=u
 rw[Deaf_append]
 induction l generalizing t with
 |nil=>rfl
 |cons y l ih=>
  have hy:=hu y (by simp)
  have e1:deafStep g (Deaf t g) y=Deaf t g:=by
   unfold deafStep
   split
   ·rename_i e;exact absurd e (hy _)
   ·rename_i e;exact absurd e (hy _)
   rfl
  rw[List.foldl_cons,e1]
  exact ih t (fun op ax=>hu op (by simp at ax ⊢;exact .inr ax))
theorem BJ{o:ι}{r':ar ι}(ho:r'.WQ=none):∀ {D:List (ar ι)} {i:Nat} {r:ar ι},D[i]?=some r→r.WQ=some o→∃a b,ki D=a++o::b∧ki (D.set i r')=a++b
 | [],i,r,h,_=>by simp at h
 |x::D,0,r,h,hr=>by
  simp only[List.getElem?_cons_zero,Option.some.injEq] at h;subst h
  exact⟨[],ki D,by simp[ki,hr],by simp[ki,ho]⟩
 |x::D,i+1,r,h,hr=>by
  obtain⟨a,b,h1,h2⟩:=BJ ho (D:=D) (i:=i) (by simpa using h) hr
  cases hx:x.WQ with
  |none=>exact⟨a,b,by simp only[ki,List.filterMap_cons,hx] at h1 ⊢;exact h1,by simp only[ki,List.set_cons_succ,List.filterMap_cons,hx] at h2 ⊢;exact h2⟩
  |some y=>exact⟨y::a,b,by simp only[ki,List.filterMap_cons,hx] at h1 ⊢;rw[h1];rfl,by simp only[ki,List.set_cons_succ,List.filterMap_cons,hx] at h2 ⊢;rw[h2];rfl⟩
theorem Inv.meet(h:Inv E L K gs w t D pend cl main 0)(iD:cl≠none){r:ar ι}{o:ι}{X Y:List (Nat×Obj)}{tr:Tree}{gw:Goroutine}(hi:D[i]?=some r) (hr:r= .work o .leaf∨r= .gk o)
 (hd:Deaf t (i+1)=0) (hXY:(K (i+1)).rw.Perm (X++Y)) (hle:gV.le ⟨(K (i+1)).ro,Y⟩) (hb:oz E.P false E.Ii tr gw gV)
 (uI:kS.size=gs.size) (h0:kS[0]?=some main') (hw1:kS[i+1]?=some gw) (hgs:∀k,k≠0→k≠i+1→kS[k]?=gs[k]?)
  (hc:w.heap[E.Ch]?=some (.chan 0 #[] false sn rc tm)) (sO:w'.heap[E.Ch]?=some (.chan 0 #[] false (sn+1) (rc+1) tm)) (rE:w'.heap.size=w.heap.size) (hwb:∀b,b≠E.Ch→w'.heap[b]?=w.heap[b]?) (QB:VQ w w')
 {a0 a1 a2 a3:MemOp} (e0:a0.g=i+1∧a0.act= .send E.Ch sn) (e1:a1.g=0∧a1.act= .recv E.Ch rc 0) (e2:a2.g=i+1∧a2.act= .sendDone E.Ch sn) (e3:a3.g=0∧a3.act= .recvDone E.Ch rc):
 Inv E L (fE (fE K (i+1) gV) 0 ⟨(K 0).ro,X++(K 0).rw⟩) kS w' (t++ #[a0,a1,a2,a3]) (D.set i (.back tr)) pend cl main' 0:=by
 have cK:=(List.getElem?_eq_some_iff.1 hi).1
 have avN:=h.sy.bal _ _ _ hc
 subst avN
 have oI:∀ {k x},(D.set i (ar.back tr))[k]?=some x→(k=i∧x= .back tr)∨(k≠i∧D[k]?=some x):=fun {k x} hk=>by
  by_cases e:k=i
  ·subst e
   exact .inl ⟨rfl,by simpa [List.getElem?_set,cK] using hk.symm⟩
  rw[List.getElem?_set_ne (Ne.symm e)] at hk;exact .inr ⟨e,hk⟩
 have hu:∀op∈ #[a0,a1,a2,a3],op.g=i+1∨op.g=0:=by intro op ax;simp at ax;rcases ax with rfl|rfl|rfl|rfl<;>simp[e0.1,e1.1,e2.1,e3.1]
 have hq:∀op∈ #[a0,a1,a2,a3],op.act.touch?=none:=by intro op ax;simp at ax;rcases ax with rfl|rfl|rfl|rfl<;>simp[e0.2,e1.2,e2.2,e3.2,MemAct.touch?]
 have QS:∀op∈ #[a0,a1,a2,a3],∀m,op.act≠ .mark m:=by intro op ax;simp at ax;rcases ax with rfl|rfl|rfl|rfl<;>simp[e0.2,e1.2,e2.2,e3.2]
 have yQ:∀k,Deaf (t++ #[a0,a1,a2,a3]) k=Deaf t k:=fun k=>fM t k _ QS
 have p0:(t++ #[a0,a1,a2,a3])[t.size]?=some a0:=by simp
 have p3:(t++ #[a0,a1,a2,a3])[t.size+3]?=some a3:=by simp
 have hear:∀k (hk:k≤3) (op:MemOp),(t++ #[a0,a1,a2,a3])[t.size+k]?=some op→op.g=i+1∨op.g=0→Deaf t (i+1)=0→Deaf t 0=0→(t++ #[a0,a1,a2,a3]).heard (t.size+k):=by
  intro k hk op ho hg h1 h2
  refine⟨op.g,by simp only[Trace.g?,ho,Option.map_some],?_⟩
  have key:∀k,k≤3→∀q,Deaf t q=0→(t++ #[a0,a1,a2,a3]).deaf q (t.size+k)=0:=by
   intro k
   induction k with
   |zero=>intro _ q hq;rw[Nat.add_zero,deaf_old (Nat.le_refl _)];exact hq
   |succ k ih=>
    intro hk q EV
    have cK:t.size+k <(t++ #[a0,a1,a2,a3]).size:=by simp;omega
    have hm:(t++ #[a0,a1,a2,a3])[t.size+k]?=some (t++ #[a0,a1,a2,a3])[t.size+k]:=Array.getElem?_eq_getElem cK
    have zf:(t++ #[a0,a1,a2,a3])[t.size+k]∈ #[a0,a1,a2,a3]:=by
     rcases getElem?_append_cases hm with ⟨h',_⟩| ⟨_,h'⟩
     ·omega
     exact h'
    rw[show t.size+(k+1)=t.size+k+1 by omega,deaf_succ hm,ih (by omega) q EV]
    have hn:=QS _ zf
    unfold deafStep
    split
    ·rename_i e;exact absurd e (hn _)
    ·rename_i e;exact absurd e (hn _)
    rfl
  rcases hg with hg|hg<;>rw[hg]
  ·exact key k hk _ h1
  exact key k hk _ h2
 have aa4:HappensBefore (t++ #[a0,a1,a2,a3]) t.size (t.size+3):=
  .single (.inr ⟨.handOver (c:=E.Ch) (k:=sn) (by rw[act?_of p0,e0.2]) (by rw[act?_of p3,e3.2]),hear 0 (by omega) a0 p0 (.inl e0.1) hd h.deaf,hear 3 (by omega) a3 p3 (.inr e3.1) hd h.deaf⟩)
 have aQJ:Fit L K w' (t++ #[a0,a1,a2,a3]):=h.base.fit.quiet E.Ch h.sy.kC h.sy.lC (Nat.le_of_eq rE.symm) (fun b hb _=>hwb b hb) hq
 have ku:∀b o,(b,o)∈X→(K (i+1)).iN b:=fun b o hm=>⟨o,hXY.mem_iff.2 (by simp[hm])⟩
 have aQI:=aQJ.hand (i:=0) (j:=i+1) (by omega) X Y hXY fun b o hm p x hx hxb=>by
  rcases bE hx with ⟨hp,lG⟩| ⟨_,op,SA,_,xL⟩
  ·have k1:=h.base.fit.perm (i+1) b (ku b o hm) p x lG hxb
   exact⟨t.size+3,a3,p3,e3.1,.inr ((k1.hb_new (Nat.le_refl _) p0 e0.1).trans aa4)⟩
  rw[hq op SA] at xL;cases xL
 have aQH:Fit L (fE (fE K (i+1) gV) 0 ⟨(K 0).ro,X++(K 0).rw⟩) w' (t++ #[a0,a1,a2,a3]):=aQI.le fun j=>by
  by_cases e:j=0
  ·subst e;rw[aB,aB];exact St.le_refl _
  rw[aG _ _ e,aG _ _ e]
  by_cases e':j=i+1
  ·subst e';rw[aB,aB];exact hle
  rw[aG _ _ e',aG _ _ e'];exact St.le_refl _
 have It:∀b,(∀j,¬(K j).knows b)→∀j,¬(fE (fE K (i+1) gV) 0 ⟨(K 0).ro,X++(K 0).rw⟩ j).knows b:=fun b hb j hk=>by
  by_cases e:j=0
  ·subst e;rw[aB] at hk
   rcases hk with hk| ⟨o,ho⟩
   ·exact hb 0 (.inl hk)
   rcases List.mem_append.1 ho with h'|h'
   ·exact hb (i+1) (.inr (ku b o h'))
   exact hb 0 (.inr ⟨o,h'⟩)
  rw[aG _ _ e] at hk
  by_cases e':j=i+1
  ·subst e';rw[aB] at hk
   rcases hle.knows hk with hk| ⟨o,ho⟩
   ·exact hb (i+1) (.inl hk)
   exact hb (i+1) (.inr ⟨o,hXY.mem_iff.2 (by simp[ho])⟩)
  rw[aG _ _ e'] at hk;exact hb j hk
 have I6:r.cnt=1∧r.c4=0∧r.c3=0∧r.c2=0:=by rcases hr with rfl|rfl<;>exact⟨rfl,rfl,rfl,rfl⟩
 refine⟨⟨aQH,by rw[uI];simp[h.base.size],fun k x hk=>?_,fun k hk b hb=>?_,fun op ax=>?_,⟨QB.1.trans h.base.same.1,QB.2.trans h.base.same.2⟩⟩,
  ⟨It _ h.sy.kW,It _ h.sy.kC,h.sy.lW,h.sy.lC,h.sy.ne,fun a=>(h.sy.norel a).app fun op ax=>QS op ax _,fun j hj p x hx hxb hk=>?_,?_,?_,?_,⟨_,_,_,sO⟩,fun a b c hx=>?_,?_⟩,h0,by rw[yQ];exact h.deaf⟩
 ·rcases oI hk with ⟨rfl,rfl⟩| ⟨dK,jA⟩
  ·exact⟨gw,hw1,by rw[yQ];exact hd,by rw[aG _ _ (by omega),aB];exact hb⟩
  obtain⟨y,hy,eZ⟩:=h.base.ok k x jA
  refine⟨y,by rw[hgs (k+1) (by omega) (by omega)];exact hy,?_⟩
  rw[aG _ _ (by omega),aG _ _ (by omega)]
  exact eZ.other fun op ax=>by rcases hu op ax with e|e<;>rw[e]<;>omega
 ·rw[uI] at hk
  have:=h.base.size
  rw[aG _ _ (by omega),aG _ _ (by omega)] at hb
  exact h.base.far k hk b hb
 ·rw[uI]
  rcases Array.mem_append.1 ax with h'|h'
  ·exact h.base.ops op h'
  rcases hu op h' with e|e<;>rw[e,h.base.size]<;>omega
 ·rcases bE hx with ⟨_,lG⟩| ⟨_,op,SA,_,xL⟩
  ·refine(h.sy.plain j ?_ p x lG hxb hk).app _
   rcases hj with hj| ⟨k,y,rfl,jA,hl⟩
   ·exact .inl hj
   rcases oI jA with ⟨rfl,rfl⟩| ⟨_,avc⟩
   ·exact .inr ⟨_,r,rfl,hi,by rcases hr with rfl|rfl<;>rfl⟩
   exact .inr ⟨k,y,rfl,avc,hl⟩
  rw[hq op SA] at xL;cases xL
 ·have hs:=h.sy.said
  match cl,hs,iD with
  |some (ic,c,n),hs,_=>
   intro he p x hx hxb hk
   rcases bE hx with ⟨_,lG⟩| ⟨_,op,SA,_,xL⟩
   ·exact(hs he p x lG hxb hk).app _
   rw[hq op SA] at xL;cases xL
 ·obtain⟨st,sm,ha,mG⟩:=h.sy.cells
  refine⟨st,sm,by unfold WgAt;rw[hwb _ h.sy.ne];exact ha,LP hi ?_ ?_ ?_ ?_ mG⟩
  ·rw[I6.1];rfl
  ·rw[I6.2.1];rfl
  ·rw[I6.2.2.1];rfl
  rw[I6.2.2.2];rfl
 ·have:=jv ar.cnt (y:=ar.back tr) hi
  have e:(ar.back (ι:=ι) tr).cnt=1:=rfl
  have:=h.sy.BQ
  omega
 ·rw[sO] at hx
  simp only[Option.some.injEq,Obj.chan.injEq] at hx
  omega
 have iQ:=h.sy.Ex
 obtain⟨st,sm,ha,mG⟩:=h.sy.cells
 have aCC:1≤fe ar.cnt D:=by have:=tK ar.cnt hi;rw[I6.1] at this;exact this
 match cl,iQ,iD,mG with
 |some (ic,c,m),⟨h1,h2,h3,⟨gc,EZ,pw⟩,h5⟩,_,mG=>
  have dK:ic≠i:=fun e=>by subst e;rw[hi] at h1;rcases hr with rfl|rfl<;>cases h1
  refine⟨by rw[List.getElem?_set_ne (Ne.symm dK)];exact h1,fun k hk=>?_,by rw[yQ];exact h3,⟨gc,by rw[hgs _ (by omega) (by omega)];exact EZ,by rw[aG _ _ (by omega),aG _ _ (by omega)];exact pw⟩,fun⟨tr',e⟩=>?_⟩
  ·rcases oI hk with ⟨_,e⟩| ⟨_,jA⟩
   ·cases e
   exact h2 k jA
  subst e
  have:=(mG.run rfl trivial).1
  omega
end
def Ends(P:Program)(Q:Machine→Outcome→World→Trace→Prop)(m:Machine)(t:Trace):Prop:=
 ∃n last o w' t',runNT P (n+1) m t=(.ended o w',t')∧runN P n m= .next last∧step P last= .ended o w'∧Q last o w' t'
theorem Ends.next{m m':Machine}{ops:Array MemOp}(hs:stepT P m=(.next m',ops))(h:Ends P Q m' (t++ops)):Ends P Q m t:=by
 obtain⟨n,last,o,w,t',h1,h2,h3,h4⟩:=h
 exact⟨n+1,last,o,w,t',by rw[runNT_succ_next hs];exact h1,by rw[runN_succ_next hs];exact h2,h3,h4⟩
section
variable {L:Nat→Option Obj} {K:Nat→St} {w:World} {t:Trace}
theorem aR.at(h:aR s w)(d:Nat):aR s (w.at d):=⟨h.ro,h.rw,h.nodup,h.apart⟩
theorem Fit.at(h:Fit L K w t)(d:Nat):Fit L K (w.at d) t:=⟨h.D7,h.lg,fun i=>(h.jC i).at d,h.sep,h.perm,h.qL,h.old,h.clean,h.sync⟩
end
section
variable {ι:Type} {E:dM ι} {L:Nat→Option Obj} {K:Nat→St} {gs:Array Goroutine} {w:World} {t:Trace} {D:List (ar ι)} {pend d0:Nat} {cl:zk} {main:Goroutine}
theorem Inv.at(h:Inv E L K gs w t D pend cl main d0)(d:Nat):Inv E L K gs (w.at d) t D pend cl main d0:=
 ⟨⟨h.base.fit.at d,h.base.size,h.base.ok,h.base.far,h.base.ops,h.base.same⟩,
  ⟨h.sy.kW,h.sy.kC,h.sy.lW,h.sy.lC,h.sy.ne,h.sy.norel,h.sy.plain,h.sy.said,h.sy.cells,h.sy.BQ,h.sy.chan,h.sy.bal,h.sy.Ex⟩,h.main,h.deaf⟩
end
structure Lv(P:Program)(G:Trace→Nat→Prop)(L:Nat→Option Obj)(K:Nat→St)(gs:Array Goroutine)(w:World)(t:Trace)(q:List Nat):Prop where
 fit:Fit L K w t
 size:gs.size=q.length+1
 ok:∀i n,q[i]?=some n→∃g d,gs[i+1]?=some g∧QuitsD P n d g∧Deaf t (i+1)=d∧G t (i+1)
 none:∀i b,i≠0→¬(K i).knows b
 ops:∀op∈t,op.g <gs.size
structure Lu(G:Trace→Nat→Prop):Prop where
 other:∀t u i,G t i→(∀op∈u,op.g≠i)→G (t++u) i
 quiet:∀t u i,G t i→(∀op∈u,op.act.touch?=none)→G (t++u) i
theorem Dw:Lu ep:=⟨fun _ _ _ h hu=>h.other hu,fun _ _ _ h hu=>h.quiet hu⟩
def iU(pc:Nat)(t:Trace)(i:Nat):Prop:=pc <t.size∧(ep t i∨∀p,t.g? p=some i→t.counts p→HappensBefore t p pc)
theorem iU.grow{pc:Nat}(h:iU pc t i)(hu:∀p op,t.size≤p→(t++u)[p]?=some op→op.g=i→¬(t++u).counts p) (hk:ep t i→ep (t++u) i):iU pc (t++u) i:=by
 refine⟨by rw[Array.size_append];have:=h.1;omega,h.2.imp hk fun h' p hp hc=>?_⟩
 obtain⟨op,ho,hg⟩:=Option.map_eq_some_iff.1 hp
 rcases Nat.lt_or_ge p t.size with cK|QZ
 ·exact hb_app u (h' p (by rw[←g?_old (u:=u) cK];exact hp) ((counts_old cK).1 hc))
 exact absurd hc (hu p op QZ ho hg)
theorem Rf(pc:Nat):Lu (iU pc):=
 ⟨fun t u i h hu=>h.grow (fun p op hp ho hg=>by
  rcases getElem?_append_cases ho with ⟨h',_⟩| ⟨_,hm⟩
  ·omega
  ·exact absurd hg (hu op hm)) fun h'=>h'.other hu,
  fun t u i h hu=>h.grow (fun p op hp ho hg hc=>by
   obtain⟨x,hx,_⟩:=hc
   obtain⟨o',EW,lG⟩:=touch_of hx
   rw[ho] at EW;cases EW
   rcases getElem?_append_cases ho with ⟨h',_⟩| ⟨_,hm⟩
   ·omega
   rw[hu op hm] at lG;cases lG) fun h'=>h'.quiet hu⟩
section
variable {P:Program} {G:Trace→Nat→Prop} {L:Nat→Option Obj} {K:Nat→St} {gs:Array Goroutine} {w:World} {t:Trace} {q:List Nat} {sl:Option (Nat×Nat)}
theorem Lv.at(h:Lv P G L K gs w t q)(d:Nat):Lv P G L K gs (w.at d) t q:=⟨h.fit.at d,h.size,h.ok,h.none,h.ops⟩
theorem Lv.le(h:Lv P G L K gs w t q)(hl:s.le (K 0)):Lv P G L (fE K 0 s) gs w t q:=
 ⟨h.fit.le fun j=>by
  by_cases e:j=0
  ·subst e;rw[aB];exact hl
  rw[aG _ _ e];exact St.le_refl _,h.size,h.ok,fun i b hi hk=>by rw[aG _ _ hi] at hk;exact h.none i b hi hk,h.ops⟩
theorem Lv.leave(hG:Lu G)(h:Lv P G L K gs w t q){m:Goroutine}(hm:gs[0]?=some m) (zd:m.status= .running) (hg:gs[i+1]?=some g) (hs:g.status= .running):
 ∃kS u q',runT P (crowd gs w sl) (i+1)=(.next (crowd kS w sl),u)∧Lv P G L K kS w (t++u) q'∧kS[0]?=some m∧Deaf (t++u) 0=Deaf t 0∧q'.sum <q.sum∧∀op∈u,∀a,op.act≠ .mark (.release a):=by
 have cK:i <q.length:=by have:=lt_size hg;have:=h.size;omega
 have hq:=List.getElem?_eq_getElem cK
 obtain⟨eV,d,dg,hqd,hd,hk⟩:=h.ok i _ hq
 obtain rfl:eV=g:=by rw[hg] at dg;exact(Option.some.inj dg).symm
 cases e:q[i] with
 |zero=>rw[e] at hqd;have:=hqd.1;rw[hs] at this;cases this
 |succ n=>
  rw[e] at hqd
  rcases hqd with ⟨h1,_⟩| ⟨_,g',es,Sz,bS,EV⟩
  ·rw[hs] at h1;cases h1
  have hu:=Ki (i:=i+1) (fn:=eV.frame.fn) (pos:=eV.frame.place) Sz
  have hgi:∀op∈MemOp.ofEvents (i+1) eV.frame.fn eV.frame.place es,op.g=i+1:=fun op ax=>Go.ConcR.g_of_ofEvents op ax
  have Ee:∀x:Goroutine,(x.status= .running∨x.status= .finished)→woken P eV g' w x=x:=fun x hx=>by
   unfold Go.Conc.woken
   split
   ·exact again_running _ hx
   rfl
  refine⟨_,_,q.set i n,runT_crowd_go (P:=P) (sl:=sl) (i:=i+1) hg (by simpa using bS w),⟨?_,by simp[h.size],fun k n' jA=>?_,h.none,fun op ax=>?_⟩,?_,?_,?_,fun op ax a=>Qg Sz a op ax⟩
  ·exact h.fit.quiet w.heap.size (fun j hj=>absurd (h.fit.GA hj) (Nat.lt_irrefl _)) (by
    cases hL:L w.heap.size with
    |none=>rfl
    |some o=>exact absurd (lt_size (h.fit.D7 _ o hL)) (Nat.lt_irrefl _)) (Nat.le_refl _) (fun _ _ _=>rfl) hu
  ·by_cases hki:k=i
   ·subst hki
    have:n=n':=by simpa [List.getElem?_set,cK] using jA
    subst this
    exact⟨g',_,by simp[h.size,cK],EV,by rw[Deaf_own,hd],hG.quiet _ _ _ hk hu⟩
   rw[List.getElem?_set_ne (Ne.symm hki)] at jA
   obtain⟨x,dx,hx,hqx,hdx,Bf⟩:=h.ok k n' jA
   have dK:∀op∈MemOp.ofEvents (i+1) eV.frame.fn eV.frame.place es,op.g≠k+1:=fun op ax=>by rw[hgi op ax];omega
   exact⟨x,dx,by rw[fO (by omega) hx,Ee x hqx.status],hqx,by rw[gF _ _ dK];exact hdx,hG.other _ _ _ Bf dK⟩
  ·rw[Array.size_setIfInBounds,Array.size_map]
   rcases Array.mem_append.1 ax with h'|h'
   ·exact h.ops op h'
   rw[hgi op h',h.size];omega
  ·rw[fO (by omega) hm,Ee m (.inl zd)]
  ·exact gF _ _ fun op ax=>by rw[hgi op ax];omega
  have key:∀(l:List Nat) (i:Nat) (x:Nat),l[i]?=some x→∀y,y <x→(l.set i y).sum <l.sum:=by
   intro l
   induction l with
   |nil=>intro i x h;simp at h
   |cons a l ih=>
    intro i x hx y hy
    cases i with
    |zero=>simp only[List.getElem?_cons_zero,Option.some.injEq] at hx;subst hx;simp only[List.set_cons_zero,List.sum_cons];omega
    |succ i=>have:=ih i x (by simpa using hx) y hy;simp only[List.set_cons_succ,List.sum_cons];omega
  exact key q i _ (by rw[hq,e]) n (Nat.lt_succ_self n)
theorem Lv.own(hG:Lu G)(h:Lv P G L K gs w t q){es:Array Event}(hm:gs[0]?=some g) (bS:stepG P true g w= .go g' w' es) (ht:Trans (K 0) w s' w' es):
 ∃kS u,runT P (crowd gs w sl) 0=(.next (crowd kS w' sl),u)∧Lv P G L (fE K 0 s') kS w' (t++u) q∧kS[0]?=some g'∧Deaf (t++u) 0=Deaf t 0∧∀op∈u,∀a,op.act≠ .mark (.release a):=by
 have hgi:∀op∈MemOp.ofEvents 0 g.frame.fn g.frame.place es,op.g=0:=fun op ax=>Go.ConcR.g_of_ofEvents op ax
 refine⟨_,_,runT_crowd_go (P:=P) (sl:=sl) (i:=0) hm (by simpa using bS),⟨h.fit.own ht _ _,by simp[h.size],fun k n hk=>?_,fun i b hi hk=>?_,fun op ax=>?_⟩,?_,?_,fun op ax a e=>?_⟩
 ·obtain⟨x,dx,hx,hqx,hdx,Bf⟩:=h.ok k n hk
  have dK:∀op∈MemOp.ofEvents 0 g.frame.fn g.frame.place es,op.g≠k+1:=fun op ax=>by rw[hgi op ax];omega
  exact⟨x,dx,by rw[fO (by omega) hx,woken_quitsD hqx],hqx,by rw[gF _ _ dK];exact hdx,hG.other _ _ _ Bf dK⟩
 ·rw[aG _ _ hi] at hk;exact h.none i b hi hk
 ·rw[Array.size_setIfInBounds,Array.size_map]
  rcases Array.mem_append.1 ax with h'|h'
  ·exact h.ops op h'
  rw[hgi op h',h.size];omega
 ·simp[h.size]
 ·rw[Deaf_own,ht.deaf]
 rw[ofEvents_eq] at ax
 obtain⟨e',he,rfl⟩:=Array.mem_map.1 ax
 have hl:=Go.ConcR.loc_of_ofEvent e
 have:=ht.uW e' he
 unfold Ih at this
 rw[hl] at this
 simp[BL] at this
structure YM(I:(Nat→St)→World→Trace→Prop):Prop where
 grow:∀K w t u,I K w t→(∀op∈u,∀a,op.act≠ .mark (.release a))→I K w (t++u)
 drawn:∀K w t d,I K w t→I K (w.at d) t
 le:∀K w t s,I K w t→s.le (K 0)→I (fE K 0 s) w t
 own:∀K w t s' w' es u,I K w t→Trans (K 0) w s' w' es→(∀op∈u,∀a,op.act≠ .mark (.release a))→I (fE K 0 s') w' (t++u)
def Calm(os:Os)(out:Array (Nat×ByteArray)):(Nat→St)→World→Trace→Prop:=fun _ w t=>(∀a,NoRelease a t)∧w.os=os∧w.output=out
def TL(P:Program)(G:Trace→Nat→Prop)(L:Nat→Option Obj)(I:(Nat→St)→World→Trace→Prop)(Q:Machine→Outcome→World→Trace→Prop)(g:Goroutine)(s:St):Prop:=
 ∀K gs w t q sl,Lv P G L K gs w t q→gs[0]?=some g→s.le (K 0)→Deaf t 0=0→I K w t→Ends P Q (crowd gs w sl) t
theorem LQ(hG:Lu G)(hI:YM I)(hs:g.status= .running)
 (h:∀K gs w t q sl m,Lv P G L K gs w t q→gs[0]?=some g→K 0=s→Deaf t 0=0→I K w t→stepT P m=runT P (crowd gs w sl) 0→(m.gs=gs∧m.rest.timers= #[])→Ends P Q m t):TL P G L I Q g s:=by
 intro K gs w t q sl hL h0 hle hd hi
 generalize hn:q.sum=n
 induction n using Nat.strongRecOn generalizing K gs w t q sl with
 |_ n ih=>
  have hL:=hL.le hle
  have hi:=hI.le _ _ _ _ hi hle
  obtain⟨i,eV,d,Sm,dg,GQ,bS⟩:=crowd_pick (P:=P) (gs:=gs) (w:=w) (sl:=sl) (fun x hx=>by
   obtain⟨j,hj,rfl⟩:=Array.mem_iff_getElem.1 hx
   have hj':gs[j]?=some gs[j]:=Array.getElem?_eq_getElem hj
   intro k
   cases j with
   |zero=>rw[h0] at hj';rw[←Option.some.inj hj',hs];simp
   |succ j=>
    have cK:j <q.length:=by have:=hL.size;omega
    obtain⟨y,d,hy,hq,_⟩:=hL.ok j _ (List.getElem?_eq_getElem cK)
    rw[hj'] at hy
    rw[Option.some.inj hy]
    rcases hq.status with e|e<;>rw[e]<;>simp) ⟨0,g,h0,hs⟩
  cases i with
  |zero=>exact h _ gs (w.at d) t q Sm _ (hL.at d) h0 (aB _ _ _) hd (hI.drawn _ _ _ _ hi) bS ⟨rfl,rfl⟩
  |succ i=>
   obtain⟨kS,u,q',hr,hL',SA,E1,cK,hrl⟩:=(hL.at d).leave (sl:=Sm) hG h0 hs dg GQ
   refine Ends.next (bS.trans hr) (ih q'.sum (hn▸cK) _ kS _ _ q' Sm hL' SA ?_ (by rw[E1];exact hd) (hI.grow _ _ _ _ (hI.drawn _ _ _ _ hi) hrl) rfl)
   rw[aB];exact St.le_refl _
theorem Jq(hG:Lu G)(hI:YM I)(Q:Machine→Outcome→World→Trace→Prop):Closed P true (TL P G L I Q) where
 step:=fun g s hs h=>LQ hG hI hs fun K gs w t q sl m hL h0 hK hd hi bS _=>by
  subst hK
  obtain⟨g',w',es,s',hgo,_,ht,hT⟩:=h w (hL.fit.jC 0)
  obtain⟨kS,u,hr,hL',SA,E1,hrl⟩:=hL.own (sl:=sl) hG h0 hgo ht
  exact Ends.next (bS.trans hr) (hT _ kS w' _ q sl hL' SA (by rw[aB];exact St.le_refl _) (by rw[E1];exact hd) (hI.own _ _ _ _ _ _ _ hi ht hrl))
 mono:=fun g s s' hl h K gs w t q sl hL h0 hle hd hi=>h K gs w t q sl hL h0 (hl.trans hle) hd hi
theorem TL.mono(hl:s.le s')(h:TL P G L I Q g s):TL P G L I Q g s':=
 fun K gs w t q sl hL h0 hle hd hi=>h K gs w t q sl hL h0 (hl.trans hle) hd hi
end
end Go.L
