/- Part 2 of the proof. -/
import Derived.Test.YthegconjacjohaaGreatDoorK1
import Derived.Conc.CrowdBase
import Derived.Conc.CrowdComm
import Derived.Conc.CrowdTrace
import Derived.Conc.Holds
import Derived.Conc.Know
import Derived.Conc.QuitsD
import Derived.Conc.WrBase2
import Derived.Conc.WrWorld
set_option maxRecDepth 100000
set_option linter.all false
namespace Go.L
open Go Go.Conc
variable {g g':Goroutine} {i n b mx j n' p ic sn rc:Nat} {Q:Machine→Outcome→World→Trace→Prop} {s s' iq:St} {ι:Type} {I:(Nat→St)→World→Trace→Prop} {st sm:Int} {main tm:Bool} {T:Goroutine→St→Prop} {w':World} {P:Program} {t u:Trace} {Stop:Goroutine→Prop} {cs:List Frame} {fn:FuncId} {gs:Array Goroutine} {ds:List Deferred} {pos:String} {ca:Array Value} {fr:Frame}
section rounds
variable {P:Program} {C:Class} {s:St}
def dY(bd:Nat):Deferred:={target:= .collected bd,args:= #[]}
def iz(fn:FuncId)(tmps:Array Value)(params:Array Tmp)(assign body:Code)(bd:Nat):Loop:={state:= .ready,pending:=none,fn,tmps,params,assign,body,defers:=bd}
def ac0(Q:Post)(a:Act)(l:Nat):Ending→St→Prop
 | .returned _,s=>Dw s l fun r up=>r.state≠ .busy∧(match r.pending with
  |none=>Q .normal a (up {r with state:= .exhausted})
  |some .ret=>Q .ret a (up {r with state:= .exhausted})
  |some (.exit id)=>Q (.exit id) a (up {r with state:= .exhausted})
  |_=>False)
 | .panicked ch,s=>Q (.panic ch) a s
 | .outgrown,_=>False
theorem Av(hC:∀main T,C main T→Closed P main T){x:Operand}{params:Array Tmp}{assign body:Code}{Q:Post}{a:Act}{g:FuncId}{fi:Array Value}(hx:a.eval x= .func (.func g) fi ca)(ff:FF P g)
 (h:∀bd bl,¬s.knows bd→¬(⟨s.ro,(bd,.deferred (some []))::s.rw⟩:St).knows bl→
  Fn C P g (fi++ #[.func (.yield bl) #[] #[]]++ca) ⟨s.ro,(bl,.loop (iz fn a.tmps params assign body bd))::(bd,.deferred (some []))::s.rw⟩ (ac0 Q {a with defers:=dY bd::a.defers} bl)):
 Wp C fn none (.rangeFunc x params assign body) Q a s:=by
 intro main T hT b k cs h1 h2 h3 h4
 have iM:=hC main T hT
 have hk:(b.kind==CallKind.early)=false:=by simpa using h2
 have wz:bO P (Instr.enterLoop fn a.tmps params assign body none) s (fun r s'=>∃bd bl,¬s.knows bd∧¬(⟨s.ro,(bd,.deferred (some []))::s.rw⟩:St).knows bl∧r=(bl,[dY bd])∧s'=⟨s.ro,(bl,.loop (iz fn a.tmps params assign body bd))::(bd,.deferred (some []))::s.rw⟩) (fun _ _=>False):=by
  simp only[Instr.enterLoop,aa,oh,ae]
  intro bd hbd
  intro bl HO
  exact⟨bd,bl,hbd,HO,rfl,rfl⟩
 refine iM.step _ _ rfl fun w pJ=>?_
 obtain⟨res,es,bX,hl⟩:=gG _ _ _ _ w #[] wz pJ
 rw[Array.empty_append] at bX
 cases res with
 |halt _ _=>obtain⟨_,_,hu⟩:=hl;exact hu.elim
 |ok r w1=>
  obtain⟨s1,ht1,bd,bl,hbd,HO,rfl,rfl⟩:=hl
  have aE7:bO P (callFunc g (fi++ #[.func (.yield bl) #[] #[]]++ca)) ⟨s.ro,(bl,.loop (iz fn a.tmps params assign body bd))::(bd,.deferred (some []))::s.rw⟩ (fun nx s2=>nx= .enter g (fi++ #[.func (.yield bl) #[] #[]]++ca)∧s2=⟨s.ro,(bl,.loop (iz fn a.tmps params assign body bd))::(bd,.deferred (some []))::s.rw⟩) (fun _ _=>False):=j5 ff ⟨rfl,rfl⟩
  obtain⟨aNe,Br,arA,qT⟩:=gG _ _ _ _ w1 #[] aE7 ht1.jL
  rw[Array.empty_append] at arA
  cases aNe with
  |halt _ _=>obtain⟨_,_,hu⟩:=qT;exact hu.elim
  |ok nx w2=>
   obtain⟨s2,ht2,rfl,rfl⟩:=qT
   let nO:Frame:=aL b {a with defers:=dY bd::a.defers} (.inRangeFunc bl::k)
   refine⟨G (Frame.enter P g (fi++ #[.func (.yield bl) #[] #[]]++ca) .normal) (nO::cs),w2,seen P b.fn es++seen P b.fn Br,_,?_,rfl,(ht1.sub (iC _ _ _)).trans (ht2.sub (iC _ _ _)),?_⟩
   ·have TQ:(aL b {a with defers:=dY bd::a.defers} (.inRangeFunc bl::k)).eval x= .func (.func g) fi ca:=by rw[Ic];exact hx
    have hdo:(do let d ←resolve (aL b {a with defers:=dY bd::a.defers} (.inRangeFunc bl::k)).eval {callee:= .value x,args:= #[.const (.func (.yield bl) #[] #[])],argTypes:= #[]} 0;invoke d.target d.args:Sem Next)=callFunc g (fi++ #[.func (.yield bl) #[] #[]]++ca):=by
     have hm:Array.map (aL b {a with defers:=dY bd::a.defers} (.inRangeFunc bl::k)).eval #[Operand.const (.func (.yield bl) #[] #[])]= #[.func (.yield bl) #[] #[]]:=by simp[Frame.eval]
     simp only[resolve,TQ,Deferred.ofValue]
     rw[hm]
     rfl
    have bW:stepG P main (G (aL b a (.code (.rangeFunc x params assign body)::k)) cs) w=
     (let (r,es):=(Instr.enterLoop b.fn a.tmps params assign body b.roundOf).runT P w #[]
      GStep.after (seen P b.fn es)<|match r with
       | .ok (l,mark) w=>
        stepG.apply P true (aL b {a with defers:=mark++a.defers} (.inRangeFunc l::k)) cs none (do let d ←resolve (aL b {a with defers:=mark++a.defers} (.inRangeFunc l::k)).eval {callee:= .value x,args:= #[.const (.func (.yield l) #[] #[])],argTypes:= #[]} 0;invoke d.target d.args) w
       | .halt _ w=> .ended (.stuck "range over a function: no such loop" ((aL b a (.code (.rangeFunc x params assign body)::k)).pos P)) w):=rfl
    rw[bW,h1,h3,bX]
    simp only[List.singleton_append]
    rw[hdo]
    simp only[stepG.apply,if_true,arA]
    simp only[aL,hk,Bool.false_eq_true,if_false,GStep.after,h1]
    simp[G,nO,aL,h1]
   refine h bd bl hbd HO main T hT nO cs (fun v s' hv=>?_) (fun ch s' hv=>h4 _ _ _ hv _)
   obtain⟨L,r,Rr,hs,CX,hq⟩:=hv
   have qu:∀(jump:Option Code),r.pending=jump→T (G (aL b {a with defers:=dY bd::a.defers} ((jump.map Item.code).toList++k)) cs) ⟨s'.ro,L++(bl,.loop {r with state:= .exhausted})::Rr⟩→T (G (nO.finish v) cs) s':=by
    intro jump hj hT'
    have aE6:bO P (Instr.endLoop bl) s' (fun j s2=>j=jump∧s2=⟨s'.ro,L++(bl,.loop {r with state:= .exhausted})::Rr⟩) (fun _ _=>False):=by
     simp only[Instr.endLoop]
     refine xj hs ?_
     have hbq:(r.state==LoopState.busy)=false:=by simpa using CX
     simp only[hbq,Bool.false_eq_true,if_false,aa,ae]
     exact ei rfl hs rfl ⟨hj,rfl⟩
    refine iM.step _ _ rfl fun w pJ=>?_
    obtain⟨res,es,bX,hl⟩:=gG _ _ _ _ w #[] aE6 pJ
    rw[Array.empty_append] at bX
    cases res with
    |halt _ _=>obtain⟨_,_,hu⟩:=hl;exact hu.elim
    |ok j w'=>
     obtain⟨s2,ht,rfl,rfl⟩:=hl
     refine⟨_,w',seen P b.fn es,_,?_,rfl,ht.sub (iC _ _ _),hT'⟩
     have aQI:stepG P main (G (nO.finish v) cs) w=(let (r,es):=(Instr.endLoop bl).runT P w #[]
      GStep.after (seen P b.fn es)<|match r with
      | .ok jump w=> .go (G (aL b {a with defers:=dY bd::a.defers} ((jump.map Item.code).toList++k)) cs) w
      | .halt (.panic v) w=> .go (G ((aL b {a with defers:=dY bd::a.defers} (.endRangeFunc bl::k)).raise [{v,recovered:=false}]) cs) w
      | .halt _ w=> .ended (.stuck "range over a function: no such loop" ((aL b {a with defers:=dY bd::a.defers} (.endRangeFunc bl::k)).pos P)) w):=rfl
     rw[aQI,bX]
     simp[GStep.after]
   split at hq
   ·rename_i hp;exact qu none hp (h4 _ _ _ hq)
   ·rename_i hp;exact qu _ hp (h4 _ _ _ hq k)
   ·rename_i id hp
    refine qu _ hp ?_
    have h':=h4 _ _ _ hq
    simp only[jN] at h'
    cases iL:exitTo id k with
    |some k'=>
     rw[iL] at h'
     exact iM.go rfl rfl (g':=G (aL b {a with defers:=dY bd::a.defers} k') cs) (fun w=>by simp[G,stepG,stepG.exec,aL,iL]) h'
    |none=>rw[iL] at h';exact h' k iL
   exact hq.elim
end rounds
section marks
variable {P:Program} {C:Class} {s:St}
theorem unwind_mark(hC:∀main T,C main T→Closed P main T)(hT:C main T)(hm:fr.mode= .returning∨∃ch,fr.mode= .panicking ch){bd:Nat}(hd:fr.defers=dY bd::ds)
 {L Rr:List (Nat×Obj)}(hs:s.rw=L++(bd,.deferred (some []))::Rr)(h:T (G {fr with defers:=ds} cs) ⟨s.ro,L++(bd,.deferred none)::Rr⟩):T (G fr cs) s:=by
 have wz:bO P (Instr.takeDeferred bd) s (fun c s2=>c=[]∧s2=⟨s.ro,L++(bd,.deferred none)::Rr⟩) (fun _ _=>False):=by
  simp only[Instr.takeDeferred]
  refine cG (o:= .deferred (some [])) (.inr (by rw[hs];exact fp)) rfl rfl ?_
  exact ei rfl hs rfl ⟨rfl,rfl⟩
 refine(hC main T hT).step _ _ rfl fun w pJ=>?_
 obtain⟨res,es,bX,hl⟩:=gG _ _ _ _ w #[] wz pJ
 rw[Array.empty_append] at bX
 cases res with
 |halt _ _=>obtain⟨_,_,hu⟩:=hl;exact hu.elim
 |ok c w'=>
  obtain⟨s2,ht,rfl,rfl⟩:=hl
  refine⟨_,w',seen P fr.fn es,_,?_,rfl,ht.sub (iC _ _ _),h⟩
  rcases fr with ⟨fn',tmps,todo,defers,mode,kind,ro⟩
  simp only at hm hd
  subst hd
  rcases hm with rfl| ⟨ch,rfl⟩
  ·simp only[G,stepG,unwind,dY,bX,GStep.after,Array.append_empty,List.nil_append]
  simp only[G,stepG,unwind,dY,bX,GStep.after,Array.append_empty,List.nil_append]
end marks
section code
variable {P:Program} {C:Class} {fn:FuncId} {aA:Option Nat} {n LF:Nat} {F:Nat×Obj→Prop} {R:Nat→Option Obj} {call:cq}
theorem PA{Q:Post}{a:Act}(hC:∀main T,C main T→Closed P main T){c:Code}(h:Wp C fn aA c Q a s):Wp C fn aA (.scope c) Q a s:=by
 intro main T hT b k cs h1 h2 h3 h4
 refine(hC main T hT).go rfl rfl (g':=G (aL b a (.code c:: .inScope c::k)) cs) (fun w=>by simp[G,stepG,stepG.exec,aL]) ?_
 refine h main T hT b (.inScope c::k) cs h1 h2 h3 fun e a' s' q=>?_
 cases e with
 |normal=>exact(hC main T hT).go rfl rfl (g':=G (aL b a' k) cs) (fun w=>by simp[G,stepG,stepG.exec,aL]) (h4 _ _ _ q)
 |exit id=>
  have hh:exitTo id (.inScope c::k)=exitTo id k:=rfl
  have:=h4 _ _ _ q
  simp only[jN,hh] at this ⊢
  exact this
 |ret=>exact h4 _ _ _ q
 |panic ch=>exact h4 _ _ _ q
 |goto l=>exact(h4 _ _ _ q).elim
 |outgrown=>exact(h4 _ _ _ q).elim
theorem wp_label{Q:Post}{a:Act}(hC:∀main T,C main T→Closed P main T){l:Nat}(h:Q .normal a s):Wp C fn aA (.label l) Q a s:=
 fun main T hT b k cs _ _ _ h4=>(hC main T hT).go rfl rfl (g':=G (aL b a k) cs) (fun w=>by simp[G,stepG,stepG.exec,aL]) (h4 _ _ _ h)
end code
section code
variable {P:Program} {C:Class} {fn:FuncId} {aA:Option Nat} {n LF:Nat} {D:List Deferred} {F:Nat×Obj→Prop} {R:Nat→Option Obj} {call:cq}
theorem sS(P:Program)(f:FuncId):seen P f #[]= #[]:=by
 apply Array.eq_empty_of_size_eq_zero
 rcases Nat.eq_zero_or_pos (seen P f #[]).size with h|h
 ·exact h
 have:=iC P f #[] (seen P f #[])[0] (Array.getElem_mem h)
 simp at this
def Jt(P:Program)(f:FuncId):Option (Func×Tmp×Code):=
 match P.funcs[f]? with
 |some fn=>match fn.body with
  |some (.seq (.region _ ops false) rest)=>match ops.toList with
   | [o]=>match o.dst,o.op,o.guard with
    |some t,.call ⟨.builtin .recover,xs,_⟩,none=>bif xs.isEmpty&&(fn.results.isEmpty&& !(fn.name== "runtime.NumGoroutine")) then some (fn,t,rest) else none
    |_,_,_=>none
   |_=>none
  |_=>none
 |none=>none
structure aJk(P:Program)(f:FuncId)(fn:Func)(t:Tmp)(rest:Code):Prop where
 ex:P.funcs[f]?=some fn∧fn.results= #[]∧(fn.name== "runtime.NumGoroutine")=false∧∃id o at_,fn.body=some (.seq (.region id #[o] false) rest)∧o.dst=some t∧o.op= .call ⟨.builtin .recover,#[],at_⟩∧o.guard=none
theorem X4{f:FuncId}{fn:Func}{t:Tmp}{rest:Code}(h:Jt P f=some (fn,t,rest)):aJk P f fn t rest:=by
 unfold Jt at h
 split at h<;>try (cases h;done)
 rename_i fn0 uR
 split at h<;>try (cases h;done)
 rename_i id ops aW9 hb
 split at h<;>try (cases h;done)
 rename_i o ho
 split at h<;>try (cases h;done)
 rename_i t0 xs at_ h1 h2 h3
 cases hc:(xs.isEmpty&&(fn0.results.isEmpty&& !(fn0.name== "runtime.NumGoroutine"))) with
 |false=>rw[hc] at h;cases h
 |true=>
  rw[hc] at h;simp only[cond_true,Option.some.injEq,Prod.mk.injEq] at h
  obtain⟨rfl,rfl,rfl⟩:=h
  simp only[Bool.and_eq_true,Bool.not_eq_true',Array.isEmpty_iff] at hc
  obtain⟨rfl,c2,c3⟩:=hc
  refine⟨uR,c2,c3,id,o,at_,?_,h1,h2,h3⟩
  rw[hb]
  have:ops= #[o]:=by apply Array.ext';simpa using ho
  rw[this]
inductive UM where
 |ret
 |panic (v:Value)
inductive MR(ρ:aU):UM→FrameMode→Prop
 |ret:MR ρ .ret .returning
 |panic (v v':Value):VR ρ v v'→MR ρ (.panic v) (.panicking [{v:=v',recovered:=false}])
def amP:UM→Value
 | .ret=> .nilIface
 | .panic v=>v
theorem jC(hC:∀main T,C main T→Closed P main T)(hT:C main T)(hm:fr.mode= .returning∨∃ch,fr.mode= .panicking ch){f:FuncId}(ff:FF P f){a:Array Value} 
 (hd:fr.defers={target:= .fn (.func f) ca,args:=a}::ds)(h:T (G (Frame.enter P f (a++ca) .deferred) ({fr with defers:=ds}::cs)) s):T (G fr cs) s:=by
 have wz:bO P (invoke (.fn (.func f) ca) a) s (fun nx s2=>nx= .enter f (a++ca)∧s2=s) (fun _ _=>False):=by
  simp only[invoke]
  exact j5 ff ⟨rfl,rfl⟩
 refine(hC main T hT).step _ _ rfl fun w pJ=>?_
 obtain⟨res,es,bX,hl⟩:=gG _ _ _ _ w #[] wz pJ
 rw[Array.empty_append] at bX
 cases res with
 |halt _ _=>obtain⟨_,_,hu⟩:=hl;exact hu.elim
 |ok c w'=>
  obtain⟨s2,ht,rfl,rfl⟩:=hl
  refine⟨_,w',seen P fr.fn es,_,?_,rfl,ht.sub (iC _ _ _),h⟩
  rcases fr with ⟨fn',tmps,todo,defers,mode,kind,ro⟩
  simp only at hm hd
  subst hd
  rcases hm with rfl| ⟨ch,rfl⟩
  ·simp only[G,stepG,unwind,callDeferred,bX,GStep.after,Array.append_empty]
   rfl
  simp only[G,stepG,unwind,callDeferred,bX,GStep.after,Array.append_empty]
  rfl
theorem AH(hC:∀main T,C main T→Closed P main T)(hT:C main T){b:Frame}{a:Act}{o:Oper}{t:Tmp}{at_:Array TypeId}{k:List Item}{ρ:aU}{u:UM}(sw:b.kind= .deferred)(qY:b.roundOf=none)
 (h1:o.dst=some t)(h2:o.op= .call ⟨.builtin .recover,#[],at_⟩)(h3:o.guard=none)(hu:MR ρ u fr.mode)
 (h:∀v' ng,VR ρ (amP u) v'∨(u= .ret∧v'= .nilIface)→(ng= .returning∨∃v,ng= .panicking [{v:=v,recovered:=true}])→T (G (aL b (a.put (some t) v') (.inRegion #[o] []::k)) ({fr with mode:=ng}::cs)) s):
 T (G (aL b a (.inRegion #[o] [0]::k)) (fr::cs)) s:=by
 have hw:Region.wanted o (yielded #[o] a.tmps)=true:=by unfold Region.wanted;rw[h3]
 have hex:∀aM,execOp aM o=pure .recover:=by
  intro aM
  simp only[execOp,h2,resolve]
  rfl
 have mr:∀v,(aL b a (.inRegion #[o] [0]::k)).finish v=aL b (a.put (some t) v) (.inRegion #[o] []::k):=by
  intro v
  rw[fH]
  have:((#[o]:Array Oper)[0]?).bind (·.dst)=some t:=by simpa using h1
  rw[this]
 have gA:∀w,stepG P main (G (aL b a (.inRegion #[o] [0]::k)) (fr::cs)) w=stepG.apply P true (aL b a (.inRegion #[o] [0]::k)) (fr::cs) none (pure .recover) w:=by
  intro w
  have he:=kQ b a (.inRegion #[o] [0]::k)
  simp only[aL] at he
  have ho:(#[o]:Array Oper)[0]?=some o:=by simp
  simp only[G,stepG,stepG.exec,aL,ho,Option.map_some,Option.getD_some,hw,if_true,stepG.oper,Frame.oper?,he,qY,hex]
 rcases R3:fr.mode with _|_|ch
 ·rw[R3] at hu;cases hu
 ·rw[R3] at hu
  cases hu
  have:=h .nilIface .returning (.inr ⟨rfl,rfl⟩) (.inl rfl)
  rw[←mr] at this
  refine(hC main T hT).go rfl rfl (fun w=>?_) this
  rw[gA]
  have hfr: {fr with mode:=FrameMode.returning}=fr:=by rw[←R3]
  rw[hfr]
  simp only[stepG.apply,if_true]
  show GStep.after (seen P _ _) _=_
  simp[Sem.runT,pure,GStep.after,aL,sw,qY,tryRecover,R3,G]
  exact sS P b.fn
 rw[R3] at hu
 cases hu
 rename_i v v' hv
 have:=h v' (.panicking [{v:=v',recovered:=true}]) (.inl hv) (.inr ⟨v',rfl⟩)
 rw[←mr] at this
 refine(hC main T hT).go rfl rfl (fun w=>?_) this
 rw[gA]
 simp only[stepG.apply,if_true]
 show GStep.after (seen P _ _) _=_
 simp[Sem.runT,pure,GStep.after,aL,sw,qY,tryRecover,R3,G]
 exact sS P b.fn
end code
def iS:Code→List Code
 | .seq a b=>iS a++iS b
 |c=>[c]
def fJ(K:Nat→St)(i:Nat)(s:St):Nat→St:=fun j=>if j=i then s else K j
theorem aE(K:Nat→St)(i:Nat)(s:St):fJ K i s i=s:=by simp[fJ]
theorem aH(K:Nat→St)(s:St)(h:j≠i):fJ K i s j=K j:=by simp[fJ,h]
structure Fit(L:Nat→Option Obj)(K:Nat→St)(w:World)(t:Trace):Prop where
 EE:∀b o,L b=some o→w.heap[b]?=some o
 lI:∀i b,(K i).iW b→L b=none
 jL:∀i,aR (K i) w
 sep:∀i j b,i≠j→(K i).iW b→¬(K j).knows b
 perm:∀i b,(K i).iW b→∀p x,touchAt t p=some x→blk x.loc=some b→Knows t i p
 ri:∀i b,(K i).ro b≠none→∀p x,touchAt t p=some x→blk x.loc=some b→x.write=true→Knows t i p
 old:∀p x b,touchAt t p=some x→blk x.loc=some b→b <w.heap.size
 clean:∀said,¬Race said t
 sync:∀p x b,touchAt t p=some x→x.kind≠ .plain→blk x.loc=some b→L b=none∧∀i,¬(K i).knows b
theorem lt_size{α:Type}{a:Array α}{x:α}(h:a[i]?=some x):i <a.size:=by
 rcases Nat.lt_or_ge i a.size with h'|h'
 ·exact h'
 rw[Array.getElem?_eq_none h'] at h;cases h
theorem bH{x:Touch}(h:touchAt (t++u) p=some x):(p <t.size∧touchAt t p=some x)∨(t.size≤p∧∃op∈u,(t++u)[p]?=some op∧op.act.touch?=some x):=by
 rcases Nat.lt_or_ge p t.size with hp|hp
 ·exact .inl ⟨hp,by rw[←touchAt_old (u:=u) hp];exact h⟩
 obtain⟨op,ho,hx⟩:=touch_of h
 rcases getElem?_append_cases ho with ⟨h',_⟩| ⟨_,hm⟩
 ·omega
 exact .inr ⟨hp,op,hm,ho,hx⟩
theorem DE{es:Array Event}(h:∀e∈es,IY s n e){op:MemOp}(ho:op∈MemOp.ofEvents i fn pos es):
 op.g=i∧∀x,op.act.touch?=some x→x.kind= .plain∧∃b,blk x.loc=some b∧(n≤b∨s.iW b∨(x.write=false∧s.ro b≠none))∧∃e∈es,blk e.loc=some b:=by
 rw[ofEvents_eq] at ho
 obtain⟨e,he,rfl⟩:=Array.mem_map.1 ho
 refine⟨rfl,fun x hx=>?_⟩
 have hk:=h e he
 obtain⟨loc,wr,sy⟩:=e
 cases loc with
 |cell a=>
  obtain⟨h1,h2⟩:=hk
  simp only at h1 h2
  subst h1
  cases wr<;>(simp only[MemAct.ofEvent,MemAct.touch?,Option.some.injEq] at hx;subst hx;exact⟨rfl,_,rfl,h2,_,he,rfl⟩)
 |obj r=>
  obtain⟨h1,h2⟩:=hk
  simp only at h1 h2
  subst h1
  cases wr<;>(simp only[MemAct.ofEvent,MemAct.touch?,Option.some.injEq] at hx;subst hx;exact⟨rfl,_,rfl,h2,_,he,rfl⟩)
 |mark m=>
  cases m<;>simp only[IY,Co,Bool.false_eq_true] at hk<;>(cases hx)
 |_=>exact hk.elim
theorem CH(hu:∀op∈u,op.g=i)(hp:t.size≤p){op:MemOp}(ho:(t++u)[p]?=some op):Knows (t++u) i p:=by
 rcases getElem?_append_cases ho with ⟨h',_⟩| ⟨_,hm⟩
 ·omega
 have:=knows_own ho
 rwa[hu op hm] at this
theorem Fit.own{L:Nat→Option Obj}{K:Nat→St}{w:World}(h:Fit L K w t){es:Array Event}(ht:Trans (K i) w s' w' es)(fn:FuncId)(pos:String):
 Fit L (fJ K i s') w' (t++MemOp.ofEvents i fn pos es):=by
 have hu:=fun op (ho:op∈MemOp.ofEvents i fn pos es)=>DE ht.vx ho
 have hg:∀op∈MemOp.ofEvents i fn pos es,op.g=i:=fun op ho=>(hu op ho).1
 have other:∀j b,j≠i→(K j).knows b→b <w.heap.size∧¬(K i).iW b:=fun j b hj hk=>by
  refine⟨?_,fun ho=>h.sep i j b (Ne.symm hj) ho hk⟩
  rcases hk with hk| ⟨o,hk⟩
  ·cases hr:(K j).ro b with
   |none=>exact absurd hr hk
   |some o=>exact(h.jL j).lt (.inl hr)
  exact(h.jL j).lt (.inr hk)
 have Yv:∀b o,L b=some o→b <w.heap.size:=fun b o hl=>lt_size (h.EE b o hl)
 refine⟨fun b o hl=>?_,fun j b ho=>?_,fun j=>?_,fun j k b Pj ho hk=>?_,fun j b ho p x hx hb=>?_,fun j b ho p x hx hb hw=>?_,fun p x b hx hb=>?_,fun said=>?_,fun p x b hx hk hb=>?_⟩
 ·rw[ht.frame b (Yv b o hl) (fun ho=>by have:=h.lI i b ho;rw[hl] at this;cases this)];exact h.EE b o hl
 ·by_cases hj:j=i
  ·subst hj
   rw[aE] at ho
   rcases ht.own b ho with h1|h1
   ·cases hl:L b with
    |none=>rfl
    |some o=>have:=Yv b o hl;omega
   exact h.lI j b h1
  rw[aH K s' hj] at ho;exact h.lI j b ho
 ·by_cases hj:j=i
  ·subst hj;rw[aE];exact ht.jL
  rw[aH K s' hj]
  have a:=h.jL j
  refine⟨fun b o hb=>?_,fun b o hb=>?_,a.nodup,a.apart⟩
  ·have:=other j b hj (.inl (by rw[hb];simp))
   rw[ht.frame b this.1 this.2];exact a.ro b o hb
  have:=other j b hj (.inr ⟨o,hb⟩)
  rw[ht.frame b this.1 this.2];exact a.rw b o hb
 ·by_cases hj:j=i
  ·subst hj
   rw[aE] at ho
   rw[aH K s' (Ne.symm Pj)] at hk
   have:=other k b (Ne.symm Pj) hk
   rcases ht.own b ho with h1|h1
   ·omega
   exact this.2 h1
  rw[aH K s' hj] at ho
  by_cases jJ:k=i
  ·subst jJ
   rw[aE] at hk
   have:=other j b hj (.inr ho)
   rcases hk with hk|hk
   ·rcases ht.MS b hk with h1|h1|h1
    ·omega
    ·exact h.sep j k b hj ho (.inl h1)
    exact this.2 h1
   rcases ht.own b hk with h1|h1
   ·omega
   exact this.2 h1
  rw[aH K s' jJ] at hk
  exact h.sep j k b Pj ho hk
 ·rcases bH hx with ⟨hp,k7⟩| ⟨hp,op,hm,az,yg⟩
  ·by_cases hj:j=i
   ·subst hj
    rw[aE] at ho
    rcases ht.own b ho with h1|h1
    ·exact absurd (h.old p x b k7 hb) (by omega)
    exact(h.perm j b h1 p x k7 hb).app _
   rw[aH K s' hj] at ho
   exact(h.perm j b ho p x k7 hb).app _
  by_cases hj:j=i
  ·subst hj;exact CH hg hp az
  rw[aH K s' hj] at ho
  obtain⟨_,b',mv,hc,e',Am,C3⟩:=(hu op hm).2 x yg
  obtain rfl:b'=b:=by rw[hb] at mv;exact(Option.some.inj mv).symm
  have:=other j b' hj (.inr ho)
  rcases hc with h1|h1|h1
  ·omega
  ·exact absurd h1 this.2
  exact absurd (.inl h1.2) (h.sep j i b' hj ho)
 ·rcases bH hx with ⟨hp,k7⟩| ⟨hp,op,hm,az,yg⟩
  ·by_cases hj:j=i
   ·subst hj
    rw[aE] at ho
    rcases ht.MS b ho with h1|h1|h1
    ·exact absurd (h.old p x b k7 hb) (by omega)
    ·exact(h.ri j b h1 p x k7 hb hw).app _
    exact(h.perm j b h1 p x k7 hb).app _
   rw[aH K s' hj] at ho
   exact(h.ri j b ho p x k7 hb hw).app _
  by_cases hj:j=i
  ·subst hj;exact CH hg hp az
  rw[aH K s' hj] at ho
  obtain⟨_,b',mv,hc,e',Am,C3⟩:=(hu op hm).2 x yg
  obtain rfl:b'=b:=by rw[hb] at mv;exact(Option.some.inj mv).symm
  have:=other j b' hj (.inl ho)
  rcases hc with h1|h1|h1
  ·omega
  ·exact absurd h1 this.2
  rw[h1.1] at hw;cases hw
 ·rcases bH hx with ⟨hp,k7⟩| ⟨hp,op,hm,az,yg⟩
  ·exact Nat.lt_of_lt_of_le (h.old p x b k7 hb) ht.size
  obtain⟨_,b',mv,hc,e',Am,C3⟩:=(hu op hm).2 x yg
  obtain rfl:b'=b:=by rw[hb] at mv;exact(Option.some.inj mv).symm
  exact ht.low e' Am b' C3
 case refine_9=>
  rcases bH hx with ⟨hp,k7⟩| ⟨hp,op,hm,az,yg⟩
  ·have hs:=h.sync p x b k7 hk hb
   refine⟨hs.1,fun j hj=>?_⟩
   by_cases e:j=i
   ·subst e
    rw[aE] at hj
    have cJ:=h.old p x b k7 hb
    rcases hj with hj|hj
    ·rcases ht.MS b hj with h1|h1|h1
     ·omega
     ·exact hs.2 j (.inl h1)
     exact hs.2 j (.inr h1)
    rcases ht.own b hj with h1|h1
    ·omega
    exact hs.2 j (.inr h1)
   rw[aH K s' e] at hj;exact hs.2 j hj
  exact absurd ((hu op hm).2 x yg).1 hk
 case refine_8=>
  refine noRace_append (h.clean said) hg fun p a ha op hm b hb hc=>?_
  obtain⟨hk,c,hbc,uU,_⟩:=(hu op hm).2 b hb
  have aw2:blk a.loc=some c:=by rw[hc.1];exact hbc
  rcases uU with h1|h1|h1
  ·exact absurd (h.old p a c ha aw2) (by omega)
  ·exact h.perm i c h1 p a ha aw2
  refine h.ri i c h1.2 p a ha aw2 ?_
  rcases hc.2.2.1 with hw|hw
  ·exact hw
  rw[h1.1] at hw;cases hw
theorem Nq{said:Bool}(h:¬Race said t)(hu:∀op∈u,op.act.touch?=none):¬Race said (t++u):=by
 rintro⟨i,j,Jb,⟨a,b,ha,hb,hc⟩,n1,n2⟩
 obtain⟨y,hy,hyb⟩:=touch_of hb
 rcases getElem?_append_cases hy with ⟨hj,_⟩| ⟨_,hyu⟩
 ·have hi:i <t.size:=Nat.lt_trans Jb hj
  exact h ⟨i,j,Jb,⟨a,b,by rw[←act?_old (u:=u) hi];exact ha,by rw[←act?_old (u:=u) hj];exact hb,hc⟩,fun e=>n1 (hb_app u e),fun e=>n2 (hb_app u e)⟩
 rw[hu y hyu] at hyb;cases hyb
section
variable {L:Nat→Option Obj} {K:Nat→St} {w w':World} {t u:Trace}
theorem Fit.Hd(h:Fit L K w t)(hk:(K i).knows b):b <w.heap.size:=by
 rcases hk with hk| ⟨o,hk⟩
 ·cases hr:(K i).ro b with
  |none=>exact absurd hr hk
  |some o=>exact(h.jL i).lt (.inl hr)
 exact(h.jL i).lt (.inr hk)
theorem aR.congr(h:aR s w)(hf:∀b,s.knows b→w'.heap[b]?=w.heap[b]?):aR s w':=
 ⟨fun b o hb=>by rw[hf b (.inl (by rw[hb];simp))];exact h.ro b o hb,fun b o hb=>by rw[hf b (.inr ⟨o,hb⟩)];exact h.rw b o hb,h.nodup,h.apart⟩
theorem Fit.quiet(h:Fit L K w t)(B:Nat)(hB:∀j,¬(K j).knows B)(hBL:L B=none)(hs:w.heap.size≤w'.heap.size)(hf:∀b,b≠B→b <w.heap.size→w'.heap[b]?=w.heap[b]?)
 (hu:∀op∈u,op.act.touch?=none):Fit L K w' (t++u):=by
 have old:∀p x,touchAt (t++u) p=some x→touchAt t p=some x:=fun p x hx=>by
  rcases bH hx with ⟨_,h'⟩| ⟨_,op,hm,_,yg⟩
  ·exact h'
  rw[hu op hm] at yg;cases yg
 refine⟨fun b o hl=>?_,h.lI,fun i=>?_,h.sep,fun i b ho p x hx hb=>(h.perm i b ho p x (old p x hx) hb).app u,fun i b ho p x hx hb hw=>(h.ri i b ho p x (old p x hx) hb hw).app u,
  fun p x b hx hb=>Nat.lt_of_lt_of_le (h.old p x b (old p x hx) hb) hs,fun said=>Nq (h.clean said) hu,fun p x b hx hk hb=>h.sync p x b (old p x hx) hk hb⟩
 ·rw[hf b (fun e=>by rw[e,hBL] at hl;cases hl) (lt_size (h.EE b o hl))];exact h.EE b o hl
 exact(h.jL i).congr fun b hb=>hf b (fun e=>hB i (e▸hb)) (h.Hd hb)
theorem Fit.beside(h:Fit L K w t)(B i:Nat)(hB:∀j,¬(K j).knows B)(hBL:L B=none)(hBw:B <w.heap.size)(hs:w.heap.size≤w'.heap.size)(hf:∀b,b≠B→b <w.heap.size→w'.heap[b]?=w.heap[b]?)
 (hg:∀op∈u,op.g=i) (hu:∀op∈u,∀x,op.act.touch?=some x→blk x.loc=some B∧∀said p a,touchAt t p=some a→a.conflicts said x→Knows t i p):Fit L K w' (t++u):=by
 have old:∀b,b≠B→∀p x,touchAt (t++u) p=some x→blk x.loc=some b→touchAt t p=some x:=fun b dI p x hx hb=>by
  rcases bH hx with ⟨_,h'⟩| ⟨_,op,hm,_,yg⟩
  ·exact h'
  have:=(hu op hm x yg).1
  rw[hb] at this;exact absurd (Option.some.inj this) dI
 have ne:∀j b,(K j).knows b→b≠B:=fun j b hk e=>hB j (e▸hk)
 refine⟨fun b o hl=>?_,h.lI,fun i=>?_,h.sep,fun j b ho p x hx hb=>(h.perm j b ho p x (old b (ne j b (.inr ho)) p x hx hb) hb).app u,
  fun j b ho p x hx hb hw=>(h.ri j b ho p x (old b (ne j b (.inl ho)) p x hx hb) hb hw).app u,
  fun p x b hx hb=>?_,fun said=>noRace_append (h.clean said) hg fun p a ha op hm b hb hc=>(hu op hm b hb).2 said p a ha hc,fun p x b hx hk hb=>?_⟩
 ·rw[hf b (fun e=>by rw[e,hBL] at hl;cases hl) (lt_size (h.EE b o hl))];exact h.EE b o hl
 ·exact(h.jL i).congr fun b hb=>hf b (fun e=>hB i (e▸hb)) (h.Hd hb)
 ·by_cases e:b=B
  ·subst e;omega
  exact Nat.lt_of_lt_of_le (h.old p x b (old b e p x hx hb) hb) hs
 by_cases e:b=B
 ·subst e;exact⟨hBL,hB⟩
 exact h.sync p x b (old b e p x hx hb) hk hb
theorem St.le.iW(h:s.le s')(hb:s.iW b):s'.iW b:=by
 obtain⟨R,h1,_⟩:=h
 obtain⟨o,ho⟩:=hb
 exact⟨o,h1.mem_iff.2 (by simp[ho])⟩
theorem St.le.ro(h:s.le s')(hb:s.ro b≠none):s'.ro b≠none∨s'.iW b:=by
 obtain⟨R,h1,h2⟩:=h
 cases hr:s.ro b with
 |none=>exact absurd hr hb
 |some o=>
  rcases h2 b o hr with h3|h3
  ·exact .inl (by rw[h3];simp)
  exact .inr ⟨o,h1.mem_iff.2 (by simp[h3])⟩
theorem St.le.knows(h:s.le s')(hb:s.knows b):s'.knows b:=hb.elim (fun hr=>(h.ro hr).elim .inl .inr) fun ho=> .inr (h.iW ho)
theorem Fit.le{K':Nat→St}(h:Fit L K w t)(hK:∀i,(K' i).le (K i)):Fit L K' w t:=
 ⟨h.EE,fun i b ho=>h.lI i b ((hK i).iW ho),fun i=>(h.jL i).of_le (hK i),fun i j b Jb ho hk=>h.sep i j b Jb ((hK i).iW ho) ((hK j).knows hk),
  fun i b ho p x hx hb=>h.perm i b ((hK i).iW ho) p x hx hb,
  fun i b ho p x hx hb hw=>((hK i).ro ho).elim (fun hr=>h.ri i b hr p x hx hb hw) fun hr=>h.perm i b hr p x hx hb,h.old,h.clean,
  fun p x b hx hk hb=>⟨(h.sync p x b hx hk hb).1,fun i hi=>(h.sync p x b hx hk hb).2 i ((hK i).knows hi)⟩⟩
theorem Fit.hand(h:Fit L K w t)(Jb:i≠j)(X Y:List (Nat×Obj))(hX:(K j).rw.Perm (X++Y))
 (hk:∀b o,(b,o)∈X→∀p x,touchAt t p=some x→blk x.loc=some b→Knows t i p):
 Fit L (fJ (fJ K j ⟨(K j).ro,Y⟩) i ⟨(K i).ro,X++(K i).rw⟩) w t:=by
 have iX:∀x,x∈X→x∈(K j).rw:=fun x hx=>hX.mem_iff.2 (by simp[hx])
 have ah2:∀x,x∈Y→x∈(K j).rw:=fun x hx=>hX.mem_iff.2 (by simp[hx])
 have mb:(X.map (·.1)).Nodup∧(Y.map (·.1)).Nodup∧∀b o o',(b,o)∈X→(b,o')∈Y→False:=by
  have:=(hX.map (·.1)).nodup_iff.1 (h.jL j).nodup
  rw[List.map_append,List.nodup_append] at this
  exact⟨this.1,this.2.1,fun b o o' h1 h2=>this.2.2 b (List.mem_map.2 ⟨_,h1,rfl⟩) b (List.mem_map.2 ⟨_,h2,rfl⟩) rfl⟩
 have e1:fJ (fJ K j ⟨(K j).ro,Y⟩) i ⟨(K i).ro,X++(K i).rw⟩ i=⟨(K i).ro,X++(K i).rw⟩:=aE _ _ _
 have e2:fJ (fJ K j ⟨(K j).ro,Y⟩) i ⟨(K i).ro,X++(K i).rw⟩ j=⟨(K j).ro,Y⟩:=by rw[aH _ _ (Ne.symm Jb),aE]
 have e3:∀k,k≠i→k≠j→fJ (fJ K j ⟨(K j).ro,Y⟩) i ⟨(K i).ro,X++(K i).rw⟩ k=K k:=fun k h1 h2=>by rw[aH _ _ h1,aH _ _ h2]
 have QK:∀b,(⟨(K i).ro,X++(K i).rw⟩:St).iW b→(∃o,(b,o)∈X)∨(K i).iW b:=fun b ⟨o,ho⟩=>(List.mem_append.1 ho).elim (fun h'=> .inl ⟨o,h'⟩) fun h'=> .inr ⟨o,h'⟩
 have KX:∀b,(⟨(K j).ro,Y⟩:St).iW b→(K j).iW b∧¬ ∃o,(b,o)∈X:=fun b ⟨o,ho⟩=>⟨⟨o,ah2 _ ho⟩,fun⟨o',h'⟩=>mb.2.2 b o' o h' ho⟩
 have jX:∀b,(∃o,(b,o)∈X)→(K j).iW b:=fun b ⟨o,ho⟩=>⟨o,iX _ ho⟩
 have NB:∀k b,k≠i→(fJ (fJ K j ⟨(K j).ro,Y⟩) i ⟨(K i).ro,X++(K i).rw⟩ k).knows b→(K k).knows b∧(k=j→¬ ∃o,(b,o)∈X):=fun k b jJ hb=>by
  by_cases e:k=j
  ·subst e
   rw[e2] at hb
   rcases hb with hb|hb
   ·refine⟨.inl hb,fun _ ⟨o,ho⟩=>hb ((h.jL k).apart b o (iX _ ho))⟩
   exact⟨.inr (KX b hb).1,fun _=>(KX b hb).2⟩
  rw[e3 k jJ e] at hb;exact⟨hb,fun e'=>absurd e' e⟩
 refine⟨h.EE,fun k b ho=>?_,fun k=>?_,fun k l b R7 ho hb=>?_,fun k b ho p x hx hb=>?_,fun k b ho p x hx hb hw=>?_,h.old,h.clean,fun p x b hx jJ hb=>⟨(h.sync p x b hx jJ hb).1,fun k bY=>?_⟩⟩
 case refine_6=>
  have hs:=(h.sync p x b hx jJ hb).2
  by_cases a:k=i
  ·subst a;rw[e1] at bY
   rcases bY with h'|h'
   ·exact hs k (.inl h')
   exact(QK b h').elim (fun h'=>hs j (.inr (jX b h'))) fun h'=>hs k (.inr h')
  exact hs k (NB k b a bY).1
 ·by_cases a:k=i
  ·subst a;rw[e1] at ho
   exact(QK b ho).elim (fun h'=>h.lI j b (jX b h')) (h.lI k b)
  by_cases c:k=j
  ·subst c;rw[e2] at ho;exact h.lI k b (KX b ho).1
  rw[e3 k a c] at ho;exact h.lI k b ho
 ·by_cases a:k=i
  ·subst a;rw[e1]
   refine⟨(h.jL k).ro,fun b o hb=>(List.mem_append.1 hb).elim (fun h'=>(h.jL j).rw b o (iX _ h')) ((h.jL k).rw b o),?_,fun b o hb=>?_⟩
   ·rw[List.map_append,List.nodup_append]
    refine⟨mb.1,(h.jL k).nodup,?_⟩
    rintro b h1 _ h2 rfl
    obtain⟨⟨b1,o1⟩,m1,rfl⟩:=List.mem_map.1 h1
    obtain⟨⟨b2,o2⟩,m2,he⟩:=List.mem_map.1 h2
    simp only at he;subst he
    exact h.sep j k b2 (Ne.symm Jb) (jX b2 ⟨o1,m1⟩) (.inr ⟨o2,m2⟩)
   rcases List.mem_append.1 hb with h'|h'
   ·cases hr:(K k).ro b with
    |none=>rfl
    |some y=>exact absurd (.inl (by rw[hr];simp)) (h.sep j k b (Ne.symm Jb) (jX b ⟨o,h'⟩))
   exact(h.jL k).apart b o h'
  by_cases c:k=j
  ·subst c;rw[e2]
   exact⟨(h.jL k).ro,fun b o hb=>(h.jL k).rw b o (ah2 _ hb),mb.2.1,fun b o hb=>(h.jL k).apart b o (ah2 _ hb)⟩
  rw[e3 k a c];exact h.jL k
 ·by_cases a:k=i
  ·subst a
   rw[e1] at ho
   have jJ:=NB l b (Ne.symm R7) hb
   rcases QK b ho with h'|h'
   ·by_cases c:l=j
    ·exact jJ.2 c h'
    exact h.sep j l b (Ne.symm c) (jX b h') jJ.1
   exact h.sep k l b R7 h' jJ.1
  have Ft:(K k).iW b∧(k=j→¬ ∃o,(b,o)∈X):=by
   by_cases c:k=j
   ·subst c;rw[e2] at ho;exact⟨(KX b ho).1,fun _=>(KX b ho).2⟩
   rw[e3 k a c] at ho;exact⟨ho,fun e=>absurd e c⟩
  by_cases c:l=i
  ·subst c
   rw[e1] at hb
   rcases hb with hb|hb
   ·exact h.sep k l b R7 Ft.1 (.inl hb)
   rcases QK b hb with h'|h'
   ·by_cases d:k=j
    ·exact Ft.2 d h'
    exact h.sep k j b d Ft.1 (.inr (jX b h'))
   exact h.sep k l b R7 Ft.1 (.inr h')
  exact h.sep k l b R7 Ft.1 (NB l b c hb).1
 ·by_cases a:k=i
  ·subst a;rw[e1] at ho
   exact(QK b ho).elim (fun⟨o,h'⟩=>hk b o h' p x hx hb) fun h'=>h.perm k b h' p x hx hb
  by_cases c:k=j
  ·subst c;rw[e2] at ho;exact h.perm k b (KX b ho).1 p x hx hb
  rw[e3 k a c] at ho;exact h.perm k b ho p x hx hb
 by_cases a:k=i
 ·subst a;rw[e1] at ho;exact h.ri k b ho p x hx hb hw
 by_cases c:k=j
 ·subst c;rw[e2] at ho;exact h.ri k b ho p x hx hb hw
 rw[e3 k a c] at ho;exact h.ri k b ho p x hx hb hw
theorem Fit.share(h:Fit L K w t)(Ak:i≠n)(s:St)(hrw:s.rw=[])(A7:∀b o,s.ro b=some o→(K i).ro b=some o)
 (hk:∀b,s.ro b≠none→∀p x,touchAt t p=some x→blk x.loc=some b→x.write=true→Knows t n p):Fit L (fJ K n s) w t:=by
 have no:∀b,¬s.iW b:=fun b ⟨o,ho⟩=>by rw[hrw] at ho;cases ho
 have kn:∀b,s.ro b≠none→(K i).ro b≠none:=fun b hb=>by
  cases hr:s.ro b with
  |none=>exact absurd hr hb
  |some o=>rw[A7 b o hr];simp
 refine⟨h.EE,fun k b ho=>?_,fun k=>?_,fun k l b R7 ho hb=>?_,fun k b ho p x hx hb=>?_,fun k b ho p x hx hb hw=>?_,h.old,h.clean,fun p x b hx jJ hb=>⟨(h.sync p x b hx jJ hb).1,fun k bY=>?_⟩⟩
 case refine_6=>
  have hs:=(h.sync p x b hx jJ hb).2
  by_cases a:k=n
  ·subst a;rw[aE] at bY;exact hs i (.inl (kn b (bY.resolve_right (no b))))
  rw[aH _ _ a] at bY;exact hs k bY
 ·by_cases a:k=n
  ·subst a;rw[aE] at ho;exact absurd ho (no b)
  rw[aH _ _ a] at ho;exact h.lI k b ho
 ·by_cases a:k=n
  ·subst a;rw[aE];exact⟨fun b o hb=>(h.jL i).ro b o (A7 b o hb),fun b o hb=>absurd ⟨o,hb⟩ (no b),by rw[hrw];simp,fun b o hb=>absurd ⟨o,hb⟩ (no b)⟩
  rw[aH _ _ a];exact h.jL k
 ·by_cases a:k=n
  ·subst a;rw[aE] at ho;exact no b ho
  rw[aH _ _ a] at ho
  by_cases c:l=n
  ·subst c;rw[aE] at hb
   have hr:=kn b (hb.resolve_right (no b))
   by_cases d:k=i
   ·subst d
    obtain⟨o,ho⟩:=ho
    exact hr ((h.jL k).apart b o ho)
   exact h.sep k i b d ho (.inl hr)
  rw[aH _ _ c] at hb;exact h.sep k l b R7 ho hb
 ·by_cases a:k=n
  ·subst a;rw[aE] at ho;exact absurd ho (no b)
  rw[aH _ _ a] at ho;exact h.perm k b ho p x hx hb
 by_cases a:k=n
 ·subst a;rw[aE] at ho;exact hk b ho p x hx hb hw
 rw[aH _ _ a] at ho;exact h.ri k b ho p x hx hb hw
theorem Fit.alone(h:Fit L K w t)(hK:∀j,j≠i→∀b,¬(K j).knows b)(s:St)(ha:aR s w)
 (Ak:∀b,s.knows b→L b≠none∨(K i).knows b)(jJ:∀b,s.knows b→∀p x,touchAt t p=some x→x.kind= .plain→blk x.loc=some b→Knows t i p):
 Fit (fun _=>none) (fJ K i s) w t:=by
 have aD0:∀b,s.knows b→∀p x,touchAt t p=some x→blk x.loc=some b→x.kind= .plain:=fun b hb p x hx hxb=>by
  by_cases e:x.kind= .plain
  ·exact e
  have hs:=h.sync p x b hx e hxb
  exact((Ak b hb).elim (fun h'=>h' hs.1) fun h'=>hs.2 i h').elim
 have hk:∀b,s.knows b→∀p x,touchAt t p=some x→blk x.loc=some b→Knows t i p:=fun b hb p x hx hxb=>jJ b hb p x hx (aD0 b hb p x hx hxb) hxb
 refine⟨fun b o hl=>((by cases hl)),fun _ _ _=>rfl,fun k=>?_,fun k l b R7 ho hb=>?_,fun k b ho p x hx hb=>?_,fun k b ho p x hx hb hw=>?_,h.old,h.clean,fun p x b hx hkd hb=>⟨rfl,fun k bY=>?_⟩⟩
 case refine_5=>
  by_cases a:k=i
  ·subst a;rw[aE] at bY;exact hkd (aD0 b bY p x hx hb)
  rw[aH _ _ a] at bY;exact hK k a b bY
 ·by_cases a:k=i
  ·subst a;rw[aE];exact ha
  rw[aH _ _ a];exact h.jL k
 ·by_cases a:k=i
  ·rw[aH _ _ (fun e=>R7 (a.trans e.symm))] at hb;exact hK l (fun e=>R7 (a.trans e.symm)) b hb
  rw[aH _ _ a] at ho;exact hK k a b (.inr ho)
 ·by_cases a:k=i
  ·subst a;rw[aE] at ho;exact hk b (.inr ho) p x hx hb
  rw[aH _ _ a] at ho;exact absurd (.inr ho) (hK k a b)
 by_cases a:k=i
 ·subst a;rw[aE] at ho;exact hk b (.inl ho) p x hx hb
 rw[aH _ _ a] at ho;exact absurd (.inl ho) (hK k a b)
end
inductive Tree:Type
 |leaf
 |node (f:World→Tree)
inductive Tree.Lt:Tree→Tree→Prop
 |mk (f:World→Tree) (w:World):Tree.Lt (f w) (.node f)
theorem Tree.wf:WellFounded Tree.Lt:=by
 refine⟨fun t=>?_⟩
 induction t with
 |leaf=>exact⟨_,fun y h=>(by cases h)⟩
 |node f ih=>exact⟨_,fun y h=>by cases h;exact ih _⟩
def oN(P:Program)(main:Bool)(Stop:Goroutine→St→Prop):Tree→Goroutine→St→Prop
 | .leaf,g,s=>Stop g s
 | .node f,g,s=>g.status= .running∧∀w,aR s w→∃g' w' es s',stepG P main g w= .go g' w' es∧g'.status= .running∧Trans s w s' w' es∧oN P main Stop (f w) g' s'
theorem St.le.trans{a b c:St}(h:a.le b)(k:b.le c):a.le c:=by
 obtain⟨R,h1,h2⟩:=h
 obtain⟨R',k1,k2⟩:=k
 refine⟨R++R',?_,fun x o hx=>?_⟩
 ·rw[←List.append_assoc];exact k1.trans (h1.append_right R')
 rcases h2 x o hx with h3|h3
 ·exact(k2 x o h3).imp id fun h'=>by simp[h']
 exact .inr (by simp[h3])
theorem Trans.le{w:World}{es:Array Event}(h:Trans s w s' w' es)(hl:iq.le s'):Trans s w iq w' es:=
 ⟨h.jL.of_le hl,h.size,h.frame,fun b hb=>h.own b (hl.iW hb),fun b hb=>(hl.ro hb).elim (h.MS b) fun ho=>(h.own b ho).imp id .inr,h.os,h.output,h.tape,h.vx,h.low⟩
def eJ(P:Program)(main:Bool)(Stop:Goroutine→St→Prop)(g:Goroutine)(s:St):Prop:=∃tr iq,iq.le s∧oN P main Stop tr g iq
theorem dQ(P:Program)(main:Bool)(Stop:Goroutine→St→Prop):Closed P main (eJ P main Stop) where
 step:=fun g s hs h=>by
  have key:∀w,∃tr,aR s w→∃g' w' es s',stepG P main g w= .go g' w' es∧g'.status= .running∧Trans s w s' w' es∧oN P main Stop tr g' s':=fun w=>by
   by_cases ha:aR s w
   ·obtain⟨g',w',es,s',h1,h2,h3,tr,iq,hl,h4⟩:=h w ha
    exact⟨tr,fun _=>⟨g',w',es,iq,h1,h2,h3.le hl,h4⟩⟩
   exact⟨.leaf,fun uV=>absurd uV ha⟩
  refine⟨.node fun w=>(key w).choose,s,St.le_refl s,hs,fun w ha=>(key w).choose_spec ha⟩
 mono:=fun g s s' hl ⟨tr,iq,h,ht⟩=>⟨tr,iq,h.trans hl,ht⟩
theorem eJ.stop{Stop:Goroutine→St→Prop}(h:Stop g s):eJ P main Stop g s:=⟨.leaf,s,St.le_refl s,h⟩
section
variable {α:Type}
inductive One(r:α→α→Prop):List α→List α→Prop
 |mk (a:List α) (x y:α) (b:List α):r y x→One r (a++y::b) (a++x::b)
theorem One.cons_inv{r:α→α→Prop}{x:α}{l m:List α}(h:One r m (x::l)):(∃y,m=y::l∧r y x)∨∃l',m=x::l'∧One r l' l:=by
 generalize hk:x::l=k at h
 obtain⟨a,u,v,b,hr⟩:=h
 cases a with
 |nil=>simp only[List.nil_append,List.cons.injEq] at hk;obtain⟨rfl,rfl⟩:=hk;exact .inl ⟨v,rfl,hr⟩
 |cons c a=>simp only[List.cons_append,List.cons.injEq] at hk;obtain⟨rfl,rfl⟩:=hk;exact .inr ⟨_,rfl,.mk a u v b hr⟩
theorem One.acc{r:α→α→Prop}:∀l:List α,(∀x∈l,Acc r x)→Acc (One r) l
 | [],_=>⟨_,fun m h=>by
  generalize hk:([]:List α)=k at h
  obtain⟨a,u,v,b,hr⟩:=h
  cases a<;>simp at hk⟩
 |x::l,h=>by
  have hl:=One.acc l fun y hy=>h y (List.mem_cons_of_mem _ hy)
  have hx:=h x (List.mem_cons_self ..)
  clear h
  induction hx generalizing l with
  |intro x hx ihx=>
   clear hx
   induction hl with
   |intro l hl ihl=>
    refine⟨_,fun m hm=>?_⟩
    rcases hm.cons_inv with ⟨y,rfl,hr⟩| ⟨l',rfl,hr⟩
    ·exact ihx y hr l ⟨_,hl⟩
    exact ihl l' hr
theorem One.wf{r:α→α→Prop}(h:WellFounded r):WellFounded (One r):=⟨fun l=>One.acc l fun x _=>h.apply x⟩
theorem One.set{r:α→α→Prop}{l:List α}{x y:α}(h:l[i]?=some x) (hr:r y x):One r (l.set i y) l:=by
 obtain⟨hi,rfl⟩:=List.getElem?_eq_some_iff.1 h
 have e1:l=l.take i++l[i]::l.drop (i+1):=by
  rw[List.getElem_cons_drop,List.take_append_drop]
 have e2:l.set i y=l.take i++y::l.drop (i+1):=by
  rw[List.set_eq_take_append_cons_drop,if_pos hi]
 rw[e2]
 conv=>rhs;rw[e1]
 exact .mk _ _ _ _ hr
end
open Go.ConcR (KK wgBlock WgAt stA smA rd wr)
abbrev said(m:Mark):Event:=Go.ConcR.mk m
def Pure(P:Program)(main:Bool)(Live:World→Prop)(Stop:Goroutine→Prop):Nat→Goroutine→Prop
 |0,g=>Stop g
 |n+1,g=>g.status= .running∧∃g',(∀w,Live w→stepG P main g w= .go g' w #[])∧Pure P main Live Stop n g'
structure dO(ι:Type) where
 P:Program
 ty:TypeId
 Wg:Nat
 Ch:Nat
 max:Nat
 z:Value
 os:Os
 out:Array (Nat×ByteArray)
 Xg:ι→Value→List (Nat×Obj)→Prop
section
variable {ι:Type} (E:dO ι)
def dO.live(w:World):Prop:=∃st sm,WgAt E.ty E.Wg w st sm
def dO.pure(main:Bool)(Stop:Goroutine→Prop)(g:Goroutine):Prop:=∃n,Pure E.P main E.live Stop n g
def dO.D4(g:Goroutine):Prop:=g.status= .running∧mayWake E.P g=true∧∃g',(∀w,WgAt E.ty E.Wg w 0 0→stepG E.P false g w= .go g' (w.setCell (smA E.Wg) (.int .u32 1)) (semEvents (smA E.Wg)))∧∃q,QuitsD E.P q 1 g'
def dO.D3(g:Goroutine):Prop:=g.status= .running∧∃g',(∀w,WgAt E.ty E.Wg w 1 0→stepG E.P false g w= .go g' (w.setCell (stA E.Wg) (.int .u64 0)) #[wr (stA E.Wg)])∧E.pure false E.D4 g'
def dO.D2(g:Goroutine):Prop:=g.status= .running∧∃g',(∀w,WgAt E.ty E.Wg w 1 0→stepG E.P false g w= .go g' w #[rd (stA E.Wg)])∧E.pure false E.D3 g'
def dO.D1(g:Goroutine):Prop:=g.status= .running∧∀v wt:Nat,wt≤1→v <E.max→
 ∃g',(∀w,WgAt E.ty E.Wg w (((v+1:Nat):Int)*KK+(wt:Int)) 0→stepG E.P false g w= .go g' (w.setCell (stA E.Wg) (.int .u64 ((v:Int)*KK+(wt:Int)))) #[rd (stA E.Wg),wr (stA E.Wg)])∧
  ((v=0∧wt=1)→E.pure false E.D2 g')∧(¬(v=0∧wt=1)→∃q,QuitsD E.P q 1 g')
def dO.K1(g:Goroutine):Prop:=g.status= .running∧∃g',(∀w,stepG E.P false g w= .go g' w #[said .disable])∧E.pure false E.D1 g'
def dO.R0(g:Goroutine):Prop:=g.status= .running∧∃g',(∀w,stepG E.P false g w= .go g' w #[said (.releaseMerge (stA E.Wg))])∧E.pure false E.K1 g'
def dO.IZ(g:Goroutine)(_:St):Prop:=E.pure false E.R0 g
def dO.J7(o:ι)(g:Goroutine)(s:St):Prop:=g.status= .running∧∃qy v zs X Y,s.rw.Perm (X++Y)∧E.Xg o v X∧
 (∀w,aR s w→stepG E.P false g w= .comm qy #[scase E.Ch v zs] true .send w #[])∧∃tr iq,iq.le ⟨s.ro,Y⟩∧oN E.P false E.IZ tr (Conc.served qy undef) iq
def dO.J6(g:Goroutine)(_:St):Prop:=g.status= .running∧mayWake E.P g=true∧
 ∃g',(∀w s r tm,w.heap[E.Ch]?=some (.chan 0 #[] false s r tm)→stepG E.P false g w= .go g' {w with heap:=w.heap.setIfInBounds E.Ch (.chan 0 #[] true s r tm)} #[⟨.obj E.Ch,false,true⟩,⟨.obj E.Ch,true,true⟩])∧∃q,QuitsD E.P q 0 g'
def dO.Aq(s:St)(g:Goroutine):Prop:=g.status= .running∧∃g',(∀w,stepG E.P false g w= .go g' w #[said (.acquire (stA E.Wg))])∧∃tr iq,iq.le s∧oN E.P false E.J6 tr g' iq
def dO.Ke(s:St)(g:Goroutine):Prop:=g.status= .running∧∃g',(∀w,stepG E.P false g w= .go g' w #[said .enable])∧E.pure false (E.Aq s) g'
def dO.W4(s:St)(g:Goroutine):Prop:=g.status= .running∧∃g',(∀w,WgAt E.ty E.Wg w 0 0→stepG E.P false g w= .go g' w #[rd (stA E.Wg)])∧E.pure false (E.Ke s) g'
def dO.W3(s:St)(g:Goroutine):Prop:=g.status= .running∧g.offers=none∧(∀w st,WgAt E.ty E.Wg w st 0→stepG E.P false g w= .go {g with status:= .blocked} w #[])∧
 ∃g',(∀w,WgAt E.ty E.Wg w 0 1→stepG E.P false g w= .go g' (w.setCell (smA E.Wg) (.int .u32 0)) (semEvents (smA E.Wg)))∧E.pure false (E.W4 s) g'
def dO.Wr(s:St)(g:Goroutine):Prop:=g.status= .running∧∃g',(∀w,stepG E.P false g w= .go g' w #[said (.write (smA E.Wg))])∧E.pure false (E.W3 s) g'
def dO.W2(ak5:Goroutine→Prop)(s:St)(vs:Nat)(g:Goroutine):Prop:=g.status= .running∧
 (∃g',(∀w,WgAt E.ty E.Wg w ((vs:Int)*KK) 0→stepG E.P false g w= .go g' (w.setCell (stA E.Wg) (.int .u64 ((vs:Int)*KK+1))) #[rd (stA E.Wg),wr (stA E.Wg)])∧E.pure false (E.Wr s) g')∧
 ∀v:Nat,v <vs→∃g',(∀w,WgAt E.ty E.Wg w ((v:Int)*KK) 0→stepG E.P false g w= .go g' w #[rd (stA E.Wg)])∧ak5 g'
def dO.W1(E:dO ι)(s:St):Nat→Goroutine→Prop
 |0,g=>g.status= .running∧∃g',(∀w,WgAt E.ty E.Wg w 0 0→stepG E.P false g w= .go g' w #[rd (stA E.Wg)])∧E.pure false (E.Ke s) g'
 |b+1,g=>g.status= .running∧(∃g',(∀w,WgAt E.ty E.Wg w 0 0→stepG E.P false g w= .go g' w #[rd (stA E.Wg)])∧E.pure false (E.Ke s) g')∧
  ∀v,1≤v→v≤b+1→∃g',(∀w,WgAt E.ty E.Wg w ((v:Int)*KK) 0→stepG E.P false g w= .go g' w #[rd (stA E.Wg)])∧E.pure false (E.W2 (E.pure false (E.W1 s b)) s v) g'
def dO.Kd(s:St)(g:Goroutine):Prop:=g.status= .running∧∃g',(∀w,stepG E.P false g w= .go g' w #[said .disable])∧E.pure false (E.W1 s E.max) g'
def dO.closes(s:St)(g:Goroutine):Prop:=E.pure false (E.Kd s) g
inductive WK where
 |r0|k1|d1|d2|d3|d4
inductive au(ι:Type) where
 |leave (q d:Nat) (cur:Bool)
 |work (o:ι) (tr:Tree)
 |gz (o:ι)
 |back (tr:Tree)
 |st (k:WK) (n:Nat)
 |closer
def WK.stop:WK→Goroutine→Prop
 | .r0=>E.R0| .k1=>E.K1| .d1=>E.D1| .d2=>E.D2| .d3=>E.D3| .d4=>E.D4
def WK.deaf:WK→Nat
 | .r0| .k1=>0
 |_=>1
def WK.said:WK→Bool
 | .r0=>false
 |_=>true
def WK.MZ:WK→Nat
 | .r0=>6| .k1=>5| .d1=>4| .d2=>3| .d3=>2| .d4=>1
inductive CK where
 |kd|w1 (b:Nat)|w2 (b vs:Nat)|wr|w3|blk|w4|ke|aq|run (tr:Tree)
def CK.deaf:CK→Nat
 | .kd| .aq| .run _=>0
 |_=>1
def eB(t:Trace)(i:Nat):Prop:=∀p,t.g? p=some i→t.counts p→∃j,t.g? j=some 0∧HappensBefore t p j
def nV(t:Trace)(i:Nat)(s:St)(g:Goroutine):au ι→Prop
 | .leave q d cur=>s=⟨fun _=>none,[]⟩∧QuitsD E.P q d g∧Deaf t i=d∧(cur=true→∃r,ConcN.RelBy (stA E.Wg) t i r)∧(cur=false→eB t i)
 | .work o tr=>Deaf t i=0∧oN E.P false (E.J7 o) tr g s
 | .gz o=>Deaf t i=0∧∃vg qy v zs X Y,g=parked qy #[scase E.Ch v zs] .send∧s.rw.Perm (X++Y)∧E.Xg o v X∧vg=qy∧∃tr iq,iq.le ⟨s.ro,Y⟩∧oN E.P false E.IZ tr (Conc.served qy undef) iq
 | .back tr=>Deaf t i=0∧oN E.P false E.IZ tr g s
 | .st k n=>s=⟨fun _=>none,[]⟩∧Deaf t i=k.deaf∧Pure E.P false E.live (k.stop E) n g∧(k.said=true→∃r,ConcN.RelBy (stA E.Wg) t i r)
 | .closer=>True
def CK.at(s:St)(g:Goroutine)(n:Nat):CK→Prop
 | .kd=>Pure E.P false E.live (E.Kd s) n g
 | .w1 b=>Pure E.P false E.live (E.W1 s b) n g
 | .w2 b vs=>Pure E.P false E.live (E.W2 (E.pure false (E.W1 s b)) s vs) n g
 | .wr=>Pure E.P false E.live (E.Wr s) n g
 | .w3=>∃m,n=m+1∧Pure E.P false E.live (E.W3 s) m g
 | .blk=>n=0∧∃vg,E.W3 s vg∧g={vg with status:= .blocked}
 | .w4=>Pure E.P false E.live (E.W4 s) n g
 | .ke=>Pure E.P false E.live (E.Ke s) n g
 | .aq=>Pure E.P false E.live (E.Aq s) n g
 | .run tr=>n=0∧oN E.P false E.J6 tr g s
end
section
variable {ι:Type} {E:dO ι} {t u:Trace} {i j:Nat} {s:St} {g:Goroutine}
theorem Pure.running{Live:World→Prop}(hS:∀g,Stop g→g.status= .running):∀ {n:Nat} {g:Goroutine},Pure P main Live Stop n g→g.status= .running
 |0,_,h=>hS _ h
 |_+1,_,h=>h.1
theorem dO.pure.running(hS:∀g,Stop g→g.status= .running)(h:E.pure main Stop g):g.status= .running:=Pure.running hS h.choose_spec
theorem WK.running:∀(k:WK) (g:Goroutine),k.stop E g→g.status= .running
 | .r0,_,h=>h.1
 | .k1,_,h=>h.1
 | .d1,_,h=>h.1
 | .d2,_,h=>h.1
 | .d3,_,h=>h.1
 | .d4,_,h=>h.1
theorem oN.running{Stop:Goroutine→St→Prop}(hS:∀g s,Stop g s→g.status= .running):∀ {tr:Tree} {g:Goroutine} {s:St},oN P main Stop tr g s→g.status= .running
 | .leaf,_,_,h=>hS _ _ h
 | .node _,_,_,h=>h.1
theorem eB.other(h:eB t j)(hu:∀op∈u,op.g≠j):eB (t++u) j:=by
 intro p hp hc
 obtain⟨op,ho,hg⟩:=Option.map_eq_some_iff.1 hp
 rcases getElem?_append_cases ho with ⟨cJ,_⟩| ⟨_,hm⟩
 ·obtain⟨q,h1,h2⟩:=h p (by rw[←g?_old (u:=u) cJ];exact hp) ((counts_old cJ).1 hc)
  have hq:q <t.size:=by
   obtain⟨o,ho,_⟩:=Option.map_eq_some_iff.1 h1
   exact lt_size_of_getElem? ho
  exact⟨q,by rw[g?_old hq];exact h1,hb_app u h2⟩
 exact absurd hg (hu op hm)
theorem RelBy.other{a:Addr}{r:Nat}(h:ConcN.RelBy a t j r)(hu:∀op∈u,op.g≠j):ConcN.RelBy a (t++u) j r:=by
 refine h.app fun p hp hg=>?_
 obtain⟨op,ho,hgo⟩:=Option.map_eq_some_iff.1 hg
 rcases getElem?_append_cases ho with ⟨cJ,_⟩| ⟨_,hm⟩
 ·omega
 exact absurd hgo (hu op hm)
theorem gM(t:Trace){g:Nat}(u:Trace)(hu:∀op∈u,op.g≠g):Deaf (t++u) g=Deaf t g:=by
 obtain⟨l⟩:=u
 rw[Deaf_append]
 induction l generalizing t with
 |nil=>rfl
 |cons y l ih=>
  have hy:y.g≠g:=hu y (by simp)
  have e1:deafStep g (Deaf t g) y=Deaf t g:=by
   unfold deafStep
   split<;>simp[hy]
  rw[List.foldl_cons,e1]
  exact ih t (fun op az=>hu op (by simp at az ⊢;exact .inr az))
theorem nV.other{r:au ι}(h:nV E t j s g r)(hu:∀op∈u,op.g≠j):nV E (t++u) j s g r:=by
 have hd:=gM t u hu
 cases r with
 |leave q d cur=>exact⟨h.1,h.2.1,by rw[hd];exact h.2.2.1,fun hc=>let ⟨r,hr⟩:=h.2.2.2.1 hc;⟨r,RelBy.other hr hu⟩,fun hc=>(h.2.2.2.2 hc).other hu⟩
 |work o tr=>exact⟨by rw[hd];exact h.1,h.2⟩
 |gz o=>exact⟨by rw[hd];exact h.1,h.2⟩
 |back tr=>exact⟨by rw[hd];exact h.1,h.2⟩
 |st k n=>exact⟨h.1,by rw[hd];exact h.2.1,h.2.2.1,fun hc=>let ⟨r,hr⟩:=h.2.2.2 hc;⟨r,RelBy.other hr hu⟩⟩
 |closer=>trivial
theorem nV.running{r:au ι}(h:nV E t j s g r)(h1:∀o,r≠ .gz o)(h2:r≠ .closer):g.status= .running∨g.status= .finished:=by
 cases r with
 |leave q d cur=>exact h.2.1.status
 |work o tr=>exact .inl (oN.running (fun _ _ x=>x.1) h.2)
 |gz o=>exact absurd rfl (h1 o)
 |back tr=>exact .inl (oN.running (fun _ _ x=>dO.pure.running (fun _ y=>y.1) x) h.2)
 |st k n=>exact .inl (Pure.running (WK.running k) h.2.2.1)
 |closer=>exact absurd rfl h2
theorem nV.woken{r:au ι}(h:nV E t j s g r)(h2:r≠ .closer){a a':Goroutine}(ho:(∃o,r= .gz o)→∃sn rc tm,w'.heap[E.Ch]?=some (.chan 0 #[] false sn rc tm)):
 woken E.P a a' w' g=g:=by
 by_cases hb:∃o,r= .gz o
 ·obtain⟨sn,rc,tm,hc⟩:=ho hb
  obtain⟨o,rfl⟩:=hb
  obtain⟨_,vg,qy,v,zs,X,Y,rfl,_⟩:=h
  exact woken_send_open a a' hc
 have:=h.running (fun o e=>hb ⟨o,e⟩) h2
 unfold Go.Conc.woken
 split
 ·exact again_running _ this
 rfl
def Xh(w w':World):Prop:=w'.os=w.os∧w'.output=w.output
structure Base(E:dO ι)(L:Nat→Option Obj)(K:Nat→St)(gs:Array Goroutine)(w:World)(t:Trace)(D:List (au ι)):Prop where
 fit:Fit L K w t
 size:gs.size=D.length+1
 ok:∀i r,D[i]?=some r→∃g,gs[i+1]?=some g∧nV E t (i+1) (K (i+1)) g r
 far:∀i,gs.size≤i→∀b,¬(K i).knows b
 ops:∀op∈t,op.g <gs.size
 same:w.os=E.os∧w.output=E.out
theorem fY{k:Nat}{x:Goroutine}(hki:k≠i)(hk:gs[k]?=some x):((gs.map (woken P g g' w')).setIfInBounds i g')[k]?=some (woken P g g' w' x):=by
 rw[Array.getElem?_setIfInBounds_ne (Ne.symm hki)];simp[hk]
theorem Base.step{L:Nat→Option Obj}{K:Nat→St}{w:World}{D:List (au ι)}(h:Base E L K gs w t D){r':au ι}(hi:i <D.length) 
 (hu:∀op∈u,op.g=i+1)(RF:Xh w w')(mX:Fit L (fJ K (i+1) s') w' (t++u))(hr:nV E (t++u) (i+1) s' g' r')
 (ho:∀(k:Nat) (o:ι),k≠i→D[k]?=some (.gz o)→∃sn rc tm,w'.heap[E.Ch]?=some (.chan 0 #[] false sn rc tm)):
 Base E L (fJ K (i+1) s') ((gs.map (woken E.P g g' w')).setIfInBounds (i+1) g') w' (t++u) (D.set i r'):=by
 refine⟨mX,by simp[h.size],fun k r hk=>?_,fun k hk=>?_,fun op az=>?_,⟨RF.1.trans h.same.1,RF.2.trans h.same.2⟩⟩
 ·by_cases e:k=i
  ·subst e
   have lE:r=r':=by simpa [List.getElem?_set,hi] using hk.symm
   subst lE
   exact⟨g',by simp[h.size,hi],by rw[aE];exact hr⟩
  rw[List.getElem?_set_ne (Ne.symm e)] at hk
  obtain⟨x,hx,fe⟩:=h.ok k r hk
  have dI:k+1≠i+1:=by omega
  rw[aH K s' dI]
  have abV:=fe.other (u:=u) fun op az=>by rw[hu op az];omega
  by_cases hc:r= .closer
  ·subst hc;exact⟨_,fY dI hx,trivial⟩
  refine⟨x,?_,abV⟩
  rw[fY dI hx,fe.woken hc fun⟨o,e'⟩=>ho k o e (e'▸hk)]
 ·rw[Array.size_setIfInBounds,Array.size_map] at hk
  rw[aH K s' (by have:=h.size;omega)]
  exact h.far k hk
 rw[Array.size_setIfInBounds,Array.size_map]
 rcases Array.mem_append.1 az with h'|h'
 ·exact h.ops op h'
 rw[hu op h',h.size];omega
end
def au.cnt:au ι→Nat
 | .work .. | .gz _| .back _| .st .r0 _| .st .k1 _| .st .d1 _=>1
 |_=>0
def au.c4:au ι→Nat
 | .st .d2 _=>1
 |_=>0
def au.c3:au ι→Nat
 | .st .d3 _=>1
 |_=>0
def au.c2:au ι→Nat
 | .st .d4 _=>1
 |_=>0
def au.Yd:au ι→Option ι
 | .work o _| .gz o=>some o
 |_=>none
def au.early:au ι→Prop
 | .leave _ _ c=>c=false
 | .work .. | .gz _=>True
 |_=>False
def au.cur:au ι→Bool
 | .leave _ _ c=>c
 |_=>false
def au.left:au ι→Bool
 | .leave .. =>true
 |_=>false
def fo(f:au ι→Nat)(D:List (au ι)):Nat:=(D.map f).sum
theorem jH(f:au ι→Nat){x y:au ι}:∀ {D:List (au ι)} {i:Nat},D[i]?=some x→fo f (D.set i y)+f x=fo f D+f y
 | [],i,h=>by simp at h
 |a::D,0,h=>by simp only[List.getElem?_cons_zero,Option.some.injEq] at h;subst h;simp[fo];omega
 |a::D,i+1,h=>by
  have:=jH f (y:=y) (D:=D) (i:=i) (by simpa using h)
  simp only[fo,List.set_cons_succ,List.map_cons,List.sum_cons] at this ⊢;omega
def CK.early:CK→Prop
 | .kd| .w1 _| .w2 .. | .wr=>True
 |_=>False
def CK.waits:CK→Prop
 | .wr| .w3| .blk=>True
 |_=>False
def CK.over:CK→Prop
 | .w4| .ke| .aq| .run _=>True
 |_=>False
inductive Md(mx:Nat):(n n4 n3 n2:Nat)→Option CK→Int→Int→Prop
 |start {n:Nat}:Md mx n 0 0 0 none ((n:Int)*KK) 0
 |kd {n:Nat}:Md mx n 0 0 0 (some .kd) ((n:Int)*KK) 0
 |w1 {n b:Nat}:n≤b→Md mx n 0 0 0 (some (.w1 b)) ((n:Int)*KK) 0
 |w2 {n b v:Nat}:n≤v→1≤v→v≤b+1→Md mx n 0 0 0 (some (.w2 b v)) ((n:Int)*KK) 0
 |reg {n:Nat} {c:CK}:c.waits→1≤n→Md mx n 0 0 0 (some c) ((n:Int)*KK+1) 0
 |l4 {c:CK}:c.waits→Md mx 0 1 0 0 (some c) 1 0
 |l3 {c:CK}:c.waits→Md mx 0 0 1 0 (some c) 1 0
 |l2 {c:CK}:c.waits→Md mx 0 0 0 1 (some c) 0 0
 |sema {c:CK}:c.waits→c≠ .blk→Md mx 0 0 0 0 (some c) 0 1
 |over {c:CK}:c.over→Md mx 0 0 0 0 (some c) 0 0
section
variable {ι:Type} (E:dO ι)
def AcqAll(t:Trace)(D:List (au ι))(ic:Nat):Prop:=
 ∃q,t.act? q=some (.mark (.acquire (stA E.Wg)))∧t.g? q=some (ic+1)∧t.heard q∧∀(i:Nat) (r:au ι),D[i]?=some r→r.cur=true→∃p,ConcN.RelBy (stA E.Wg) t (i+1) p∧p <q
def dO.At(x:Touch):Prop:=blk x.loc=some E.Wg∨blk x.loc=some E.Ch
abbrev Ar:=Option (Nat×CK×Nat)
def alf(K:Nat→St)(gs:Array Goroutine)(t:Trace)(D:List (au ι)):Ar→Prop
 |none=>∀r∈D,r.early
 |some (ic,c,n)=>D[ic]?=some .closer∧(∀k,D[k]?=some .closer→k=ic)∧Deaf t (ic+1)=c.deaf∧(∃gc,gs[ic+1]?=some gc∧c.at E (K (ic+1)) gc n)∧((∃tr,c= .run tr)→AcqAll E t D ic)
def aVO(t:Trace):Ar→Prop
 |none=>∀p x,touchAt t p=some x→blk x.loc=some E.Wg→x.kind= .said→Knows t 0 p
 |some (ic,c,_)=>c.early→∀p x,touchAt t p=some x→blk x.loc=some E.Wg→x.kind= .said→Knows t (ic+1) p
structure Sy(L:Nat→Option Obj)(K:Nat→St)(gs:Array Goroutine)(w:World)(t:Trace)(D:List (au ι))(pend:Nat)(cl:Ar):Prop where
 kW:∀i,¬(K i).knows E.Wg
 kC:∀i,¬(K i).knows E.Ch
 lW:L E.Wg=none
 lC:L E.Ch=none
 ne:E.Wg≠E.Ch
 norel:∀a,NoRelease a t
 plain:∀i,(i=0∨∃k r,i=k+1∧D[k]?=some r∧r.left=false)→∀p x,touchAt t p=some x→E.At x→x.kind= .plain→Knows t i p
 said:aVO E t cl
 cells:∃st sm,WgAt E.ty E.Wg w st sm∧Md E.max (fo au.cnt D+pend) (fo au.c4 D) (fo au.c3 D) (fo au.c2 D) (cl.map (·.2.1)) st sm
 Ct:fo au.cnt D+pend≤E.max
 chan:∃sn rc tm,w.heap[E.Ch]?=some (.chan 0 #[] false sn rc tm)
 bal:∀sn rc tm,w.heap[E.Ch]?=some (.chan 0 #[] false sn rc tm)→sn=rc
 E1:alf E K gs t D cl
end
inductive Ab:Ar→Ar→Prop
 |same (c:Ar):Ab c c
 |up (ic:Nat):Ab (some (ic,.blk,0)) (some (ic,.w3,1))
section
variable {ι:Type} {E:dO ι}
theorem CK.uD:∀ {c:CK},c.at E s g n→c≠ .blk→g.status= .running
 | .kd,h,_=>Pure.running (fun _ x=>x.1) h
 | .w1 b,h,_=>Pure.running (fun _ x=>by cases b<;>exact x.1) h
 | .w2 _ _,h,_=>Pure.running (fun _ x=>x.1) h
 | .wr,h,_=>Pure.running (fun _ x=>x.1) h
 | .w3,⟨_,_,h⟩,_=>Pure.running (fun _ x=>x.1) h
 | .blk,_,h=>absurd rfl h
 | .w4,h,_=>Pure.running (fun _ x=>x.1) h
 | .ke,h,_=>Pure.running (fun _ x=>x.1) h
 | .aq,h,_=>Pure.running (fun _ x=>x.1) h
 | .run _,⟨_,h⟩,_=>oN.running (fun _ _ x=>x.1) h
theorem CK.tries{c:CK}{gc:Goroutine}(h:c.at E s gc n)(a a':Goroutine)(w':World):
 ∃c' n',Ab (some (ic,c,n)) (some (ic,c',n'))∧c'.at E s (woken E.P a a' w' gc) n'∧(mayWake E.P a=true→(a'.status= .running∨a'.status= .finished)→c'≠ .blk)∧c'.deaf=c.deaf:=by
 by_cases hb:c= .blk
 ·subst hb
  obtain⟨rfl,vg,hg,rfl⟩:=h
  by_cases hw:(mayWake E.P a&&a'.status != .blocked&&a'.status != .waiting)=true
  ·refine⟨.w3,1,.up ic,⟨0,rfl,?_⟩,fun _ _=>by simp,rfl⟩
   have:woken E.P a a' w' {vg with status:= .blocked}=vg:=by
    have h1:=hg.1;have h2:=hg.2.1
    obtain⟨f,cs,stt,dy,of⟩:=vg
    simp only at h1 h2
    subst h1 h2
    simp[Go.Conc.woken,hw,Goroutine.again]
   rw[this];exact hg
  refine⟨.blk,0,.same _,⟨rfl,vg,hg,by simp[Go.Conc.woken,hw]⟩,fun h1 h2=>absurd ?_ hw,rfl⟩
  rcases h2 with h2|h2<;>simp[h1,h2]
 refine⟨c,n,.same _,?_,fun _ _=>hb,rfl⟩
 have:woken E.P a a' w' gc=gc:=by
  unfold Go.Conc.woken
  split
  ·exact again_running _ (.inl (CK.uD h hb))
  rfl
 rw[this];exact h
end
section
variable {ι:Type} {E:dO ι} {L:Nat→Option Obj} {K:Nat→St} {gs:Array Goroutine} {w w':World} {t u:Trace} {D:List (au ι)} {pend:Nat} {cl:Ar}
theorem AcqAll.step{r r':au ι}(h:AcqAll E t D ic)(hi:D[i]?=some r) (hu:∀op∈u,op.g=i+1) (HM:r'.cur=true→r.cur=true)
 (ia:r'.cur=true→∀p,ConcN.RelBy (stA E.Wg) t (i+1) p→ConcN.RelBy (stA E.Wg) (t++u) (i+1) p):AcqAll E (t++u) (D.set i r') ic:=by
 obtain⟨q,h1,h2,h3,h4⟩:=h
 have hq:=lt_of_act? h1
 refine⟨q,by rw[act?_old hq];exact h1,by rw[g?_old hq];exact h2,(heard_old hq).2 h3,fun k x hk hc=>?_⟩
 by_cases e:k=i
 ·subst e
  have cJ:=(List.getElem?_eq_some_iff.1 hi).1
  have:r'=x:=by simpa [List.getElem?_set,cJ] using hk
  subst this
  obtain⟨p,hp,Zb⟩:=h4 k r hi (HM hc)
  exact⟨p,ia hc p hp,Zb⟩
 rw[List.getElem?_set_ne (Ne.symm e)] at hk
 obtain⟨p,hp,Zb⟩:=h4 k x hk hc
 exact⟨p,RelBy.other hp (fun op az=>by rw[hu op az];omega),Zb⟩
theorem T1(k8:∀op∈u,∀x,op.act.touch?=some x→E.At x→x.kind= .atomic){x:Touch}(hx:touchAt (t++u) p=some x)(hb:E.At x)(hk:x.kind≠ .atomic):
 touchAt t p=some x:=by
 rcases bH hx with ⟨_,h'⟩| ⟨_,op,hm,_,yg⟩
 ·exact h'
 exact absurd (k8 op hm x yg hb) hk
theorem Sy.step(h:Sy E L K gs w t D pend cl)(u9:gs.size=D.length+1){r r':au ι}(hi:D[i]?=some r) (DX:r≠ .closer) (VC:r'≠ .closer)
 (hu:∀op∈u,op.g=i+1) (bZ:¬s'.knows E.Wg) (oO:¬s'.knows E.Ch) (vw:w'.heap[E.Ch]?=w.heap[E.Ch]?)
 (k8:∀op∈u,∀x,op.act.touch?=some x→E.At x→x.kind= .atomic) (iy:∀op∈u,∀a,op.act≠ .mark (.release a))
 (yh:r'.left=false→r.left=false) (ze:r.early→r'.early) (HM:(∃ic tr n,cl=some (ic,.run tr,n))→r'.cur=true→r.cur=true)
 (ia:r.cur=true→∀p,ConcN.RelBy (stA E.Wg) t (i+1) p→ConcN.RelBy (stA E.Wg) (t++u) (i+1) p)
 (R2:fo au.cnt (D.set i r')≤fo au.cnt D)
 (nJ:∀cl',Ab cl cl'→(mayWake E.P g=true→(g'.status= .running∨g'.status= .finished)→∀ic n,cl'≠some (ic,.blk,n))→
  ∃st sm,WgAt E.ty E.Wg w' st sm∧Md E.max (fo au.cnt (D.set i r')+pend) (fo au.c4 (D.set i r')) (fo au.c3 (D.set i r')) (fo au.c2 (D.set i r')) (cl'.map (·.2.1)) st sm):
 ∃cl',Ab cl cl'∧Sy E L (fJ K (i+1) s') ((gs.map (woken E.P g g' w')).setIfInBounds (i+1) g') w' (t++u) (D.set i r') pend cl':=by
 have cJ:=(List.getElem?_eq_some_iff.1 hi).1
 have oY:∀ {k x},(D.set i r')[k]?=some x→(k=i∧x=r')∨(k≠i∧D[k]?=some x):=fun {k x} hk=>by
  by_cases e:k=i
  ·subst e
   exact .inl ⟨rfl,by simpa [List.getElem?_set,cJ] using hk.symm⟩
  rw[List.getElem?_set_ne (Ne.symm e)] at hk;exact .inr ⟨e,hk⟩
 have Jc:∀b,¬s'.knows b→(∀j,¬(K j).knows b)→∀j,¬(fJ K (i+1) s' j).knows b:=fun b h1 h2 j=>by
  by_cases e:j=i+1
  ·subst e;rw[aE];exact h1
  rw[aH _ _ e];exact h2 j
 have zf:∀ic,ic≠i→Deaf (t++u) (ic+1)=Deaf t (ic+1):=fun ic dI=>gM t u fun op az=>by rw[hu op az];omega
 obtain⟨cl',EL,aRz,iY⟩:∃cl',Ab cl cl'∧(mayWake E.P g=true→(g'.status= .running∨g'.status= .finished)→∀ic n,cl'≠some (ic,.blk,n))∧
  alf E (fJ K (i+1) s') ((gs.map (woken E.P g g' w')).setIfInBounds (i+1) g') (t++u) (D.set i r') cl':=by
  have hc:=h.E1
  match cl,hc,HM with
  |none,hc,_=>
   refine⟨none,.same _,fun _ _ _ _=>by simp,fun x hx=>?_⟩
   obtain⟨k,hk⟩:=List.getElem?_of_mem hx
   rcases oY hk with ⟨_,rfl⟩| ⟨_,jJ⟩
   ·exact ze (hc r (List.mem_of_getElem? hi))
   exact hc x (List.mem_of_getElem? jJ)
  |some (ic,c,n),⟨h1,h2,h3,⟨gc,hg,pX⟩,h5⟩,HM=>
   have dI:ic≠i:=fun e=>by subst e;rw[hi] at h1;exact DX (Option.some.inj h1)
   obtain⟨c',n',hw,ax6,hm,hdc⟩:=CK.tries (ic:=ic) pX g g' w'
   refine⟨some (ic,c',n'),hw,fun a b ic' n'' e=>hm a b (by cases e;rfl),by rw[List.getElem?_set_ne (Ne.symm dI)];exact h1,fun k hk=>?_,by rw[zf ic dI,hdc];exact h3,⟨_,fY (by omega) hg,by rw[aH _ _ (by omega)];exact ax6⟩,fun⟨tr,htr⟩=>?_⟩
   ·rcases oY hk with ⟨_,e⟩| ⟨_,jJ⟩
    ·exact absurd e.symm VC
    exact h2 k jJ
   subst htr
   cases hw with
   |same=>
    have TR:=HM ⟨_,_,_,rfl⟩
    exact(h5 ⟨tr,rfl⟩).step hi hu TR fun hc p hp=>ia (TR hc) p hp
 refine⟨cl',EL,⟨Jc _ bZ h.kW,Jc _ oO h.kC,h.lW,h.lC,h.ne,fun a=>(h.norel a).app fun op az=>iy op az a,fun j hj p x hx hb hk=>?_,?_,nJ cl' EL aRz,Nat.le_trans (Nat.add_le_add_right R2 _) h.Ct,?_,fun sn rc tm hc=>h.bal sn rc tm (by rw[←vw];exact hc),iY⟩⟩
 ·refine(h.plain j ?_ p x (T1 k8 hx hb (by rw[hk];simp)) hb hk).app u
  rcases hj with hj| ⟨k,y,rfl,jJ,hl⟩
  ·exact .inl hj
  rcases oY jJ with ⟨rfl,rfl⟩| ⟨_,axn⟩
  ·exact .inr ⟨_,r,rfl,hi,yh hl⟩
  exact .inr ⟨k,y,rfl,axn,hl⟩
 ·have hs:=h.said
  match cl,cl',EL,hs with
  |none,_,.same _,hs=>exact fun p x hx hb hk=>(hs p x (T1 k8 hx (.inl hb) (by rw[hk];simp)) hb hk).app u
  |some (ic,c,n),_,.same _,hs=>exact fun he p x hx hb hk=>(hs he p x (T1 k8 hx (.inl hb) (by rw[hk];simp)) hb hk).app u
  |_,_,.up ic,_=>exact fun he=>he.elim
 obtain⟨sn,rc,tm,hc⟩:=h.chan
 exact⟨sn,rc,tm,by rw[vw];exact hc⟩
end
def au.mu:au ι→Nat×Tree×Nat
 | .closer=>(10,.leaf,0)
 | .work _ tr=>(9,tr,0)
 | .gz _=>(8,.leaf,0)
 | .back tr=>(7,tr,0)
 | .st k n=>(k.MZ,.leaf,n)
 | .leave q _ _=>(0,.leaf,q)
abbrev E7:Nat×Tree×Nat→Nat×Tree×Nat→Prop:=Prod.Lex (· < ·) (Prod.Lex Tree.Lt (· < ·))
theorem E7.wf:WellFounded E7:=(Prod.lex ⟨_,Nat.lt_wfRel.wf⟩ (Prod.lex ⟨_,Tree.wf⟩ ⟨_,Nat.lt_wfRel.wf⟩)).wf
def uF(a b:au ι):Prop:=E7 a.mu b.mu
theorem uF.wf:WellFounded (uF (ι:=ι)):=InvImage.wf au.mu E7.wf
theorem fR{a b:Nat×Tree×Nat}(h:a.1 <b.1):E7 a b:=by
 obtain⟨a1,a2⟩:=a;obtain⟨b1,b2⟩:=b
 exact Prod.Lex.left _ _ h
theorem G3{a b:Tree}{x y:Nat}(h:Tree.Lt a b):E7 (n,a,x) (n,b,y):=Prod.Lex.right _ (Prod.Lex.left _ _ h)
theorem Fj{a:Tree}{x y:Nat}(h:x <y):E7 (n,a,x) (n,a,y):=Prod.Lex.right _ (Prod.Lex.right _ h)
section
variable {ι:Type} {E:dO ι}
def iJ(E:dO ι)(e:Event):Prop:=e=said .disable∨e=said .enable∨e=said (.releaseMerge (stA E.Wg))∨e=said (.acquire (stA E.Wg))∨∃a wr,e=⟨.cell a,wr,true⟩∧a.block=E.Wg
theorem iJ.ops{es:Array Event}(h:∀e∈es,iJ E e)(i:Nat)(fn:FuncId)(pos:String):∀op∈MemOp.ofEvents i fn pos es,
 op.g=i∧(∀a,op.act≠ .mark (.release a))∧∀x,op.act.touch?=some x→blk x.loc=some E.Wg∧x.kind= .atomic:=by
 intro op az
 rw[ofEvents_eq] at az
 obtain⟨e,he,rfl⟩:=Array.mem_map.1 az
 rcases h e he with rfl|rfl|rfl|rfl| ⟨a,wr,rfl,ha⟩
 ·exact⟨rfl,fun a=>by simp[said,Go.ConcR.mk,MemAct.ofEvent],fun x hx=>by cases hx⟩
 ·exact⟨rfl,fun a=>by simp[said,Go.ConcR.mk,MemAct.ofEvent],fun x hx=>by cases hx⟩
 ·exact⟨rfl,fun a=>by simp[said,Go.ConcR.mk,MemAct.ofEvent],fun x hx=>by cases hx⟩
 ·exact⟨rfl,fun a=>by simp[said,Go.ConcR.mk,MemAct.ofEvent],fun x hx=>by cases hx⟩
 refine⟨rfl,fun a=>by cases wr<;>simp[MemAct.ofEvent],fun x hx=>?_⟩
 cases wr<;>(simp only[MemAct.ofEvent,MemAct.touch?,Option.some.injEq] at hx;subst hx;exact⟨by simp[blk,ha],rfl⟩)
theorem K0{es:Array Event}(h:∀e∈es,Event.mute e=true):∀op∈MemOp.ofEvents i fn pos es,op.act.touch?=none:=by
 intro op az
 rw[ofEvents_eq] at az
 obtain⟨e,he,rfl⟩:=Array.mem_map.1 az
 have:=h e he
 obtain⟨loc,wr,sy⟩:=e
 cases loc with
 |mark m=>cases m<;>first|rfl| (simp[Event.mute] at this)
 |_=>simp[Event.mute] at this
theorem Q9{es:Array Event}(h:∀e∈es,Event.mute e=true)(a:Addr):∀op∈MemOp.ofEvents i fn pos es,op.act≠ .mark (.release a):=by
 intro op az
 rw[ofEvents_eq] at az
 obtain⟨e,he,rfl⟩:=Array.mem_map.1 az
 have:=h e he
 obtain⟨loc,wr,sy⟩:=e
 cases loc with
 |mark m=>cases m<;>first| (simp[MemAct.ofEvent];done)| (simp[Event.mute] at this)
 |_=>simp[Event.mute] at this
variable {L:Nat→Option Obj} {K:Nat→St} {gs:Array Goroutine} {w w':World} {t:Trace} {D:List (au ι)} {pend d0:Nat} {cl:Ar} {main:Goroutine} {sl:Option (Nat×Nat)}
structure Inv(E:dO ι)(L:Nat→Option Obj)(K:Nat→St)(gs:Array Goroutine)(w:World)(t:Trace)(D:List (au ι))(pend:Nat)(cl:Ar)(main:Goroutine)(d0:Nat):Prop where
 base:Base E L K gs w t D
 sy:Sy E L K gs w t D pend cl
 main:gs[0]?=some main
 deaf:Deaf t 0=d0
def gF(E:dO ι)(main:Goroutine):Prop:=main.status= .running∨∃m z,main=parked m #[rcase E.Ch z] (.recv true)
theorem gF.woken{main:Goroutine}(h:gF E main)(a a':Goroutine)(hc:w'.heap[E.Ch]?=some (.chan 0 #[] false sn rc tm)):woken E.P a a' w' main=main:=by
 rcases h with h| ⟨m,z,rfl⟩
 ·unfold Go.Conc.woken
  split
  ·exact again_running _ (.inl h)
  rfl
 exact woken_recv_open a a' hc
def kM(D:List (au ι)):List ι:=D.filterMap au.Yd
theorem GQ{r r':au ι}(ho:r'.Yd=r.Yd):∀ {D:List (au ι)} {i:Nat},D[i]?=some r→kM (D.set i r')=kM D
 | [],i,h=>by simp at h
 |a::D,0,h=>by simp only[List.getElem?_cons_zero,Option.some.injEq] at h;subst h;simp[kM,List.filterMap_cons,ho]
 |a::D,i+1,h=>by
  have:=GQ ho (D:=D) (i:=i) (by simpa using h)
  simp only[kM,List.set_cons_succ,List.filterMap_cons] at this ⊢
  rw[this]
def qN(E:dO ι)(L:Nat→Option Obj)(K:Nat→St)(D:List (au ι))(pend:Nat)(cl:Ar)(main:Goroutine)(d0:Nat)(m:Machine)(sl:Option (Nat×Nat))(t:Trace)(i:Nat):Prop:=
 ∃K' lh w' u D' cl',runT E.P m i=(.next (crowd lh w' sl),u)∧Inv E L K' lh w' (t++u) D' pend cl' main d0∧K' 0=K 0∧kM D'=kM D∧One uF D' D∧(cl=none→cl'=none)∧(cl≠none→cl'≠none)∧(∀o,au.gz o∈D'→au.gz o∈D∨main.status= .running)
theorem Inv.go'(h:Inv E L K gs w t D pend cl main d0)(hm:gF E main){r r':au ι}(hi:D[i]?=some r) (DX:r≠ .closer) (VC:r'≠ .closer)
 (hg:gs[i+1]?=some g) (hu:∀op∈u,op.g=i+1)
 (bX:runT E.P (crowd gs w sl) (i+1)=(.next (crowd ((gs.map (woken E.P g g' w')).setIfInBounds (i+1) g') w' sl),u)) (RF:Xh w w')
 (bZ:¬s'.knows E.Wg) (oO:¬s'.knows E.Ch) (vw:w'.heap[E.Ch]?=w.heap[E.Ch]?)
 (mX:Fit L (fJ K (i+1) s') w' (t++u)) (hr:nV E (t++u) (i+1) s' g' r')
 (k8:∀op∈u,∀x,op.act.touch?=some x→E.At x→x.kind= .atomic)
 (iy:∀op∈u,∀a,op.act≠ .mark (.release a))
 (yh:r'.left=false→r.left=false) (ze:r.early→r'.early) (HM:(∃ic tr n,cl=some (ic,.run tr,n))→r'.cur=true→r.cur=true)
 (ia:r.cur=true→∀p,ConcN.RelBy (stA E.Wg) t (i+1) p→ConcN.RelBy (stA E.Wg) (t++u) (i+1) p)
 (JW:r'.cnt≤r.cnt) (ahQ:r'.Yd=r.Yd) (TN:uF r' r)
 (nJ:∀cl',Ab cl cl'→(mayWake E.P g=true→(g'.status= .running∨g'.status= .finished)→∀ic n,cl'≠some (ic,.blk,n))→
  ∃st sm,WgAt E.ty E.Wg w' st sm∧Md E.max (fo au.cnt (D.set i r')+pend) (fo au.c4 (D.set i r')) (fo au.c3 (D.set i r')) (fo au.c2 (D.set i r')) (cl'.map (·.2.1)) st sm)
 (hsb:(∃o,r'= .gz o)→main.status= .running:=by rintro⟨o,e⟩;cases e):
 qN E L K D pend cl main d0 (crowd gs w sl) sl t (i+1):=by
 have cJ:=(List.getElem?_eq_some_iff.1 hi).1
 obtain⟨sn,rc,tm,hc⟩:=h.sy.chan
 have tv:w'.heap[E.Ch]?=some (.chan 0 #[] false sn rc tm):=by rw[vw];exact hc
 have Zt:=h.base.step (g:=g) cJ hu RF mX hr fun _ _ _ _=>⟨sn,rc,tm,tv⟩
 have R2:fo au.cnt (D.set i r')≤fo au.cnt D:=by have:=jH au.cnt (y:=r') hi;omega
 obtain⟨cl',EL,hsy⟩:=h.sy.step h.base.size hi DX VC hu bZ oO vw k8 iy yh ze HM ia R2 nJ
 refine⟨_,_,w',_,_,cl',bX,⟨Zt,hsy,?_,?_⟩,aH _ _ (by omega),GQ ahQ hi,One.set hi TN,fun e=>?_,fun e=>?_,fun o ho=>?_⟩
 ·rw[fY (by omega) h.main,hm.woken _ _ tv]
 ·rw[gM _ _ fun op az=>by rw[hu op az];omega];exact h.deaf
 ·subst e;cases EL;rfl
 ·cases EL with
  |same=>exact e
  |up ic=>simp
 rcases List.mem_or_eq_of_mem_set ho with h'|h'
 ·exact .inl h'
 exact .inr (hsb ⟨o,h'.symm⟩)
theorem Inv.go(h:Inv E L K gs w t D pend cl main d0)(hm:gF E main){r r':au ι}{es:Array Event}(hi:D[i]?=some r) (DX:r≠ .closer) (VC:r'≠ .closer)
 (hg:gs[i+1]?=some g) (hgo:stepG E.P false g w= .go g' w' es) (RF:Xh w w')
 (bZ:¬s'.knows E.Wg) (oO:¬s'.knows E.Ch) (vw:w'.heap[E.Ch]?=w.heap[E.Ch]?)
 (mX:Fit L (fJ K (i+1) s') w' (t++MemOp.ofEvents (i+1) g.frame.fn g.frame.place es)) (hr:nV E (t++MemOp.ofEvents (i+1) g.frame.fn g.frame.place es) (i+1) s' g' r')
 (k8:∀op∈MemOp.ofEvents (i+1) g.frame.fn g.frame.place es,∀x,op.act.touch?=some x→E.At x→x.kind= .atomic)
 (iy:∀op∈MemOp.ofEvents (i+1) g.frame.fn g.frame.place es,∀a,op.act≠ .mark (.release a))
 (yh:r'.left=false→r.left=false) (ze:r.early→r'.early) (HM:(∃ic tr n,cl=some (ic,.run tr,n))→r'.cur=true→r.cur=true)
 (ia:r.cur=true→∀p,ConcN.RelBy (stA E.Wg) t (i+1) p→ConcN.RelBy (stA E.Wg) (t++MemOp.ofEvents (i+1) g.frame.fn g.frame.place es) (i+1) p)
 (JW:r'.cnt≤r.cnt) (ahQ:r'.Yd=r.Yd) (TN:uF r' r)
 (nJ:∀cl',Ab cl cl'→(mayWake E.P g=true→(g'.status= .running∨g'.status= .finished)→∀ic n,cl'≠some (ic,.blk,n))→
  ∃st sm,WgAt E.ty E.Wg w' st sm∧Md E.max (fo au.cnt (D.set i r')+pend) (fo au.c4 (D.set i r')) (fo au.c3 (D.set i r')) (fo au.c2 (D.set i r')) (cl'.map (·.2.1)) st sm)
 (hsb:(∃o,r'= .gz o)→main.status= .running:=by rintro⟨o,e⟩;cases e):
 qN E L K D pend cl main d0 (crowd gs w sl) sl t (i+1):=
 h.go' hm hi DX VC hg (fun op az=>Go.ConcR.g_of_ofEvents op az) (runT_crowd_go (P:=E.P) (sl:=sl) (i:=i+1) hg (by simpa using hgo)) RF bZ oO vw mX hr k8 iy yh ze HM ia JW ahQ TN nJ hsb
end
section
variable {ι:Type} {E:dO ι} {L:Nat→Option Obj} {K:Nat→St} {gs:Array Goroutine} {w w':World} {t u:Trace} {D:List (au ι)} {pend d0:Nat} {cl:Ar} {main:Goroutine} {sl:Option (Nat×Nat)}
 {i:Nat} {g g':Goroutine} {es:Array Event}
theorem lX(K:Nat→St)(i:Nat):fJ K i (K i)=K:=by
 funext j
 by_cases e:j=i
 ·subst e;rw[aE]
 rw[aH _ _ e]
theorem Md.as5{a c:Nat}{cl cl':Ar}(h:Md mx n a b c (cl.map (·.2.1)) st sm)(hw:Ab cl cl'):Md mx n a b c (cl'.map (·.2.1)) st sm:=by
 cases hw with
 |same=>exact h
 |up ic=>
  simp only[Option.map_some] at h ⊢
  cases h with
  |reg _ h2=>exact .reg trivial h2
  |l4 _=>exact .l4 trivial
  |l3 _=>exact .l3 trivial
  |l2 _=>exact .l2 trivial
  |sema _ h2=>exact absurd rfl h2
  |over h1=>exact h1.elim
theorem Inv.qG(h:Inv E L K gs w t D pend cl main d0){r r':au ι}(hi:D[i]?=some r) (hw:w'.heap[E.Wg]?=w.heap[E.Wg]?) (h1:r'.cnt=r.cnt) (h4:r'.c4=r.c4) (h3:r'.c3=r.c3) (h2:r'.c2=r.c2):
 ∀cl',Ab cl cl'→∃st sm,WgAt E.ty E.Wg w' st sm∧Md E.max (fo au.cnt (D.set i r')+pend) (fo au.c4 (D.set i r')) (fo au.c3 (D.set i r')) (fo au.c2 (D.set i r')) (cl'.map (·.2.1)) st sm:=by
 intro cl' EL
 obtain⟨st,sm,ha,hm⟩:=h.sy.cells
 have e1:=jH au.cnt (y:=r') hi
 have e4:=jH au.c4 (y:=r') hi
 have e3:=jH au.c3 (y:=r') hi
 have e2:=jH au.c2 (y:=r') hi
 rw[show fo au.cnt (D.set i r')=fo au.cnt D by omega,show fo au.c4 (D.set i r')=fo au.c4 D by omega,show fo au.c3 (D.set i r')=fo au.c3 D by omega,show fo au.c2 (D.set i r')=fo au.c2 D by omega]
 exact⟨st,sm,by unfold WgAt;rw[hw];exact ha,hm.as5 EL⟩
theorem eB.quiet(h:eB t j)(hu:∀op∈u,op.act.touch?=none):eB (t++u) j:=by
 intro p hp hc
 obtain⟨op,ho,hg⟩:=Option.map_eq_some_iff.1 hp
 rcases getElem?_append_cases ho with ⟨cJ,_⟩| ⟨_,hm⟩
 ·obtain⟨q,h1,h2⟩:=h p (by rw[←g?_old (u:=u) cJ];exact hp) ((counts_old cJ).1 hc)
  have hq:q <t.size:=by
   obtain⟨o,ho,_⟩:=Option.map_eq_some_iff.1 h1
   exact lt_size_of_getElem? ho
  exact⟨q,by rw[g?_old hq];exact h1,hb_app u h2⟩
 obtain⟨x,hx,_⟩:=hc
 obtain⟨o',Ft,k7⟩:=touch_of hx
 rw[ho] at Ft;cases Ft
 rw[hu op hm] at k7;cases k7
theorem U0{e:Event}(h:Event.mute e=true):(MemAct.ofEvent e).touch?=none:=by
 obtain⟨loc,wr,sy⟩:=e
 cases loc with
 |mark m=>cases m<;>first|rfl| (simp[Event.mute] at h)
 |_=>simp[Event.mute] at h
theorem Inv.leave(h:Inv E L K gs w t D pend cl main d0)(hm:gF E main){q d:Nat}{cur:Bool}(hi:D[i]?=some (.leave q d cur)) (hg:gs[i+1]?=some g) (hs:g.status= .running):
 qN E L K D pend cl main d0 (crowd gs w sl) sl t (i+1):=by
 obtain⟨eY,dk,fe⟩:=h.base.ok i _ hi
 obtain rfl:eY=g:=by rw[hg] at dk;exact(Option.some.inj dk).symm
 obtain⟨hK,hq,hd,hc,hk⟩:=fe
 cases q with
 |zero=>have:=hq.1;rw[hs] at this;cases this
 |succ q=>
  rcases hq with ⟨h1,_⟩| ⟨_,g',es,TN,bW,Fs⟩
  ·rw[hs] at h1;cases h1
  have hu:=K0 (i:=i+1) (fn:=eY.frame.fn) (pos:=eY.frame.place) TN
  have hrb:∀p,ConcN.RelBy (stA E.Wg) t (i+1) p→ConcN.RelBy (stA E.Wg) (t++MemOp.ofEvents (i+1) eY.frame.fn eY.frame.place es) (i+1) p:=fun p hp=>
   ConcN.RelBy.appOwn hp _ _ _ fun j e he=> .inl (U0 (TN e (Array.mem_of_getElem? he)))
  refine h.go hm (r':= .leave q (deafBehind d es) cur) (s':=K (i+1)) (w':=w) hi (by simp) (by simp) hg (bW w) ⟨rfl,rfl⟩ (h.sy.kW _) (h.sy.kC _) rfl ?_ ?_ (fun op az x hx=>by rw[hu op az] at hx;cases hx) (fun op az a=>Q9 TN a op az)
   (fun e=>e) (fun e=>e) (fun _ e=>e) (fun _ p hp=>hrb p hp) (Nat.le_refl _) rfl (Fj (Nat.lt_succ_self q)) fun cl' hw _=>h.qG (r':= .leave q (deafBehind d es) cur) hi rfl rfl rfl rfl rfl cl' hw
  ·rw[lX]
   exact h.base.fit.quiet E.Wg h.sy.kW h.sy.lW (Nat.le_refl _) (fun _ _ _=>rfl) hu
  refine⟨hK,Fs,?_,fun e=>let ⟨r,hr⟩:=hc e;⟨r,hrb r hr⟩,fun e=>(hk e).quiet hu⟩
  rw[Deaf_own,hd]
theorem Sy.AS(h:Sy E L K gs w t D pend cl)(ht:Trans (K j) w s' w' es)(fn:FuncId)(pos:String):
 ¬s'.knows E.Wg∧¬s'.knows E.Ch∧w'.heap[E.Wg]?=w.heap[E.Wg]?∧w'.heap[E.Ch]?=w.heap[E.Ch]?∧
 (∀op∈MemOp.ofEvents j fn pos es,∀x,op.act.touch?=some x→¬E.At x)∧(∀op∈MemOp.ofEvents j fn pos es,∀a,op.act≠ .mark (.release a)):=by
 obtain⟨st,sm,ha,_⟩:=h.cells
 obtain⟨sn,rc,tm,hc⟩:=h.chan
 have hW:E.Wg <w.heap.size:=lt_size ha
 have hC:E.Ch <w.heap.size:=lt_size hc
 have kn:∀b,b <w.heap.size→¬(K j).knows b→¬s'.knows b:=fun b hb hk jJ=>by
  rcases jJ with h'|h'
  ·rcases ht.MS b h' with h1|h1|h1
   ·omega
   ·exact hk (.inl h1)
   exact hk (.inr h1)
  rcases ht.own b h' with h1|h1
  ·omega
  exact hk (.inr h1)
 refine⟨kn _ hW (h.kW j),kn _ hC (h.kC j),ht.frame _ hW fun ho=>h.kW j (.inr ho),ht.frame _ hC fun ho=>h.kC j (.inr ho),fun op az x hx hb=>?_,fun op az a e=>?_⟩
 ·obtain⟨_,b,mv,uU,_⟩:=(DE ht.vx az).2 x hx
  rcases hb with hb|hb
  ·obtain rfl:b=E.Wg:=by rw[hb] at mv;exact(Option.some.inj mv).symm
   rcases uU with h1|h1|h1
   ·omega
   ·exact h.kW j (.inr h1)
   exact h.kW j (.inl h1.2)
  obtain rfl:b=E.Ch:=by rw[hb] at mv;exact(Option.some.inj mv).symm
  rcases uU with h1|h1|h1
  ·omega
  ·exact h.kC j (.inr h1)
  exact h.kC j (.inl h1.2)
 rw[ofEvents_eq] at az
 obtain⟨e',he,rfl⟩:=Array.mem_map.1 az
 have hl:=Go.ConcR.loc_of_ofEvent e
 have:=ht.vx e' he
 unfold IY at this
 rw[hl] at this
 simp[Co] at this
theorem yo:∀(es:List Event) (d:Nat),(∀e∈es,IY s n e)→es.foldl (fun d e=>match e.loc with| .mark .disable=>d+1| .mark .enable=>d-1|_=>d) d=d
 | [],_,_=>rfl
 |e::es,d,h=>by
  have he:=h e (by simp)
  have:(match e.loc with| .mark .disable=>d+1| .mark .enable=>d-1|_=>d)=d:=by
   unfold IY at he
   split<;>simp_all[Co]
  rw[List.foldl_cons,this]
  exact yo es d fun x hx=>h x (by simp[hx])
theorem Trans.deaf(ht:Trans s w s' w' es)(d:Nat):deafBehind d es=d:=by
 obtain⟨l⟩:=es
 rw[deafBehind,List.foldl_toArray']
 ·exact yo l d fun e he=>ht.vx e (by simpa using he)
 simp
theorem Inv.work(h:Inv E L K gs w t D pend cl main d0)(hm:gF E main){o:ι}{f:World→Tree}(hi:D[i]?=some (.work o (.node f))) (hg:gs[i+1]?=some g):
 qN E L K D pend cl main d0 (crowd gs w sl) sl t (i+1):=by
 obtain⟨eY,dk,fe⟩:=h.base.ok i _ hi
 obtain rfl:eY=g:=by rw[hg] at dk;exact(Option.some.inj dk).symm
 obtain⟨hd,hs,gA⟩:=fe
 obtain⟨g',w',es,s',bW,bX,ht,htr⟩:=gA w (h.base.fit.jL _)
 obtain⟨k1,k2,k3,k4,k5,k6⟩:=h.sy.AS ht eY.frame.fn eY.frame.place
 refine h.go hm (r':= .work o (f w)) hi (by simp) (by simp) hg bW ⟨ht.os,ht.output⟩ k1 k2 k4 (h.base.fit.own ht _ _) ⟨?_,htr⟩ (fun op az x hx hb=>absurd hb (k5 op az x hx)) k6
  (fun _=>rfl) (fun e=>e) (fun _ e=>e) (fun e=>(by cases e)) (Nat.le_refl _) rfl (G3 (.mk f w)) fun cl' hw _=>h.qG (r':= .work o (f w)) hi k3 rfl rfl rfl rfl cl' hw
 rw[Deaf_own,ht.deaf];exact hd
theorem Inv.back(h:Inv E L K gs w t D pend cl main d0)(hm:gF E main){f:World→Tree}(hi:D[i]?=some (.back (.node f))) (hg:gs[i+1]?=some g):
 qN E L K D pend cl main d0 (crowd gs w sl) sl t (i+1):=by
 obtain⟨eY,dk,fe⟩:=h.base.ok i _ hi
 obtain rfl:eY=g:=by rw[hg] at dk;exact(Option.some.inj dk).symm
 obtain⟨hd,hs,gA⟩:=fe
 obtain⟨g',w',es,s',bW,bX,ht,htr⟩:=gA w (h.base.fit.jL _)
 obtain⟨k1,k2,k3,k4,k5,k6⟩:=h.sy.AS ht eY.frame.fn eY.frame.place
 refine h.go hm (r':= .back (f w)) hi (by simp) (by simp) hg bW ⟨ht.os,ht.output⟩ k1 k2 k4 (h.base.fit.own ht _ _) ⟨?_,htr⟩ (fun op az x hx hb=>absurd hb (k5 op az x hx)) k6
  (fun _=>rfl) (fun e=>e) (fun _ e=>e) (fun e=>(by cases e)) (Nat.le_refl _) rfl (G3 (.mk f w)) fun cl' hw _=>h.qG (r':= .back (f w)) hi k3 rfl rfl rfl rfl cl' hw
 rw[Deaf_own,ht.deaf];exact hd
theorem Inv.atQ(h:Inv E L K gs w t D pend cl main d0)(hm:gF E main){k:WK}(hi:D[i]?=some (.st k (n+1))) (hg:gs[i+1]?=some g):
 qN E L K D pend cl main d0 (crowd gs w sl) sl t (i+1):=by
 obtain⟨eY,dk,fe⟩:=h.base.ok i _ hi
 obtain rfl:eY=g:=by rw[hg] at dk;exact(Option.some.inj dk).symm
 obtain⟨hK,hd,⟨hs,g',bW,hp⟩,Y3⟩:=fe
 obtain⟨st,sm,ha,_⟩:=h.sy.cells
 have e0:MemOp.ofEvents (i+1) eY.frame.fn eY.frame.place #[]= #[]:=rfl
 refine h.go hm (r':= .st k n) (s':=K (i+1)) hi (by simp) (by simp) hg (bW w ⟨st,sm,ha⟩) ⟨rfl,rfl⟩ (h.sy.kW _) (h.sy.kC _) rfl ?_ ?_ (by rw[e0];simp) (by rw[e0];simp)
  (fun _=>rfl) (fun e=>e) (fun _ e=>e) (fun e=>(by cases e)) (by cases k<;>exact Nat.le_refl _) rfl (Fj (Nat.lt_succ_self n)) fun cl' hw _=>h.qG (r':= .st k n) hi rfl (by cases k<;>rfl) (by cases k<;>rfl) (by cases k<;>rfl) (by cases k<;>rfl) cl' hw
 ·rw[lX,e0,Array.append_empty];exact h.base.fit
 rw[e0,Array.append_empty];exact⟨hK,hd,hp,Y3⟩
end
theorem Md.d1{a c:Nat}{o:Option CK}(h:Md mx n a b c o st sm)(hn:1≤n)(ho:o≠none):
 ∃v wt:Nat,v+1=n∧wt≤1∧st=((v+1:Nat):Int)*KK+(wt:Int)∧sm=0∧a=0∧b=0∧c=0∧
  ((v=0∧wt=1)→Md mx v 1 0 0 o ((v:Int)*KK+(wt:Int)) 0)∧(¬(v=0∧wt=1)→Md mx v 0 0 0 o ((v:Int)*KK+(wt:Int)) 0):=by
 cases h with
 |start=>exact absurd rfl ho
 |kd=>exact⟨n-1,0,by omega,by omega,by rw[show n-1+1=n by omega];simp,rfl,rfl,rfl,rfl,fun h=>by omega,fun _=>by simpa using .kd⟩
 |w1 h1=>exact⟨n-1,0,by omega,by omega,by rw[show n-1+1=n by omega];simp,rfl,rfl,rfl,rfl,fun h=>by omega,fun _=>by simpa using .w1 (by omega)⟩
 |w2 h1 h2 h3=>exact⟨n-1,0,by omega,by omega,by rw[show n-1+1=n by omega];simp,rfl,rfl,rfl,rfl,fun h=>by omega,fun _=>by simpa using .w2 (by omega) h2 h3⟩
 |reg h1 h2=>
  refine⟨n-1,1,by omega,by omega,by rw[show n-1+1=n by omega];simp,rfl,rfl,rfl,rfl,fun h=>?_,fun h=>?_⟩
  ·rw[h.1];simpa using .l4 h1
  exact .reg h1 (by omega)
 |l4 _=>omega
 |l3 _=>omega
 |l2 _=>omega
 |sema _ _=>omega
 |over _=>omega
theorem Md.d2{a c:Nat}{o:Option CK}(h:Md mx n a b c o st sm)(hn:1≤a):st=1∧sm=0∧n=0∧a=1∧b=0∧c=0∧Md mx 0 0 1 0 o 1 0:=by
 cases h with
 |l4 h1=>exact⟨rfl,rfl,rfl,rfl,rfl,rfl,.l3 h1⟩
 |_=>omega
theorem Md.d3{a c:Nat}{o:Option CK}(h:Md mx n a b c o st sm)(hn:1≤b):st=1∧sm=0∧n=0∧a=0∧b=1∧c=0∧Md mx 0 0 0 1 o 0 0:=by
 cases h with
 |l3 h1=>exact⟨rfl,rfl,rfl,rfl,rfl,rfl,.l2 h1⟩
 |_=>omega
theorem Md.d4{a c:Nat}{o:Option CK}(h:Md mx n a b c o st sm)(hn:1≤c):st=0∧sm=0∧n=0∧a=0∧b=0∧c=1∧(o≠some .blk→Md mx 0 0 0 0 o 0 1):=by
 cases h with
 |l2 h1=>exact⟨rfl,rfl,rfl,rfl,rfl,rfl,fun h'=> .sema h1 fun e=>h' (by rw[e])⟩
 |_=>omega
theorem Md.run{a c:Nat}{o:Option CK}(h:Md mx n a b c o st sm){k:CK}(ho:o=some k)(hk:k.over):n=0∧a=0∧b=0∧c=0∧st=0∧sm=0:=by
 have nw:¬k.waits:=by cases k<;>simp_all[CK.over,CK.waits]
 cases h with
 |start=>cases ho
 |kd=>cases ho;exact hk.elim
 |w1 _=>cases ho;exact hk.elim
 |w2 _ _ _=>cases ho;exact hk.elim
 |reg h1 _=>cases ho;exact absurd h1 nw
 |l4 h1=>cases ho;exact absurd h1 nw
 |l3 h1=>cases ho;exact absurd h1 nw
 |l2 h1=>cases ho;exact absurd h1 nw
 |sema h1 _=>cases ho;exact absurd h1 nw
 |over _=>exact⟨rfl,rfl,rfl,rfl,rfl,rfl⟩
section
variable {ι:Type} {E:dO ι} {L:Nat→Option Obj} {K:Nat→St} {gs:Array Goroutine} {w w':World} {t u:Trace} {D:List (au ι)} {pend d0:Nat} {cl:Ar} {main:Goroutine} {sl:Option (Nat×Nat)}
 {i:Nat} {g g':Goroutine} {es:Array Event}
structure eI(E:dO ι)(w w':World):Prop where
 size:w'.heap.size=w.heap.size
 block:∀b,b≠E.Wg→w'.heap[b]?=w.heap[b]?
 same:Xh w w'
theorem eI.refl(w:World):eI E w w:=⟨rfl,fun _ _=>rfl,rfl,rfl⟩
theorem eI.set(w:World)(k:Nat)(v:Value):eI E w (w.setCell ⟨E.Wg,k,none⟩ v):=
 ⟨by simp[World.setCell],fun b hb=>by simp[World.setCell,Array.getElem?_modify,Ne.symm hb],rfl,rfl⟩
theorem Sy.Bn(h:Sy E L K gs w t D pend cl)(hf:Fit L K w t)(hj:j=0∨∃k r,j=k+1∧D[k]?=some r∧r.left=false) (hw:eI E w w') (zd:∀e∈es,iJ E e) (fn:FuncId) (pos:String):
 Fit L K w' (t++MemOp.ofEvents j fn pos es):=by
 have ho:=iJ.ops zd j fn pos
 obtain⟨st,sm,ha,_⟩:=h.cells
 refine hf.beside E.Wg j h.kW h.lW (lt_size ha) (Nat.le_of_eq hw.size.symm) (fun b hb _=>hw.block b hb) (fun op az=>(ho op az).1) fun op az x hx=>?_
 obtain⟨h1,h2⟩:=(ho op az).2.2 x hx
 refine⟨h1,fun sd p a uV hc=>h.plain j hj p a uV (.inl (by rw[hc.1];exact h1)) ?_⟩
 rcases hc.2.2.2 with h3|h3|h3
 ·exact h3
 ·rw[h2] at h3;cases h3
 rw[h2] at h3;cases h3.2.2
theorem Inv.yI(h:Inv E L K gs w t D pend cl main d0)(hm:gF E main){k:WK}{r':au ι}(hi:D[i]?=some (.st k 0)) (hg:gs[i+1]?=some g) (hgo:stepG E.P false g w= .go g' w' es)
 (hw:eI E w w') (zd:∀e∈es,iJ E e) (VC:r'≠ .closer) (hr:nV E (t++MemOp.ofEvents (i+1) g.frame.fn g.frame.place es) (i+1) (K (i+1)) g' r')
 (HM:(∃ic tr n,cl=some (ic,.run tr,n))→r'.cur=true→False)
 (JW:r'.cnt≤(au.st (ι:=ι) k 0).cnt) (ahQ:r'.Yd=none) (TN:uF r' (.st k 0))
  (mU:Md E.max (fo au.cnt D+pend) (fo au.c4 D) (fo au.c3 D) (fo au.c2 D) (cl.map (·.2.1)) st sm)
 (nJ:∀cl':Ar,cl'≠none→Md E.max (fo au.cnt D+pend) (fo au.c4 D) (fo au.c3 D) (fo au.c2 D) (cl'.map (·.2.1)) st sm→
  (mayWake E.P g=true→(g'.status= .running∨g'.status= .finished)→∀ic n,cl'≠some (ic,.blk,n))→
  ∃st sm,WgAt E.ty E.Wg w' st sm∧Md E.max (fo au.cnt (D.set i r')+pend) (fo au.c4 (D.set i r')) (fo au.c3 (D.set i r')) (fo au.c2 (D.set i r')) (cl'.map (·.2.1)) st sm)
 (hsb:(∃o,r'= .gz o)→main.status= .running:=by rintro⟨o,e⟩;cases e):
 qN E L K D pend cl main d0 (crowd gs w sl) sl t (i+1):=by
 have ho:=iJ.ops zd (i+1) g.frame.fn g.frame.place
 have iM:cl≠none:=fun e=>by
  have:=h.sy.E1
  subst e
  exact this _ (List.mem_of_getElem? hi)
 refine h.go hm (r':=r') (s':=K (i+1)) hi (by simp) VC hg hgo hw.same (h.sy.kW _) (h.sy.kC _) (hw.block _ (Ne.symm h.sy.ne)) ?_ hr (fun op az x hx _=>((ho op az).2.2 x hx).2) (fun op az=>(ho op az).2.1)
  (fun _=>rfl) (fun e=>e.elim) (fun e e'=>(HM e e').elim) (fun e=>(by cases e)) JW (by rw[ahQ];rfl) TN (fun cl' EL hb=>?_) hsb
 ·rw[lX]
  exact h.sy.Bn h.base.fit (.inr ⟨i,_,rfl,hi,rfl⟩) hw zd _ _
 refine nJ cl' ?_ (mU.as5 EL) hb
 cases EL with
 |same=>exact iM
 |up ic=>simp
theorem U1{cl:Ar}(h:cl≠none):cl.map (·.2.1)≠none:=by cases cl<;>simp_all
theorem anD{cl:Ar}(h:∀ic n,cl≠some (ic,.blk,n)):cl.map (·.2.1)≠some .blk:=by
 match cl with
 |none=>simp
 |some (ic,c,n)=>intro e;simp only[Option.map_some,Option.some.injEq] at e;subst e;exact h ic n rfl
theorem MF{st4 st3 st2:Nat}{o:Option CK}{r r':au ι}(hi:D[i]?=some r)
 (e1:n+r.cnt=fo au.cnt D+pend+r'.cnt) (e4:st4+r.c4=fo au.c4 D+r'.c4) (e3:st3+r.c3=fo au.c3 D+r'.c3) (e2:st2+r.c2=fo au.c2 D+r'.c2) (h:Md mx n st4 st3 st2 o st sm):
 Md mx (fo au.cnt (D.set i r')+pend) (fo au.c4 (D.set i r')) (fo au.c3 (D.set i r')) (fo au.c2 (D.set i r')) o st sm:=by
 have f1:=jH au.cnt (y:=r') hi
 have f4:=jH au.c4 (y:=r') hi
 have f3:=jH au.c3 (y:=r') hi
 have f2:=jH au.c2 (y:=r') hi
 rw[show fo au.cnt (D.set i r')+pend=n by omega,show fo au.c4 (D.set i r')=st4 by omega,show fo au.c3 (D.set i r')=st3 by omega,show fo au.c2 (D.set i r')=st2 by omega]
 exact h
theorem uh(f:au ι→Nat){r:au ι}(hi:D[i]?=some r):f r≤fo f D:=by
 have:=jH f (y:=au.closer) hi
 have h0:=jH f (D:=D.set i .closer) (i:=i) (x:= .closer) (y:=r) (by rw[List.getElem?_set_self (List.getElem?_eq_some_iff.1 hi).1])
 rw[List.set_set,show D.set i r=D from by obtain⟨hl,rfl⟩:=List.getElem?_eq_some_iff.1 hi;simp] at h0
 have key:∀(D:List (au ι)) (i:Nat) (r:au ι),D[i]?=some r→f r≤fo f D:=by
  intro D
  induction D with
  |nil=>intro i r h;simp at h
  |cons a D ih=>
   intro i r h
   cases i with
   |zero=>simp only[List.getElem?_cons_zero,Option.some.injEq] at h;subst h;simp[fo]
   |succ i=>have:=ih i r (by simpa using h);simp only[fo,List.map_cons,List.sum_cons] at this ⊢;omega
 exact key D i r hi
theorem n5(k:Nat)(b:Bool):iJ E ⟨.cell ⟨E.Wg,k,none⟩,b,true⟩:= .inr (.inr (.inr (.inr ⟨_,_,rfl,rfl⟩)))
theorem Inv.r0(h:Inv E L K gs w t D pend cl main d0)(hm:gF E main)(hi:D[i]?=some (.st .r0 0)) (hg:gs[i+1]?=some g):qN E L K D pend cl main d0 (crowd gs w sl) sl t (i+1):=by
 obtain⟨eY,dk,fe⟩:=h.base.ok i _ hi
 obtain rfl:eY=g:=by rw[hg] at dk;exact(Option.some.inj dk).symm
 obtain⟨hK,hd,⟨hs,g',bW,n,hp⟩,_⟩:=fe
 obtain⟨st,sm,ha,mU⟩:=h.sy.cells
 refine h.yI hm (r':= .st .k1 n) hi hg (bW w) (eI.refl w) (by intro e he;simp at he;subst he;exact .inr (.inr (.inl rfl))) (by simp) ?_ (fun _ e=>(by cases e)) (Nat.le_refl _) rfl (fR (by simp[au.mu,WK.MZ])) mU fun cl' hc CZ _=>?_
 ·refine⟨hK,?_,hp,fun _=>⟨_,ConcN.RelBy.new hd _ _⟩⟩
  rw[Deaf_own,hd];rfl
 exact⟨st,sm,ha,MF hi rfl rfl rfl rfl CZ⟩
theorem Inv.k1(h:Inv E L K gs w t D pend cl main d0)(hm:gF E main)(hi:D[i]?=some (.st .k1 0)) (hg:gs[i+1]?=some g):qN E L K D pend cl main d0 (crowd gs w sl) sl t (i+1):=by
 obtain⟨eY,dk,fe⟩:=h.base.ok i _ hi
 obtain rfl:eY=g:=by rw[hg] at dk;exact(Option.some.inj dk).symm
 obtain⟨hK,hd,⟨hs,g',bW,n,hp⟩,Pd⟩:=fe
 obtain⟨p,iy⟩:=Pd rfl
 obtain⟨st,sm,ha,mU⟩:=h.sy.cells
 refine h.yI hm (r':= .st .d1 n) hi hg (bW w) (eI.refl w) (by intro e he;simp at he;subst he;exact .inl rfl) (by simp) ?_ (fun _ e=>(by cases e)) (Nat.le_refl _) rfl (fR (by simp[au.mu,WK.MZ])) mU fun cl' hc CZ _=>?_
 ·refine⟨hK,?_,hp,fun _=>⟨p,ConcN.RelBy.appOwn iy _ _ _ fun j e he=> .inl ?_⟩⟩
  ·rw[Deaf_own,hd];rfl
  have:=Array.mem_of_getElem? he;simp at this;subst this;rfl
 exact⟨st,sm,ha,MF hi rfl rfl rfl rfl CZ⟩
theorem Inv.d1(h:Inv E L K gs w t D pend cl main d0)(hm:gF E main)(hi:D[i]?=some (.st .d1 0)) (hg:gs[i+1]?=some g):qN E L K D pend cl main d0 (crowd gs w sl) sl t (i+1):=by
 obtain⟨eY,dk,fe⟩:=h.base.ok i _ hi
 obtain rfl:eY=g:=by rw[hg] at dk;exact(Option.some.inj dk).symm
 obtain⟨hK,hd,aE8,Pd⟩:=fe
 obtain⟨p,iy⟩:=Pd rfl
 obtain⟨st,sm,ha,mU⟩:=h.sy.cells
 have iM:cl≠none:=fun e=>by
  have:=h.sy.E1
  subst e
  exact this _ (List.mem_of_getElem? hi)
 have hn:1≤fo au.cnt D+pend:=Nat.le_trans (uh au.cnt hi) (Nat.le_add_right _ _)
 obtain⟨v,wt,hv,hwt,rfl,rfl,ea,eb,ec,_,_⟩:=mU.d1 hn (U1 iM)
 have JN:=h.sy.Ct
 obtain⟨hs,di⟩:=aE8
 obtain⟨g',bW,R6,NS⟩:=di v wt hwt (by omega)
 have arB:ConcN.RelBy (stA E.Wg) (t++MemOp.ofEvents (i+1) eY.frame.fn eY.frame.place #[rd (stA E.Wg),wr (stA E.Wg)]) (i+1) p:=by
  refine ConcN.RelBy.appOwn iy _ _ _ fun j e he=> .inr ?_
  have Fx:Deaf t (i+1)=1:=hd
  match j,he with
  |0,he=>simp at he;subst he;exact⟨⟨_,_,rfl⟩,by simp[deafBehind,Fx]⟩
  |1,he=>simp at he;subst he;exact⟨⟨_,_,rfl⟩,by simp[deafBehind,Fx,rd]⟩
  |j+2,he=>simp at he
 have zf:Deaf (t++MemOp.ofEvents (i+1) eY.frame.fn eY.frame.place #[rd (stA E.Wg),wr (stA E.Wg)]) (i+1)=1:=by rw[Deaf_own,hd];rfl
 have zd:∀e∈ #[rd (stA E.Wg),wr (stA E.Wg)],iJ E e:=by intro e he;simp at he;rcases he with rfl|rfl<;>exact n5 0 _
 have bX:¬ ∃ic tr n,cl=some (ic,CK.run tr,n):=fun⟨ic,tr,n,e⟩=>by
  have:=mU.run (k:= .run tr) (by rw[e];rfl) trivial
  omega
 by_cases hb:v=0∧wt=1
 ·obtain⟨n,hp⟩:=R6 hb
  refine h.yI hm (r':= .st .d2 n) hi hg (bW w ha) (eI.set w 0 _) zd (by simp) ⟨hK,zf,hp,fun _=>⟨p,arB⟩⟩ (fun _ e=>(by cases e)) (Nat.zero_le _) rfl (fR (by simp[au.mu,WK.MZ])) mU fun cl' hc CZ _=>?_
  obtain⟨v',wt',hv',aQh,est,_,_,_,_,h1,_⟩:=CZ.d1 hn (U1 hc)
  have:v'=v:=by omega
  subst this
  have:wt'=wt:=by omega
  subst this
  exact⟨_,_,Go.ConcR.WgAt.setSt ha _,MF hi (by simp[au.cnt];omega) (by simp[au.c4];omega) (by simp[au.c3];omega) (by simp[au.c2];omega) (h1 hb)⟩
 obtain⟨q,hq⟩:=NS hb
 refine h.yI hm (r':= .leave q 1 true) hi hg (bW w ha) (eI.set w 0 _) zd (by simp) ⟨hK,hq,zf,fun _=>⟨p,arB⟩,fun e=>(by cases e)⟩ (fun e _=>bX e) (Nat.zero_le _) rfl (fR (by simp[au.mu,WK.MZ])) mU fun cl' hc CZ _=>?_
 obtain⟨v',wt',hv',aQh,est,_,_,_,_,_,h1⟩:=CZ.d1 hn (U1 hc)
 have:v'=v:=by omega
 subst this
 have:wt'=wt:=by omega
 subst this
 exact⟨_,_,Go.ConcR.WgAt.setSt ha _,MF hi (by simp[au.cnt];omega) (by simp[au.c4];omega) (by simp[au.c3];omega) (by simp[au.c2];omega) (h1 hb)⟩
theorem Inv.d2(h:Inv E L K gs w t D pend cl main d0)(hm:gF E main)(hi:D[i]?=some (.st .d2 0)) (hg:gs[i+1]?=some g):qN E L K D pend cl main d0 (crowd gs w sl) sl t (i+1):=by
 obtain⟨eY,dk,fe⟩:=h.base.ok i _ hi
 obtain rfl:eY=g:=by rw[hg] at dk;exact(Option.some.inj dk).symm
 obtain⟨hK,hd,⟨hs,g',bW,n,hp⟩,Pd⟩:=fe
 obtain⟨p,iy⟩:=Pd rfl
 obtain⟨st,sm,ha,mU⟩:=h.sy.cells
 have hn:1≤fo au.c4 D:=uh au.c4 hi
 obtain⟨rfl,rfl,e1,e4,e3,e2,_⟩:=mU.d2 hn
 refine h.yI hm (r':= .st .d3 n) hi hg (bW w ha) (eI.refl w) (by intro e he;simp at he;subst he;exact n5 0 _) (by simp) ?_ (fun _ e=>(by cases e)) (Nat.le_refl _) rfl (fR (by simp[au.mu,WK.MZ])) mU fun cl' hc CZ _=>?_
 ·refine⟨hK,?_,hp,fun _=>⟨p,ConcN.RelBy.appOwn iy _ _ _ fun j e he=> .inr ?_⟩⟩
  ·rw[Deaf_own,hd];rfl
  have Fx:Deaf t (i+1)=1:=hd
  match j,he with
  |0,he=>simp at he;subst he;exact⟨⟨_,_,rfl⟩,by simp[deafBehind,Fx]⟩
  |j+1,he=>simp at he
 exact⟨_,_,ha,MF hi (by simp[au.cnt];omega) (by simp[au.c4];omega) (by simp[au.c3];omega) (by simp[au.c2];omega) (CZ.d2 hn).2.2.2.2.2.2⟩
theorem Inv.d3(h:Inv E L K gs w t D pend cl main d0)(hm:gF E main)(hi:D[i]?=some (.st .d3 0)) (hg:gs[i+1]?=some g):qN E L K D pend cl main d0 (crowd gs w sl) sl t (i+1):=by
 obtain⟨eY,dk,fe⟩:=h.base.ok i _ hi
 obtain rfl:eY=g:=by rw[hg] at dk;exact(Option.some.inj dk).symm
 obtain⟨hK,hd,⟨hs,g',bW,n,hp⟩,Pd⟩:=fe
 obtain⟨p,iy⟩:=Pd rfl
 obtain⟨st,sm,ha,mU⟩:=h.sy.cells
 have hn:1≤fo au.c3 D:=uh au.c3 hi
 obtain⟨rfl,rfl,e1,e4,e3,e2,_⟩:=mU.d3 hn
 refine h.yI hm (r':= .st .d4 n) hi hg (bW w ha) (eI.set w 0 _) (by intro e he;simp at he;subst he;exact n5 0 _) (by simp) ?_ (fun _ e=>(by cases e)) (Nat.le_refl _) rfl (fR (by simp[au.mu,WK.MZ])) mU fun cl' hc CZ _=>?_
 ·refine⟨hK,?_,hp,fun _=>⟨p,ConcN.RelBy.appOwn iy _ _ _ fun j e he=> .inr ?_⟩⟩
  ·rw[Deaf_own,hd];rfl
  have Fx:Deaf t (i+1)=1:=hd
  match j,he with
  |0,he=>simp at he;subst he;exact⟨⟨_,_,rfl⟩,by simp[deafBehind,Fx]⟩
  |j+1,he=>simp at he
 exact⟨_,_,Go.ConcR.WgAt.setSt ha _,MF hi (by simp[au.cnt];omega) (by simp[au.c4];omega) (by simp[au.c3];omega) (by simp[au.c2];omega) (CZ.d3 hn).2.2.2.2.2.2⟩
theorem Inv.d4(h:Inv E L K gs w t D pend cl main d0)(hm:gF E main)(hi:D[i]?=some (.st .d4 0)) (hg:gs[i+1]?=some g):qN E L K D pend cl main d0 (crowd gs w sl) sl t (i+1):=by
 obtain⟨eY,dk,fe⟩:=h.base.ok i _ hi
 obtain rfl:eY=g:=by rw[hg] at dk;exact(Option.some.inj dk).symm
 obtain⟨hK,hd,⟨hs,hmw,g',bW,q,hq⟩,Pd⟩:=fe
 obtain⟨p,iy⟩:=Pd rfl
 obtain⟨st,sm,ha,mU⟩:=h.sy.cells
 have hn:1≤fo au.c2 D:=uh au.c2 hi
 obtain⟨rfl,rfl,e1,e4,e3,e2,_⟩:=mU.d4 hn
 have Fx:Deaf t (i+1)=1:=hd
 have bX:¬ ∃ic tr n,cl=some (ic,CK.run tr,n):=fun⟨ic,tr,n,e⟩=>by
  have:=mU.run (k:= .run tr) (by rw[e];rfl) trivial
  omega
 refine h.yI hm (r':= .leave q 1 true) hi hg (bW w ha) (eI.set w 1 _) (by
  intro e he;simp[semEvents] at he
  rcases he with rfl|rfl|rfl|rfl
  ·exact .inl rfl
  ·exact n5 1 _
  ·exact n5 1 _
  exact .inr (.inl rfl)) (by simp) ?_ (fun e _=>bX e) (Nat.le_refl _) rfl (fR (by simp[au.mu,WK.MZ])) mU fun cl' hc CZ hb=>?_
 ·refine⟨hK,hq,?_,fun _=>⟨p,ConcN.RelBy.appOwn iy _ _ _ fun j e he=>?_⟩,fun e=>(by cases e)⟩
  ·rw[Deaf_own,hd];rfl
  match j,he with
  |0,he=>simp[semEvents] at he;subst he;exact .inl rfl
  |1,he=>simp[semEvents] at he;subst he;exact .inr ⟨⟨_,_,rfl⟩,by simp[deafBehind,Fx,semEvents]⟩
  |2,he=>simp[semEvents] at he;subst he;exact .inr ⟨⟨_,_,rfl⟩,by simp[deafBehind,Fx,semEvents]⟩
  |3,he=>simp[semEvents] at he;subst he;exact .inl rfl
  |j+4,he=>simp[semEvents] at he
 exact⟨_,_,Go.ConcR.WgAt.setSm ha _,MF hi (by simp[au.cnt];omega) (by simp[au.c4];omega) (by simp[au.c3];omega) (by simp[au.c2];omega) ((CZ.d4 hn).2.2.2.2.2.2 (anD (hb hmw hq.status)))⟩
end
def CK.phi(mx:Nat):CK→Nat
 | .kd=>2*mx+9
 | .w1 b=>2*b+8
 | .w2 b _=>2*b+9
 | .wr=>7
 | .w3| .blk=>6
 | .w4=>5
 | .ke=>4
 | .aq=>3
 | .run _=>2
def CK.tree:CK→Tree
 | .run tr=>tr
 |_=> .leaf
def nv(mx:Nat):Ar→Nat×Tree×Nat
 |none=>(0,.leaf,0)
 |some (_,c,n)=>(c.phi mx,c.tree,n)
section
variable {ι:Type} {E:dO ι} {L:Nat→Option Obj} {K:Nat→St} {gs:Array Goroutine} {w w':World} {t u:Trace} {D:List (au ι)} {pend d0:Nat} {main:Goroutine} {sl:Option (Nat×Nat)}
 {ic:Nat} {g g':Goroutine} {es:Array Event} {c:CK} {n:Nat}
def Tx(E:dO ι)(L:Nat→Option Obj)(K:Nat→St)(D:List (au ι))(pend:Nat)(ic:Nat)(c:CK)(n:Nat)(main:Goroutine)(d0:Nat)(m:Machine)(sl:Option (Nat×Nat))(t:Trace):Prop:=
 ∃K' lh w' u c' n',runT E.P m (ic+1)=(.next (crowd lh w' sl),u)∧Inv E L K' lh w' (t++u) D pend (some (ic,c',n')) main d0∧K' 0=K 0∧E7 (nv E.max (some (ic,c',n'))) (nv E.max (some (ic,c,n)))
theorem Inv.goC(h:Inv E L K gs w t D pend (some (ic,c,n)) main d0)(hm:gF E main){c':CK} 
 (hg:gs[ic+1]?=some g) (hgo:stepG E.P false g w= .go g' w' es) (RF:Xh w w')
 (bZ:¬s'.knows E.Wg) (oO:¬s'.knows E.Ch) (vw:w'.heap[E.Ch]?=w.heap[E.Ch]?)
 (mX:Fit L (fJ K (ic+1) s') w' (t++MemOp.ofEvents (ic+1) g.frame.fn g.frame.place es))
 (k8:∀op∈MemOp.ofEvents (ic+1) g.frame.fn g.frame.place es,∀x,op.act.touch?=some x→E.At x→x.kind≠ .plain)
 (Y3:c'.early→c.early∧∀op∈MemOp.ofEvents (ic+1) g.frame.fn g.frame.place es,∀x,op.act.touch?=some x→blk x.loc=some E.Wg→x.kind≠ .said)
 (iy:∀op∈MemOp.ofEvents (ic+1) g.frame.fn g.frame.place es,∀a,op.act≠ .mark (.release a))
 (nJ:∃st sm,WgAt E.ty E.Wg w' st sm∧Md E.max (fo au.cnt D+pend) (fo au.c4 D) (fo au.c3 D) (fo au.c2 D) (some c') st sm)
 (zf:deafBehind c.deaf es=c'.deaf) (pX:c'.at E s' g' n') (V1:(∃tr,c'= .run tr)→AcqAll E (t++MemOp.ofEvents (ic+1) g.frame.fn g.frame.place es) D ic)
 (TN:E7 (nv E.max (some (ic,c',n'))) (nv E.max (some (ic,c,n)))):
 Tx E L K D pend ic c n main d0 (crowd gs w sl) sl t:=by
 have hu:∀op∈MemOp.ofEvents (ic+1) g.frame.fn g.frame.place es,op.g=ic+1:=fun op az=>Go.ConcR.g_of_ofEvents op az
 obtain⟨h1,h2,h3,⟨gc,Fw,beC⟩,h5⟩:=h.sy.E1
 have cJ:=(List.getElem?_eq_some_iff.1 h1).1
 obtain⟨sn,rc,tm,hc⟩:=h.sy.chan
 have tv:w'.heap[E.Ch]?=some (.chan 0 #[] false sn rc tm):=by rw[vw];exact hc
 have eD:D.set ic au.closer=D:=by obtain⟨hl,e⟩:=List.getElem?_eq_some_iff.1 h1;rw[←e];simp
 have Zt:=h.base.step (g:=g) (g':=g') (r':= .closer) cJ hu RF mX trivial fun _ _ _ _=>⟨sn,rc,tm,tv⟩
 rw[eD] at Zt
 have bX:=runT_crowd_go (P:=E.P) (sl:=sl) (i:=ic+1) hg (by simpa using hgo)
 have Jc:∀b,¬s'.knows b→(∀j,¬(K j).knows b)→∀j,¬(fJ K (ic+1) s' j).knows b:=fun b h1 h2 j=>by
  by_cases e:j=ic+1
  ·subst e;rw[aE];exact h1
  rw[aH _ _ e];exact h2 j
 have old:∀p x,touchAt (t++MemOp.ofEvents (ic+1) g.frame.fn g.frame.place es) p=some x→E.At x→x.kind= .plain→touchAt t p=some x:=fun p x hx hb hk=>by
  rcases bH hx with ⟨_,h'⟩| ⟨_,op,hm,_,yg⟩
  ·exact h'
  exact absurd hk (k8 op hm x yg hb)
 refine⟨_,_,w',_,c',n',bX,⟨Zt,⟨Jc _ bZ h.sy.kW,Jc _ oO h.sy.kC,h.sy.lW,h.sy.lC,h.sy.ne,fun a=>(h.sy.norel a).app fun op az=>iy op az a,fun j hj p x hx hb hk=>(h.sy.plain j hj p x (old p x hx hb hk) hb hk).app _,fun he p x hx hb hk=>?_,nJ,h.sy.Ct,⟨sn,rc,tm,tv⟩,fun sn rc tm hc=>h.sy.bal sn rc tm (by rw[←vw];exact hc),
  ⟨h1,h2,by rw[Deaf_own,h3];exact zf,⟨g',by simp[h.base.size,cJ],by rw[aE];exact pX⟩,V1⟩⟩,?_,?_⟩,aH _ _ (by omega),TN⟩
 ·rcases bH hx with ⟨_,h'⟩| ⟨_,op,hm,_,yg⟩
  ·exact(h.sy.said (Y3 he).1 p x h' hb hk).app _
  exact absurd hk ((Y3 he).2 op hm x yg hb)
 ·rw[fY (by omega) h.main,hm.woken _ _ tv]
 rw[gM _ _ fun op az=>by rw[hu op az];omega];exact h.deaf
theorem Inv.yd(h:Inv E L K gs w t D pend (some (ic,c,n)) main d0)(hm:gF E main){c':CK} 
 (hg:gs[ic+1]?=some g) (hgo:stepG E.P false g w= .go g' w' es) (hw:eI E w w') (zd:∀e∈es,iJ E e) (ze:c'.early→c.early)
 (nJ:∃st sm,WgAt E.ty E.Wg w' st sm∧Md E.max (fo au.cnt D+pend) (fo au.c4 D) (fo au.c3 D) (fo au.c2 D) (some c') st sm)
 (zf:deafBehind c.deaf es=c'.deaf) (pX:c'.at E (K (ic+1)) g' n') (V1:(∃tr,c'= .run tr)→AcqAll E (t++MemOp.ofEvents (ic+1) g.frame.fn g.frame.place es) D ic)
 (TN:E7 (nv E.max (some (ic,c',n'))) (nv E.max (some (ic,c,n)))):
 Tx E L K D pend ic c n main d0 (crowd gs w sl) sl t:=by
 have ho:=iJ.ops zd (ic+1) g.frame.fn g.frame.place
 refine h.goC hm hg hgo hw.same (h.sy.kW _) (h.sy.kC _) (hw.block _ (Ne.symm h.sy.ne)) ?_ (fun op az x hx _=>by rw[((ho op az).2.2 x hx).2];simp) (fun e=>⟨ze e,fun op az x hx _=>by rw[((ho op az).2.2 x hx).2];simp⟩)
  (fun op az=>(ho op az).2.1) nJ zf pX V1 TN
 rw[lX]
 exact h.sy.Bn h.base.fit (.inr ⟨ic,_,rfl,h.sy.E1.1,rfl⟩) hw zd _ _
theorem Inv.DN(h:Inv E L K gs w t D pend (some (ic,c,n)) main d0)(hm:gF E main)(hg:gs[ic+1]?=some g) (TK:∀tr,c≠ .run tr)
 (bW:∀w,E.live w→stepG E.P false g w= .go g' w #[]) (pX:c.at E (K (ic+1)) g' n') (hn:n' <n):Tx E L K D pend ic c n main d0 (crowd gs w sl) sl t:=by
 obtain⟨st,sm,ha,mU⟩:=h.sy.cells
 exact h.yd hm hg (bW w ⟨st,sm,ha⟩) (eI.refl w) (by simp) (fun e=>e) ⟨st,sm,ha,mU⟩ rfl pX (fun⟨tr,e⟩=>absurd e (TK tr)) (Fj hn)
theorem Md.zero{a c:Nat}{k:CK}(h:Md mx n a b c (some k) st sm)(hk:k= .kd∨(∃b,k= .w1 b)∨∃b v,k= .w2 b v):st=(n:Int)*KK∧sm=0∧a=0∧b=0∧c=0∧(∀b,k= .w1 b→n≤b)∧∀b v,k= .w2 b v→n≤v∧1≤v∧v≤b+1:=by
 have nw:¬k.waits∧¬k.over:=by rcases hk with rfl| ⟨_,rfl⟩| ⟨_,_,rfl⟩<;>exact⟨id,id⟩
 cases h with
 |kd=>exact⟨rfl,rfl,rfl,rfl,rfl,(fun _ e=>(by cases e)),(fun _ _ e=>(by cases e))⟩
 |w1 h1=>exact⟨rfl,rfl,rfl,rfl,rfl,(fun _ e=>by cases e;exact h1),(fun _ _ e=>(by cases e))⟩
 |w2 h1 h2 h3=>exact⟨rfl,rfl,rfl,rfl,rfl,(fun _ e=>(by cases e)),(fun _ _ e=>by cases e;exact⟨h1,h2,h3⟩)⟩
 |reg h1 _=>exact absurd h1 nw.1
 |l4 h1=>exact absurd h1 nw.1
 |l3 h1=>exact absurd h1 nw.1
 |l2 h1=>exact absurd h1 nw.1
 |sema h1 _=>exact absurd h1 nw.1
 |over h1=>exact absurd h1 nw.2
theorem Md.waiting{a c:Nat}{k k':CK}(h:Md mx n a b c (some k) st sm)(hk:k.waits)(jJ:k'.waits)(hb:k'≠ .blk∨sm=0):Md mx n a b c (some k') st sm:=by
 cases h with
 |kd=>exact hk.elim
 |w1 _=>exact hk.elim
 |w2 _ _ _=>exact hk.elim
 |reg _ h2=>exact .reg jJ h2
 |l4 _=>exact .l4 jJ
 |l3 _=>exact .l3 jJ
 |l2 _=>exact .l2 jJ
 |sema _ _=>exact .sema jJ (hb.resolve_right (by decide))
 |over h1=>cases k<;>first|exact hk.elim|exact h1.elim
theorem Md.up{a c:Nat}{k:CK}(h:Md mx n a b c (some k) st sm)(hk:k.waits):(∃x,x=st∧sm=0)∨(st=0∧sm=1∧n=0∧a=0∧b=0∧c=0):=by
 cases h with
 |kd=>exact hk.elim
 |w1 _=>exact hk.elim
 |w2 _ _ _=>exact hk.elim
 |reg _ _=>exact .inl ⟨_,rfl,rfl⟩
 |l4 _=>exact .inl ⟨_,rfl,rfl⟩
 |l3 _=>exact .inl ⟨_,rfl,rfl⟩
 |l2 _=>exact .inl ⟨_,rfl,rfl⟩
 |sema _ _=>exact .inr ⟨rfl,rfl,rfl,rfl,rfl,rfl⟩
 |over h1=>cases k<;>first|exact hk.elim|exact h1.elim
theorem aaS:(∀e∈ #[said .disable],iJ E e)∧(∀e∈ #[said .enable],iJ E e)∧(∀e∈ #[said (.acquire (stA E.Wg))],iJ E e)∧(∀e∈ #[rd (stA E.Wg)],iJ E e)∧(∀e∈ #[rd (stA E.Wg),wr (stA E.Wg)],iJ E e)∧(∀e∈semEvents (smA E.Wg),iJ E e):=by
 refine⟨?_,?_,?_,?_,?_,?_⟩
 ·intro e he;simp at he;subst he;exact .inl rfl
 ·intro e he;simp at he;subst he;exact .inr (.inl rfl)
 ·intro e he;simp at he;subst he;exact .inr (.inr (.inr (.inl rfl)))
 ·intro e he;simp at he;subst he;exact n5 0 _
 ·intro e he;simp at he;rcases he with rfl|rfl<;>exact n5 0 _
 intro e he;simp[semEvents] at he
 rcases he with rfl|rfl|rfl|rfl
 ·exact .inl rfl
 ·exact n5 1 _
 ·exact n5 1 _
 exact .inr (.inl rfl)
end
section
variable {ι:Type} {E:dO ι} {L:Nat→Option Obj} {K:Nat→St} {gs:Array Goroutine} {w w':World} {t u:Trace} {D:List (au ι)} {pend d0:Nat} {main:Goroutine} {sl:Option (Nat×Nat)}
 {ic:Nat} {g g':Goroutine} {es:Array Event} {c:CK} {n:Nat}
theorem Inv.closer(h:Inv E L K gs w t D pend (some (ic,c,n)) main d0)(hm:gF E main)(hg:gs[ic+1]?=some g) (hs:g.status= .running) (TK:c≠ .run .leaf):
 Tx E L K D pend ic c n main d0 (crowd gs w sl) sl t:=by
 obtain⟨_,_,zf,⟨gc,Fw,pX⟩,V1⟩:=h.sy.E1
 obtain rfl:gc=g:=by rw[hg] at Fw;exact(Option.some.inj Fw).symm
 obtain⟨st,sm,ha,mU⟩:=h.sy.cells
 obtain⟨s1,s2,s3,s4,s5,s6⟩:=aaS (E:=E)
 cases c with
 |kd=>
  cases n with
  |succ n=>obtain⟨_,g',bW,hp⟩:=pX;exact h.DN hm hg (by simp) bW hp (Nat.lt_succ_self n)
  |zero=>
   obtain⟨_,g',bW,n',hp⟩:=pX
   obtain⟨rfl,rfl,e4,e3,e2,_⟩:=mU.zero (.inl rfl)
   refine h.yd hm (c':= .w1 E.max) hg (bW w) (eI.refl w) s1 (fun _=>trivial) ⟨_,_,ha,?_⟩ rfl hp (fun⟨_,e⟩=>(by cases e)) (fR (by simp[nv,CK.phi]))
   rw[e4,e3,e2];exact .w1 h.sy.Ct
 |w1 b=>
  cases n with
  |succ n=>
   have:∃g',(∀w,E.live w→stepG E.P false gc w= .go g' w #[])∧Pure E.P false E.live (E.W1 (K (ic+1)) b) n g':=pX.2
   obtain⟨g',bW,hp⟩:=this
   exact h.DN hm hg (by simp) bW hp (Nat.lt_succ_self n)
  |zero=>
   obtain⟨rfl,rfl,e4,e3,e2,hb,_⟩:=mU.zero (.inr (.inl ⟨b,rfl⟩))
   have hle:=hb b rfl
   rw[e4,e3,e2] at mU
   have out:(∃g',(∀w,WgAt E.ty E.Wg w 0 0→stepG E.P false gc w= .go g' w #[rd (stA E.Wg)])∧E.pure false (E.Ke (K (ic+1))) g')→fo au.cnt D+pend=0→Tx E L K D pend ic (.w1 b) 0 main d0 (crowd gs w sl) sl t:=by
    rintro⟨g',bW,n',hp⟩ h0
    rw[h0] at ha
    have uV:WgAt E.ty E.Wg w 0 0:=by simpa using ha
    refine h.yd hm (c':= .ke) hg (bW w uV) (eI.refl w) s4 (fun e=>e.elim) ⟨_,_,uV,?_⟩ rfl hp (fun⟨_,e⟩=>(by cases e)) (fR (by simp[nv,CK.phi]))
    rw[e4,e3,e2,h0];exact .over trivial
   cases b with
   |zero=>exact out pX.2 (by omega)
   |succ b=>
    obtain⟨_,h0,hv⟩:=pX
    by_cases hz:fo au.cnt D+pend=0
    ·exact out h0 hz
    obtain⟨g',bW,n',hp⟩:=hv (fo au.cnt D+pend) (by omega) hle
    refine h.yd hm (c':= .w2 b (fo au.cnt D+pend)) hg (bW w ha) (eI.refl w) s4 (fun _=>trivial) ⟨_,_,ha,?_⟩ rfl hp (fun⟨_,e⟩=>(by cases e)) (fR (by simp only[nv,CK.phi];omega))
    rw[e4,e3,e2];exact .w2 (Nat.le_refl _) (by omega) hle
 |w2 b v=>
  cases n with
  |succ n=>obtain⟨_,g',bW,hp⟩:=pX;exact h.DN hm hg (by simp) bW hp (Nat.lt_succ_self n)
  |zero=>
   obtain⟨rfl,rfl,e4,e3,e2,_,hb⟩:=mU.zero (.inr (.inr ⟨b,v,rfl⟩))
   obtain⟨h1,h2,h3⟩:=hb b v rfl
   obtain⟨_,⟨eY,aQK,n1,hp1⟩,aFU⟩:=pX
   by_cases hv:fo au.cnt D+pend=v
   ·rw[hv] at ha
    refine h.yd hm (c':= .wr) hg (aQK w ha) (eI.set w 0 _) s5 (fun _=>trivial) ⟨_,_,Go.ConcR.WgAt.setSt ha _,?_⟩ rfl hp1 (fun⟨_,e⟩=>(by cases e)) (fR (by simp only[nv,CK.phi];omega))
    rw[e4,e3,e2,hv];exact .reg trivial h2
   obtain⟨qy,aQJ,n2,TH⟩:=aFU (fo au.cnt D+pend) (by omega)
   refine h.yd hm (c':= .w1 b) hg (aQJ w ha) (eI.refl w) s4 (fun _=>trivial) ⟨_,_,ha,?_⟩ rfl TH (fun⟨_,e⟩=>(by cases e)) (fR (by simp only[nv,CK.phi];omega))
   rw[e4,e3,e2];exact .w1 (by omega)
 |wr=>
  cases n with
  |succ n=>obtain⟨_,g',bW,hp⟩:=pX;exact h.DN hm hg (by simp) bW hp (Nat.lt_succ_self n)
  |zero=>
   obtain⟨_,g',bW,n',hp⟩:=pX
   have e1:MemOp.ofEvents (ic+1) gc.frame.fn gc.frame.place #[said (.write (smA E.Wg))]= #[{g:=ic+1,fn:=gc.frame.fn,pos:=gc.frame.place,act:= .mark (.write (smA E.Wg))}]:=by rw[ofEvents_eq];simp[said,Go.ConcR.ofEvent_mk]
   refine h.goC hm (c':= .w3) (n':=n'+1) (s':=K (ic+1)) hg (bW w) ⟨rfl,rfl⟩ (h.sy.kW _) (h.sy.kC _) rfl ?_ (fun op az x hx _=>?_) (fun e=>e.elim) (fun op az=>?_)
    ⟨_,_,ha,mU.waiting trivial trivial (.inl (by simp))⟩ rfl ⟨n',rfl,hp⟩ (fun⟨_,e⟩=>(by cases e)) (fR (by simp[nv,CK.phi]))
   ·rw[lX,e1]
    refine h.base.fit.beside E.Wg (ic+1) h.sy.kW h.sy.lW (lt_size ha) (Nat.le_refl _) (fun _ _ _=>rfl) (by simp) fun op az x hx=>?_
    simp only[List.mem_toArray,List.mem_singleton] at az
    subst az
    simp only[MemAct.touch?,Option.some.injEq] at hx
    subst hx
    refine⟨rfl,fun sd p a uV hc=>?_⟩
    have hl:blk a.loc=some E.Wg:=by rw[hc.1];rfl
    rcases hc.2.2.2 with h3|h3|h3
    ·exact h.sy.plain _ (.inr ⟨ic,_,rfl,h.sy.E1.1,rfl⟩) p a uV (.inl hl) h3
    ·cases h3
    exact h.sy.said trivial p a uV hl h3.2.1
   ·rw[e1] at az
    simp only[List.mem_toArray,List.mem_singleton] at az
    subst az
    simp only[MemAct.touch?,Option.some.injEq] at hx
    subst hx
    simp
   rw[e1] at az
   simp only[List.mem_toArray,List.mem_singleton] at az
   subst az
   simp
 |w3=>
  obtain⟨m,rfl,hp⟩:=pX
  cases m with
  |succ m=>obtain⟨_,g',bW,hp⟩:=hp;exact h.DN hm hg (by simp) bW ⟨m,rfl,hp⟩ (Nat.lt_succ_self _)
  |zero=>
   have hp0:E.W3 (K (ic+1)) gc:=hp
   obtain⟨h1,h2,hb,g',bW,n',hp⟩:=hp
   rcases mU.up trivial with ⟨_,rfl,rfl⟩| ⟨rfl,rfl,e1,e4,e3,e2⟩
   ·refine h.yd hm (c':= .blk) (n':=0) hg (hb w _ ha) (eI.refl w) (by simp) (fun e=>e.elim) ⟨_,_,ha,mU.waiting trivial trivial (.inr rfl)⟩ rfl ⟨rfl,gc,hp0,rfl⟩ (fun⟨_,e⟩=>(by cases e)) (Fj (Nat.lt_succ_self 0))
   refine h.yd hm (c':= .w4) hg (bW w ha) (eI.set w 1 _) s6 (fun e=>e.elim) ⟨_,_,Go.ConcR.WgAt.setSm ha _,?_⟩ rfl hp (fun⟨_,e⟩=>(by cases e)) (fR (by simp[nv,CK.phi]))
   rw[e1,e4,e3,e2];exact .over trivial
 |blk=>
  obtain⟨_,vg,_,e⟩:=pX
  rw[e] at hs;cases hs
 |w4=>
  obtain⟨e1,e4,e3,e2,rfl,rfl⟩:=mU.run rfl trivial
  cases n with
  |succ n=>obtain⟨_,g',bW,hp⟩:=pX;exact h.DN hm hg (by simp) bW hp (Nat.lt_succ_self n)
  |zero=>
   obtain⟨_,g',bW,n',hp⟩:=pX
   refine h.yd hm (c':= .ke) hg (bW w ha) (eI.refl w) s4 (fun e=>e.elim) ⟨_,_,ha,?_⟩ rfl hp (fun⟨_,e⟩=>(by cases e)) (fR (by simp[nv,CK.phi]))
   rw[e1,e4,e3,e2];exact .over trivial
 |ke=>
  obtain⟨e1,e4,e3,e2,rfl,rfl⟩:=mU.run rfl trivial
  cases n with
  |succ n=>obtain⟨_,g',bW,hp⟩:=pX;exact h.DN hm hg (by simp) bW hp (Nat.lt_succ_self n)
  |zero=>
   obtain⟨_,g',bW,n',hp⟩:=pX
   refine h.yd hm (c':= .aq) hg (bW w) (eI.refl w) s2 (fun e=>e.elim) ⟨_,_,ha,?_⟩ rfl hp (fun⟨_,e⟩=>(by cases e)) (fR (by simp[nv,CK.phi]))
   rw[e1,e4,e3,e2];exact .over trivial
 |aq=>
  obtain⟨e1,e4,e3,e2,rfl,rfl⟩:=mU.run rfl trivial
  cases n with
  |succ n=>obtain⟨_,g',bW,hp⟩:=pX;exact h.DN hm hg (by simp) bW hp (Nat.lt_succ_self n)
  |zero=>
   obtain⟨_,g',bW,tr,iq,hle,hp⟩:=pX
   have q1:MemOp.ofEvents (ic+1) gc.frame.fn gc.frame.place #[said (.acquire (stA E.Wg))]= #[{g:=ic+1,fn:=gc.frame.fn,pos:=gc.frame.place,act:= .mark (.acquire (stA E.Wg))}]:=by rw[ofEvents_eq];simp[said,Go.ConcR.ofEvent_mk]
   have hy:(t++ #[({g:=ic+1,fn:=gc.frame.fn,pos:=gc.frame.place,act:= .mark (.acquire (stA E.Wg))}:MemOp)])[t.size]?=some {g:=ic+1,fn:=gc.frame.fn,pos:=gc.frame.place,act:= .mark (.acquire (stA E.Wg))}:=by simp
   refine h.goC hm (c':= .run tr) (n':=0) (s':=iq) hg (bW w) ⟨rfl,rfl⟩ (fun hk=>h.sy.kW _ (hle.knows hk)) (fun hk=>h.sy.kC _ (hle.knows hk)) rfl ?_
    (fun op az x hx _=>by rw[((iJ.ops s3 _ _ _ op az).2.2 x hx).2];simp) (fun e=>e.elim) (fun op az=>(iJ.ops s3 _ _ _ op az).2.1) ⟨_,_,ha,?_⟩ rfl ⟨rfl,hp⟩ (fun _=>?_) (fR (by simp[nv,CK.phi]))
   ·refine(h.sy.Bn h.base.fit (.inr ⟨ic,_,rfl,h.sy.E1.1,rfl⟩) (eI.refl w) s3 _ _).le fun j=>?_
    by_cases e:j=ic+1
    ·subst e;rw[aE];exact hle
    rw[aH _ _ e];exact St.le_refl _
   ·rw[e1,e4,e3,e2];exact .over trivial
   rw[q1]
   refine⟨t.size,by rw[act?_of hy],by simp[Trace.g?],⟨ic+1,by simp[Trace.g?],by rw[deaf_old (Nat.le_refl _)];exact zf⟩,fun i r hi hc=>?_⟩
   obtain⟨x,hx,fe⟩:=h.base.ok i r hi
   cases r with
   |leave q d cur=>
    obtain⟨p,hp⟩:=fe.2.2.2.1 hc
    have dI:i≠ic:=fun e=>by subst e;rw[h.sy.E1.1] at hi;cases hi
    refine⟨p,RelBy.other hp (fun op az=>by simp at az;subst az;simp;omega),lt_of_act? hp.act⟩
   |_=>cases hc
 |run tr=>
  obtain⟨e1,e4,e3,e2,rfl,rfl⟩:=mU.run rfl trivial
  obtain⟨rfl,hp⟩:=pX
  cases tr with
  |leaf=>exact absurd rfl TK
  |node f=>
   obtain⟨_,gA⟩:=hp
   obtain⟨g',w',es,s',bW,bX,ht,htr⟩:=gA w (h.base.fit.jL _)
   obtain⟨k1,k2,k3,k4,k5,k6⟩:=h.sy.AS ht gc.frame.fn gc.frame.place
   refine h.goC hm (c':= .run (f w)) (n':=0) hg bW ⟨ht.os,ht.output⟩ k1 k2 k4 (h.base.fit.own ht _ _) (fun op az x hx hb=>absurd hb (k5 op az x hx)) (fun e=>e.elim) k6
    ⟨0,0,by unfold WgAt;rw[k3];exact ha,by rw[e1,e4,e3,e2];exact .over trivial⟩ (ht.deaf _) ⟨rfl,htr⟩ (fun _=>?_) (G3 (.mk f w))
   have:=(V1 ⟨_,rfl⟩).step (r:= .closer) (r':= .closer) h.sy.E1.1 (u:=MemOp.ofEvents (ic+1) gc.frame.fn gc.frame.place es) (fun op az=>Go.ConcR.g_of_ofEvents op az) (fun e=>e) (fun e=>(by cases e))
   rwa[show D.set ic au.closer=D from by obtain⟨hl,e⟩:=List.getElem?_eq_some_iff.1 h.sy.E1.1;rw[←e];simp] at this
end
section
variable {ι:Type} {E:dO ι} {L:Nat→Option Obj} {K:Nat→St} {gs:Array Goroutine} {w w':World} {t u:Trace} {D:List (au ι)} {pend d0:Nat} {cl:Ar} {main:Goroutine} {sl:Option (Nat×Nat)}
 {i:Nat} {g g':Goroutine} {es:Array Event}
theorem JC(h:g.offers=none)(r:Nat)(send:Bool):offersAt g r send=[]:=by
 unfold offersAt
 split
 ·rename_i h';rw[h] at h';cases h'
 rfl
theorem rk(h:g.status= .running∨g.status= .finished)(r:Nat)(send:Bool):offersAt g r send=[]:=
 offersAt_of_not_blocked (by rcases h with h|h<;>rw[h]<;>simp) r send
theorem Inv.offers(h:Inv E L K gs w t D pend cl main d0){x:Goroutine}(hj:gs[j+1]?=some x):
 (∃o qy v zs,D[j]?=some (.gz o)∧x=parked qy #[scase E.Ch v zs] .send)∨∀r send,offersAt x r send=[]:=by
 have cJ:j <D.length:=by have:=lt_size hj;have:=h.base.size;omega
 have hD:D[j]?=some D[j]:=List.getElem?_eq_getElem cJ
 obtain⟨y,hy,fe⟩:=h.base.ok j _ hD
 obtain rfl:y=x:=by rw[hj] at hy;exact(Option.some.inj hy).symm
 by_cases hb:∃o,D[j]= .gz o
 ·obtain⟨o,e⟩:=hb
  rw[e] at fe
  obtain⟨_,vg,qy,v,zs,X,Y,rfl,_⟩:=fe
  exact .inl ⟨o,qy,v,zs,by rw[hD,e],rfl⟩
 right
 by_cases hc:D[j]= .closer
 ·have iY:=h.sy.E1
  match cl,iY with
  |none,iY=>
   have:=iY D[j] (List.mem_of_getElem? hD)
   rw[hc] at this
   exact this.elim
  |some (ic,c,n),⟨_,h2,_,⟨gc,Fw,pX⟩,_⟩=>
   have e:=h2 j (by rw[hD,hc])
   subst e
   obtain rfl:gc=y:=by rw[hj] at Fw;exact(Option.some.inj Fw).symm
   intro r send
   by_cases aiy:c= .blk
   ·subst aiy
    obtain⟨_,vg,arP,e⟩:=pX
    exact JC (by rw[e];exact arP.2.1) r send
   exact rk (.inl (CK.uD pX aiy)) r send
 exact rk (fe.running (fun o e=>hb ⟨o,e⟩) hc)
theorem Inv.aaP(h:Inv E L K gs w t D pend cl main d0)(hm:main.status= .running){o:ι}(hi:D[i]?=some (.work o .leaf)) (hg:gs[i+1]?=some g):
 qN E L K D pend cl main d0 (crowd gs w sl) sl t (i+1):=by
 obtain⟨eY,dk,fe⟩:=h.base.ok i _ hi
 obtain rfl:eY=g:=by rw[hg] at dk;exact(Option.some.inj dk).symm
 obtain⟨hd,hs,qy,v,zs,X,Y,hXY,oD,bW,yj⟩:=fe
 obtain⟨sn,rc,tm,hc⟩:=h.sy.chan
 have CW:partners (gs.setIfInBounds (i+1) ph) E.Ch false=[]:=partners_nil fun j x hx=>by
  rcases getElem?_stand gs _ _ _ hx with ⟨_,rfl⟩| ⟨_,k7⟩
  ·exact offersAt_ph _ _
  cases j with
  |zero=>
   have:x=main:=by rw[h.main] at k7;exact(Option.some.inj k7).symm
   subst this
   exact rk (.inl hm) _ _
  |succ j=>
   rcases h.offers k7 with ⟨o',g',v',zs',_,rfl⟩|hn
   ·exact offersAt_parked_send' _ _ _ _ _ _
   exact hn _ _
 have bX:=crowd_waits (sl:=sl) hg (by simpa using bW w (h.base.fit.jL _)) (fun cc uU=>by
  simp only[List.mem_toArray,List.mem_singleton] at uU
  subst uU
  exact ways_send_none hc (Nat.le_refl 0) CW)
 have e0:MemOp.ofEvents (i+1) eY.frame.fn eY.frame.place #[]= #[]:=rfl
 rw[e0] at bX
 have ew:gs.map (woken E.P eY (parked qy #[scase E.Ch v zs] .send) w)=gs:=by
  have:woken E.P eY (parked qy #[scase E.Ch v zs] .send) w=id:=by funext x;simp[Go.Conc.woken,parked]
  rw[this,Array.map_id]
 refine h.go' (.inl hm) (r':= .gz o) (s':=K (i+1)) (w':=w) (g':=parked qy #[scase E.Ch v zs] .send) (u:= #[]) hi (by simp) (by simp) hg (by simp) (by rw[ew];exact bX) ⟨rfl,rfl⟩ (h.sy.kW _) (h.sy.kC _) rfl ?_ ?_ (by simp) (by simp)
  (fun _=>rfl) (fun e=>e) (fun _ e=>e) (fun e=>(by cases e)) (Nat.le_refl _) rfl (fR (by simp[au.mu])) (fun cl' hw _=>h.qG (r':= .gz o) hi rfl rfl rfl rfl rfl cl' hw) fun _=>hm
 ·rw[lX,Array.append_empty];exact h.base.fit
 rw[Array.append_empty];exact⟨hd,qy,qy,v,zs,X,Y,rfl,hXY,oD,rfl,yj⟩
theorem Inv.norm(h:Inv E L K gs w t D pend cl main d0)(hi:D[i]?=some (.back .leaf)):
 ∃n,Inv E L (fJ K (i+1) ⟨fun _=>none,[]⟩) gs w t (D.set i (.st .r0 n)) pend cl main d0∧kM (D.set i (.st .r0 n))=kM D∧One uF (D.set i (.st .r0 n)) D:=by
 obtain⟨g,hg,hd,n,hp⟩:=h.base.ok i _ hi
 have cJ:=(List.getElem?_eq_some_iff.1 hi).1
 have oY:∀ {k x},(D.set i (au.st .r0 n))[k]?=some x→(k=i∧x= .st .r0 n)∨(k≠i∧D[k]?=some x):=fun {k x} hk=>by
  by_cases e:k=i
  ·subst e
   exact .inl ⟨rfl,by simpa [List.getElem?_set,cJ] using hk.symm⟩
  rw[List.getElem?_set_ne (Ne.symm e)] at hk;exact .inr ⟨e,hk⟩
 have hle:∀j,(fJ K (i+1) ⟨fun _=>none,[]⟩ j).le (K j):=fun j=>by
  by_cases e:j=i+1
  ·subst e;rw[aE];exact⟨(K (i+1)).rw,by simp,fun b o hb=>(by cases hb)⟩
  rw[aH _ _ e];exact St.le_refl _
 have iM:cl≠none:=fun e=>by
  have:=h.sy.E1
  subst e
  exact this _ (List.mem_of_getElem? hi)
 refine⟨n,⟨⟨h.base.fit.le hle,by simp[h.base.size],fun k r hk=>?_,fun k hk b hb=>h.base.far k hk b ((hle k).knows hb),h.base.ops,h.base.same⟩,
  ⟨fun j hj=>h.sy.kW j ((hle j).knows hj),fun j hj=>h.sy.kC j ((hle j).knows hj),h.sy.lW,h.sy.lC,h.sy.ne,h.sy.norel,fun j hj=>h.sy.plain j ?_,h.sy.said,?_,?_,h.sy.chan,h.sy.bal,?_⟩,h.main,h.deaf⟩,GQ (r:= .back .leaf) (r':= .st .r0 n) rfl hi,One.set hi (fR (by simp[au.mu,WK.MZ]))⟩
 ·rcases oY hk with ⟨rfl,rfl⟩| ⟨dI,jJ⟩
  ·exact⟨g,hg,by rw[aE],hd,hp,fun e=>(by cases e)⟩
  rw[aH _ _ (by omega)];exact h.base.ok k r jJ
 ·rcases hj with hj| ⟨k,r,rfl,hk,hl⟩
  ·exact .inl hj
  rcases oY hk with ⟨rfl,rfl⟩| ⟨_,jJ⟩
  ·exact .inr ⟨_,_,rfl,hi,rfl⟩
  exact .inr ⟨k,r,rfl,jJ,hl⟩
 ·obtain⟨st,sm,ha,mU⟩:=h.sy.cells
  exact⟨st,sm,ha,MF hi rfl rfl rfl rfl mU⟩
 ·have:=jH au.cnt (y:=au.st .r0 n) hi
  have e:(au.st (ι:=ι) .r0 n).cnt=(au.back (ι:=ι) .leaf).cnt:=rfl
  have:=h.sy.Ct
  omega
 have iY:=h.sy.E1
 match cl,iY,iM with
 |some (ic,c,m),⟨h1,h2,h3,⟨gc,Fw,pX⟩,h5⟩,_=>
  have dI:ic≠i:=fun e=>by subst e;rw[hi] at h1;cases h1
  refine⟨by rw[List.getElem?_set_ne (Ne.symm dI)];exact h1,fun k hk=>?_,h3,⟨gc,Fw,by rw[aH _ _ (by omega)];exact pX⟩,fun hr=>?_⟩
  ·rcases oY hk with ⟨_,e⟩| ⟨_,jJ⟩
   ·cases e
   exact h2 k jJ
  have:=(h5 hr).step (u:= #[]) (r':= .st .r0 n) hi (by simp) (fun e=>(by cases e)) (fun e=>(by cases e))
  rwa[Array.append_empty] at this
end
section
variable {ι:Type} {E:dO ι} {L:Nat→Option Obj} {K:Nat→St} {gs lh:Array Goroutine} {w w':World} {t u:Trace} {D:List (au ι)} {pend d0:Nat} {cl:Ar} {main main':Goroutine} {sl:Option (Nat×Nat)}
 {i:Nat} {g g':Goroutine} {es:Array Event}
theorem fU(t:Trace)(g:Nat)(u:Trace)(hu:∀op∈u,∀m,op.act≠ .mark m):Deaf (t++u) g=Deaf t g:=by
 obtain⟨l⟩:=u
 rw[Deaf_append]
 induction l generalizing t with
 |nil=>rfl
 |cons y l ih=>
  have hy:=hu y (by simp)
  have e1:deafStep g (Deaf t g) y=Deaf t g:=by
   unfold deafStep
   split
   ·rename_i e;exact absurd e (hy _)
   ·rename_i e;exact absurd e (hy _)
   rfl
  rw[List.foldl_cons,e1]
  exact ih t (fun op az=>hu op (by simp at az ⊢;exact .inr az))
theorem Cn{o:ι}{r':au ι}(ho:r'.Yd=none):∀ {D:List (au ι)} {i:Nat} {r:au ι},D[i]?=some r→r.Yd=some o→∃a b,kM D=a++o::b∧kM (D.set i r')=a++b
 | [],i,r,h,_=>by simp at h
 |x::D,0,r,h,hr=>by
  simp only[List.getElem?_cons_zero,Option.some.injEq] at h;subst h
  exact⟨[],kM D,by simp[kM,hr],by simp[kM,ho]⟩
 |x::D,i+1,r,h,hr=>by
  obtain⟨a,b,h1,h2⟩:=Cn ho (D:=D) (i:=i) (by simpa using h) hr
  cases hx:x.Yd with
  |none=>exact⟨a,b,by simp only[kM,List.filterMap_cons,hx] at h1 ⊢;exact h1,by simp only[kM,List.set_cons_succ,List.filterMap_cons,hx] at h2 ⊢;exact h2⟩
  |some y=>exact⟨y::a,b,by simp only[kM,List.filterMap_cons,hx] at h1 ⊢;rw[h1];rfl,by simp only[kM,List.set_cons_succ,List.filterMap_cons,hx] at h2 ⊢;rw[h2];rfl⟩
theorem Inv.meet(h:Inv E L K gs w t D pend cl main 0)(iM:cl≠none){r:au ι}{o:ι}{X Y:List (Nat×Obj)}{tr:Tree}{gw:Goroutine}(hi:D[i]?=some r) (hr:r= .work o .leaf∨r= .gz o)
 (hd:Deaf t (i+1)=0) (hXY:(K (i+1)).rw.Perm (X++Y)) (hle:iq.le ⟨(K (i+1)).ro,Y⟩) (hb:oN E.P false E.IZ tr gw iq)
 (u9:lh.size=gs.size) (h0:lh[0]?=some main') (hw1:lh[i+1]?=some gw) (hgs:∀k,k≠0→k≠i+1→lh[k]?=gs[k]?)
  (hc:w.heap[E.Ch]?=some (.chan 0 #[] false sn rc tm)) (tv:w'.heap[E.Ch]?=some (.chan 0 #[] false (sn+1) (rc+1) tm)) (si:w'.heap.size=w.heap.size) (hwb:∀b,b≠E.Ch→w'.heap[b]?=w.heap[b]?) (RF:Xh w w')
 {a0 a1 a2 a3:MemOp} (e0:a0.g=i+1∧a0.act= .send E.Ch sn) (e1:a1.g=0∧a1.act= .recv E.Ch rc 0) (e2:a2.g=i+1∧a2.act= .sendDone E.Ch sn) (e3:a3.g=0∧a3.act= .recvDone E.Ch rc):
 Inv E L (fJ (fJ K (i+1) iq) 0 ⟨(K 0).ro,X++(K 0).rw⟩) lh w' (t++ #[a0,a1,a2,a3]) (D.set i (.back tr)) pend cl main' 0:=by
 have cJ:=(List.getElem?_eq_some_iff.1 hi).1
 have axX:=h.sy.bal _ _ _ hc
 subst axX
 have oY:∀ {k x},(D.set i (au.back tr))[k]?=some x→(k=i∧x= .back tr)∨(k≠i∧D[k]?=some x):=fun {k x} hk=>by
  by_cases e:k=i
  ·subst e
   exact .inl ⟨rfl,by simpa [List.getElem?_set,cJ] using hk.symm⟩
  rw[List.getElem?_set_ne (Ne.symm e)] at hk;exact .inr ⟨e,hk⟩
 have hu:∀op∈ #[a0,a1,a2,a3],op.g=i+1∨op.g=0:=by intro op az;simp at az;rcases az with rfl|rfl|rfl|rfl<;>simp[e0.1,e1.1,e2.1,e3.1]
 have hq:∀op∈ #[a0,a1,a2,a3],op.act.touch?=none:=by intro op az;simp at az;rcases az with rfl|rfl|rfl|rfl<;>simp[e0.2,e1.2,e2.2,e3.2,MemAct.touch?]
 have JO:∀op∈ #[a0,a1,a2,a3],∀m,op.act≠ .mark m:=by intro op az;simp at az;rcases az with rfl|rfl|rfl|rfl<;>simp[e0.2,e1.2,e2.2,e3.2]
 have zf:∀k,Deaf (t++ #[a0,a1,a2,a3]) k=Deaf t k:=fun k=>fU t k _ JO
 have p0:(t++ #[a0,a1,a2,a3])[t.size]?=some a0:=by simp
 have p3:(t++ #[a0,a1,a2,a3])[t.size+3]?=some a3:=by simp
 have hear:∀k (hk:k≤3) (op:MemOp),(t++ #[a0,a1,a2,a3])[t.size+k]?=some op→op.g=i+1∨op.g=0→Deaf t (i+1)=0→Deaf t 0=0→(t++ #[a0,a1,a2,a3]).heard (t.size+k):=by
  intro k hk op ho hg h1 h2
  refine⟨op.g,by simp only[Trace.g?,ho,Option.map_some],?_⟩
  have key:∀k,k≤3→∀q,Deaf t q=0→(t++ #[a0,a1,a2,a3]).deaf q (t.size+k)=0:=by
   intro k
   induction k with
   |zero=>intro _ q hq;rw[Nat.add_zero,deaf_old (Nat.le_refl _)];exact hq
   |succ k ih=>
    intro hk q Fs
    have cJ:t.size+k <(t++ #[a0,a1,a2,a3]).size:=by simp;omega
    have hm:(t++ #[a0,a1,a2,a3])[t.size+k]?=some (t++ #[a0,a1,a2,a3])[t.size+k]:=Array.getElem?_eq_getElem cJ
    have Ak:(t++ #[a0,a1,a2,a3])[t.size+k]∈ #[a0,a1,a2,a3]:=by
     rcases getElem?_append_cases hm with ⟨h',_⟩| ⟨_,h'⟩
     ·omega
     exact h'
    rw[show t.size+(k+1)=t.size+k+1 by omega,deaf_succ hm,ih (by omega) q Fs]
    have hn:=JO _ Ak
    unfold deafStep
    split
    ·rename_i e;exact absurd e (hn _)
    ·rename_i e;exact absurd e (hn _)
    rfl
  rcases hg with hg|hg<;>rw[hg]
  ·exact key k hk _ h1
  exact key k hk _ h2
 have acy:HappensBefore (t++ #[a0,a1,a2,a3]) t.size (t.size+3):=
  .single (.inr ⟨.handOver (c:=E.Ch) (k:=sn) (by rw[act?_of p0,e0.2]) (by rw[act?_of p3,e3.2]),hear 0 (by omega) a0 p0 (.inl e0.1) hd h.deaf,hear 3 (by omega) a3 p3 (.inr e3.1) hd h.deaf⟩)
 have aUJ:Fit L K w' (t++ #[a0,a1,a2,a3]):=h.base.fit.quiet E.Ch h.sy.kC h.sy.lC (Nat.le_of_eq si.symm) (fun b hb _=>hwb b hb) hq
 have kP:∀b o,(b,o)∈X→(K (i+1)).iW b:=fun b o hm=>⟨o,hXY.mem_iff.2 (by simp[hm])⟩
 have aUI:=aUJ.hand (i:=0) (j:=i+1) (by omega) X Y hXY fun b o hm p x hx hxb=>by
  rcases bH hx with ⟨hp,k7⟩| ⟨_,op,TO,_,yg⟩
  ·have k1:=h.base.fit.perm (i+1) b (kP b o hm) p x k7 hxb
   exact⟨t.size+3,a3,p3,e3.1,.inr ((k1.hb_new (Nat.le_refl _) p0 e0.1).trans acy)⟩
  rw[hq op TO] at yg;cases yg
 have aUH:Fit L (fJ (fJ K (i+1) iq) 0 ⟨(K 0).ro,X++(K 0).rw⟩) w' (t++ #[a0,a1,a2,a3]):=aUI.le fun j=>by
  by_cases e:j=0
  ·subst e;rw[aE,aE];exact St.le_refl _
  rw[aH _ _ e,aH _ _ e]
  by_cases e':j=i+1
  ·subst e';rw[aE,aE];exact hle
  rw[aH _ _ e',aH _ _ e'];exact St.le_refl _
 have Jc:∀b,(∀j,¬(K j).knows b)→∀j,¬(fJ (fJ K (i+1) iq) 0 ⟨(K 0).ro,X++(K 0).rw⟩ j).knows b:=fun b hb j hk=>by
  by_cases e:j=0
  ·subst e;rw[aE] at hk
   rcases hk with hk| ⟨o,ho⟩
   ·exact hb 0 (.inl hk)
   rcases List.mem_append.1 ho with h'|h'
   ·exact hb (i+1) (.inr (kP b o h'))
   exact hb 0 (.inr ⟨o,h'⟩)
  rw[aH _ _ e] at hk
  by_cases e':j=i+1
  ·subst e';rw[aE] at hk
   rcases hle.knows hk with hk| ⟨o,ho⟩
   ·exact hb (i+1) (.inl hk)
   exact hb (i+1) (.inr ⟨o,hXY.mem_iff.2 (by simp[ho])⟩)
  rw[aH _ _ e'] at hk;exact hb j hk
 have JW:r.cnt=1∧r.c4=0∧r.c3=0∧r.c2=0:=by rcases hr with rfl|rfl<;>exact⟨rfl,rfl,rfl,rfl⟩
 refine⟨⟨aUH,by rw[u9];simp[h.base.size],fun k x hk=>?_,fun k hk b hb=>?_,fun op az=>?_,⟨RF.1.trans h.base.same.1,RF.2.trans h.base.same.2⟩⟩,
  ⟨Jc _ h.sy.kW,Jc _ h.sy.kC,h.sy.lW,h.sy.lC,h.sy.ne,fun a=>(h.sy.norel a).app fun op az=>JO op az _,fun j hj p x hx hxb hk=>?_,?_,?_,?_,⟨_,_,_,tv⟩,fun a b c hx=>?_,?_⟩,h0,by rw[zf];exact h.deaf⟩
 ·rcases oY hk with ⟨rfl,rfl⟩| ⟨dI,jJ⟩
  ·exact⟨gw,hw1,by rw[zf];exact hd,by rw[aH _ _ (by omega),aE];exact hb⟩
  obtain⟨y,hy,fe⟩:=h.base.ok k x jJ
  refine⟨y,by rw[hgs (k+1) (by omega) (by omega)];exact hy,?_⟩
  rw[aH _ _ (by omega),aH _ _ (by omega)]
  exact fe.other fun op az=>by rcases hu op az with e|e<;>rw[e]<;>omega
 ·rw[u9] at hk
  have:=h.base.size
  rw[aH _ _ (by omega),aH _ _ (by omega)] at hb
  exact h.base.far k hk b hb
 ·rw[u9]
  rcases Array.mem_append.1 az with h'|h'
  ·exact h.base.ops op h'
  rcases hu op h' with e|e<;>rw[e,h.base.size]<;>omega
 ·rcases bH hx with ⟨_,k7⟩| ⟨_,op,TO,_,yg⟩
  ·refine(h.sy.plain j ?_ p x k7 hxb hk).app _
   rcases hj with hj| ⟨k,y,rfl,jJ,hl⟩
   ·exact .inl hj
   rcases oY jJ with ⟨rfl,rfl⟩| ⟨_,axn⟩
   ·exact .inr ⟨_,r,rfl,hi,by rcases hr with rfl|rfl<;>rfl⟩
   exact .inr ⟨k,y,rfl,axn,hl⟩
  rw[hq op TO] at yg;cases yg
 ·have hs:=h.sy.said
  match cl,hs,iM with
  |some (ic,c,n),hs,_=>
   intro he p x hx hxb hk
   rcases bH hx with ⟨_,k7⟩| ⟨_,op,TO,_,yg⟩
   ·exact(hs he p x k7 hxb hk).app _
   rw[hq op TO] at yg;cases yg
 ·obtain⟨st,sm,ha,mU⟩:=h.sy.cells
  refine⟨st,sm,by unfold WgAt;rw[hwb _ h.sy.ne];exact ha,MF hi ?_ ?_ ?_ ?_ mU⟩
  ·rw[JW.1];rfl
  ·rw[JW.2.1];rfl
  ·rw[JW.2.2.1];rfl
  rw[JW.2.2.2];rfl
 ·have:=jH au.cnt (y:=au.back tr) hi
  have e:(au.back (ι:=ι) tr).cnt=1:=rfl
  have:=h.sy.Ct
  omega
 ·rw[tv] at hx
  simp only[Option.some.injEq,Obj.chan.injEq] at hx
  omega
 have iY:=h.sy.E1
 obtain⟨st,sm,ha,mU⟩:=h.sy.cells
 have aFq:1≤fo au.cnt D:=by have:=uh au.cnt hi;rw[JW.1] at this;exact this
 match cl,iY,iM,mU with
 |some (ic,c,m),⟨h1,h2,h3,⟨gc,Fw,pX⟩,h5⟩,_,mU=>
  have dI:ic≠i:=fun e=>by subst e;rw[hi] at h1;rcases hr with rfl|rfl<;>cases h1
  refine⟨by rw[List.getElem?_set_ne (Ne.symm dI)];exact h1,fun k hk=>?_,by rw[zf];exact h3,⟨gc,by rw[hgs _ (by omega) (by omega)];exact Fw,by rw[aH _ _ (by omega),aH _ _ (by omega)];exact pX⟩,fun⟨tr',e⟩=>?_⟩
  ·rcases oY hk with ⟨_,e⟩| ⟨_,jJ⟩
   ·cases e
   exact h2 k jJ
  subst e
  have:=(mU.run rfl trivial).1
  omega
end
def Ends(P:Program)(Q:Machine→Outcome→World→Trace→Prop)(m:Machine)(t:Trace):Prop:=
 ∃n last o w' t',runNT P (n+1) m t=(.ended o w',t')∧runN P n m= .next last∧step P last= .ended o w'∧Q last o w' t'
theorem Ends.next{m m':Machine}{ops:Array MemOp}(hs:stepT P m=(.next m',ops))(h:Ends P Q m' (t++ops)):Ends P Q m t:=by
 obtain⟨n,last,o,w,t',h1,h2,h3,h4⟩:=h
 exact⟨n+1,last,o,w,t',by rw[runNT_succ_next hs];exact h1,by rw[runN_succ_next hs];exact h2,h3,h4⟩
section
variable {L:Nat→Option Obj} {K:Nat→St} {w:World} {t:Trace}
theorem aR.at(h:aR s w)(d:Nat):aR s (w.at d):=⟨h.ro,h.rw,h.nodup,h.apart⟩
theorem Fit.at(h:Fit L K w t)(d:Nat):Fit L K (w.at d) t:=⟨h.EE,h.lI,fun i=>(h.jL i).at d,h.sep,h.perm,h.ri,h.old,h.clean,h.sync⟩
end
section
variable {ι:Type} {E:dO ι} {L:Nat→Option Obj} {K:Nat→St} {gs:Array Goroutine} {w:World} {t:Trace} {D:List (au ι)} {pend d0:Nat} {cl:Ar} {main:Goroutine}
theorem Inv.at(h:Inv E L K gs w t D pend cl main d0)(d:Nat):Inv E L K gs (w.at d) t D pend cl main d0:=
 ⟨⟨h.base.fit.at d,h.base.size,h.base.ok,h.base.far,h.base.ops,h.base.same⟩,
  ⟨h.sy.kW,h.sy.kC,h.sy.lW,h.sy.lC,h.sy.ne,h.sy.norel,h.sy.plain,h.sy.said,h.sy.cells,h.sy.Ct,h.sy.chan,h.sy.bal,h.sy.E1⟩,h.main,h.deaf⟩
end
structure Lv(P:Program)(G:Trace→Nat→Prop)(L:Nat→Option Obj)(K:Nat→St)(gs:Array Goroutine)(w:World)(t:Trace)(q:List Nat):Prop where
 fit:Fit L K w t
 size:gs.size=q.length+1
 ok:∀i n,q[i]?=some n→∃g d,gs[i+1]?=some g∧QuitsD P n d g∧Deaf t (i+1)=d∧G t (i+1)
 none:∀i b,i≠0→¬(K i).knows b
 ops:∀op∈t,op.g <gs.size
structure Mw(G:Trace→Nat→Prop):Prop where
 other:∀t u i,G t i→(∀op∈u,op.g≠i)→G (t++u) i
 quiet:∀t u i,G t i→(∀op∈u,op.act.touch?=none)→G (t++u) i
theorem D6:Mw eB:=⟨fun _ _ _ h hu=>h.other hu,fun _ _ _ h hu=>h.quiet hu⟩
def jk(pc:Nat)(t:Trace)(i:Nat):Prop:=pc <t.size∧(eB t i∨∀p,t.g? p=some i→t.counts p→HappensBefore t p pc)
theorem jk.grow{pc:Nat}(h:jk pc t i)(hu:∀p op,t.size≤p→(t++u)[p]?=some op→op.g=i→¬(t++u).counts p) (hk:eB t i→eB (t++u) i):jk pc (t++u) i:=by
 refine⟨by rw[Array.size_append];have:=h.1;omega,h.2.imp hk fun h' p hp hc=>?_⟩
 obtain⟨op,ho,hg⟩:=Option.map_eq_some_iff.1 hp
 rcases Nat.lt_or_ge p t.size with cJ|Sc
 ·exact hb_app u (h' p (by rw[←g?_old (u:=u) cJ];exact hp) ((counts_old cJ).1 hc))
 exact absurd hc (hu p op Sc ho hg)
theorem Sv(pc:Nat):Mw (jk pc):=
 ⟨fun t u i h hu=>h.grow (fun p op hp ho hg=>by
  rcases getElem?_append_cases ho with ⟨h',_⟩| ⟨_,hm⟩
  ·omega
  ·exact absurd hg (hu op hm)) fun h'=>h'.other hu,
  fun t u i h hu=>h.grow (fun p op hp ho hg hc=>by
   obtain⟨x,hx,_⟩:=hc
   obtain⟨o',Ft,k7⟩:=touch_of hx
   rw[ho] at Ft;cases Ft
   rcases getElem?_append_cases ho with ⟨h',_⟩| ⟨_,hm⟩
   ·omega
   rw[hu op hm] at k7;cases k7) fun h'=>h'.quiet hu⟩
section
variable {P:Program} {G:Trace→Nat→Prop} {L:Nat→Option Obj} {K:Nat→St} {gs:Array Goroutine} {w:World} {t:Trace} {q:List Nat} {sl:Option (Nat×Nat)}
theorem Lv.at(h:Lv P G L K gs w t q)(d:Nat):Lv P G L K gs (w.at d) t q:=⟨h.fit.at d,h.size,h.ok,h.none,h.ops⟩
theorem Lv.le(h:Lv P G L K gs w t q)(hl:s.le (K 0)):Lv P G L (fJ K 0 s) gs w t q:=
 ⟨h.fit.le fun j=>by
  by_cases e:j=0
  ·subst e;rw[aE];exact hl
  rw[aH _ _ e];exact St.le_refl _,h.size,h.ok,fun i b hi hk=>by rw[aH _ _ hi] at hk;exact h.none i b hi hk,h.ops⟩
theorem Lv.leave(hG:Mw G)(h:Lv P G L K gs w t q){m:Goroutine}(hm:gs[0]?=some m) (Ai:m.status= .running) (hg:gs[i+1]?=some g) (hs:g.status= .running):
 ∃lh u q',runT P (crowd gs w sl) (i+1)=(.next (crowd lh w sl),u)∧Lv P G L K lh w (t++u) q'∧lh[0]?=some m∧Deaf (t++u) 0=Deaf t 0∧q'.sum <q.sum∧∀op∈u,∀a,op.act≠ .mark (.release a):=by
 have cJ:i <q.length:=by have:=lt_size hg;have:=h.size;omega
 have hq:=List.getElem?_eq_getElem cJ
 obtain⟨eY,d,dk,hqd,hd,hk⟩:=h.ok i _ hq
 obtain rfl:eY=g:=by rw[hg] at dk;exact(Option.some.inj dk).symm
 cases e:q[i] with
 |zero=>rw[e] at hqd;have:=hqd.1;rw[hs] at this;cases this
 |succ n=>
  rw[e] at hqd
  rcases hqd with ⟨h1,_⟩| ⟨_,g',es,TN,bW,Fs⟩
  ·rw[hs] at h1;cases h1
  have hu:=K0 (i:=i+1) (fn:=eY.frame.fn) (pos:=eY.frame.place) TN
  have hgi:∀op∈MemOp.ofEvents (i+1) eY.frame.fn eY.frame.place es,op.g=i+1:=fun op az=>Go.ConcR.g_of_ofEvents op az
  have EL:∀x:Goroutine,(x.status= .running∨x.status= .finished)→woken P eY g' w x=x:=fun x hx=>by
   unfold Go.Conc.woken
   split
   ·exact again_running _ hx
   rfl
  refine⟨_,_,q.set i n,runT_crowd_go (P:=P) (sl:=sl) (i:=i+1) hg (by simpa using bW w),⟨?_,by simp[h.size],fun k n' jJ=>?_,h.none,fun op az=>?_⟩,?_,?_,?_,fun op az a=>Q9 TN a op az⟩
  ·exact h.fit.quiet w.heap.size (fun j hj=>absurd (h.fit.Hd hj) (Nat.lt_irrefl _)) (by
    cases hL:L w.heap.size with
    |none=>rfl
    |some o=>exact absurd (lt_size (h.fit.EE _ o hL)) (Nat.lt_irrefl _)) (Nat.le_refl _) (fun _ _ _=>rfl) hu
  ·by_cases hki:k=i
   ·subst hki
    have:n=n':=by simpa [List.getElem?_set,cJ] using jJ
    subst this
    exact⟨g',_,by simp[h.size,cJ],Fs,by rw[Deaf_own,hd],hG.quiet _ _ _ hk hu⟩
   rw[List.getElem?_set_ne (Ne.symm hki)] at jJ
   obtain⟨x,dx,hx,hqx,hdx,BS⟩:=h.ok k n' jJ
   have dI:∀op∈MemOp.ofEvents (i+1) eY.frame.fn eY.frame.place es,op.g≠k+1:=fun op az=>by rw[hgi op az];omega
   exact⟨x,dx,by rw[fY (by omega) hx,EL x hqx.status],hqx,by rw[gM _ _ dI];exact hdx,hG.other _ _ _ BS dI⟩
  ·rw[Array.size_setIfInBounds,Array.size_map]
   rcases Array.mem_append.1 az with h'|h'
   ·exact h.ops op h'
   rw[hgi op h',h.size];omega
  ·rw[fY (by omega) hm,EL m (.inl Ai)]
  ·exact gM _ _ fun op az=>by rw[hgi op az];omega
  have key:∀(l:List Nat) (i:Nat) (x:Nat),l[i]?=some x→∀y,y <x→(l.set i y).sum <l.sum:=by
   intro l
   induction l with
   |nil=>intro i x h;simp at h
   |cons a l ih=>
    intro i x hx y hy
    cases i with
    |zero=>simp only[List.getElem?_cons_zero,Option.some.injEq] at hx;subst hx;simp only[List.set_cons_zero,List.sum_cons];omega
    |succ i=>have:=ih i x (by simpa using hx) y hy;simp only[List.set_cons_succ,List.sum_cons];omega
  exact key q i _ (by rw[hq,e]) n (Nat.lt_succ_self n)
theorem Lv.own(hG:Mw G)(h:Lv P G L K gs w t q){es:Array Event}(hm:gs[0]?=some g) (bW:stepG P true g w= .go g' w' es) (ht:Trans (K 0) w s' w' es):
 ∃lh u,runT P (crowd gs w sl) 0=(.next (crowd lh w' sl),u)∧Lv P G L (fJ K 0 s') lh w' (t++u) q∧lh[0]?=some g'∧Deaf (t++u) 0=Deaf t 0∧∀op∈u,∀a,op.act≠ .mark (.release a):=by
 have hgi:∀op∈MemOp.ofEvents 0 g.frame.fn g.frame.place es,op.g=0:=fun op az=>Go.ConcR.g_of_ofEvents op az
 refine⟨_,_,runT_crowd_go (P:=P) (sl:=sl) (i:=0) hm (by simpa using bW),⟨h.fit.own ht _ _,by simp[h.size],fun k n hk=>?_,fun i b hi hk=>?_,fun op az=>?_⟩,?_,?_,fun op az a e=>?_⟩
 ·obtain⟨x,dx,hx,hqx,hdx,BS⟩:=h.ok k n hk
  have dI:∀op∈MemOp.ofEvents 0 g.frame.fn g.frame.place es,op.g≠k+1:=fun op az=>by rw[hgi op az];omega
  exact⟨x,dx,by rw[fY (by omega) hx,woken_quitsD hqx],hqx,by rw[gM _ _ dI];exact hdx,hG.other _ _ _ BS dI⟩
 ·rw[aH _ _ hi] at hk;exact h.none i b hi hk
 ·rw[Array.size_setIfInBounds,Array.size_map]
  rcases Array.mem_append.1 az with h'|h'
  ·exact h.ops op h'
  rw[hgi op h',h.size];omega
 ·simp[h.size]
 ·rw[Deaf_own,ht.deaf]
 rw[ofEvents_eq] at az
 obtain⟨e',he,rfl⟩:=Array.mem_map.1 az
 have hl:=Go.ConcR.loc_of_ofEvent e
 have:=ht.vx e' he
 unfold IY at this
 rw[hl] at this
 simp[Co] at this
structure aaj(I:(Nat→St)→World→Trace→Prop):Prop where
 grow:∀K w t u,I K w t→(∀op∈u,∀a,op.act≠ .mark (.release a))→I K w (t++u)
 drawn:∀K w t d,I K w t→I K (w.at d) t
 le:∀K w t s,I K w t→s.le (K 0)→I (fJ K 0 s) w t
 own:∀K w t s' w' es u,I K w t→Trans (K 0) w s' w' es→(∀op∈u,∀a,op.act≠ .mark (.release a))→I (fJ K 0 s') w' (t++u)
def Calm(os:Os)(out:Array (Nat×ByteArray)):(Nat→St)→World→Trace→Prop:=fun _ w t=>(∀a,NoRelease a t)∧w.os=os∧w.output=out
def TL(P:Program)(G:Trace→Nat→Prop)(L:Nat→Option Obj)(I:(Nat→St)→World→Trace→Prop)(Q:Machine→Outcome→World→Trace→Prop)(g:Goroutine)(s:St):Prop:=
 ∀K gs w t q sl,Lv P G L K gs w t q→gs[0]?=some g→s.le (K 0)→Deaf t 0=0→I K w t→Ends P Q (crowd gs w sl) t
theorem MG(hG:Mw G)(hI:aaj I)(hs:g.status= .running)
 (h:∀K gs w t q sl m,Lv P G L K gs w t q→gs[0]?=some g→K 0=s→Deaf t 0=0→I K w t→stepT P m=runT P (crowd gs w sl) 0→(m.gs=gs∧m.rest.timers= #[])→Ends P Q m t):TL P G L I Q g s:=by
 intro K gs w t q sl hL h0 hle hd hi
 generalize hn:q.sum=n
 induction n using Nat.strongRecOn generalizing K gs w t q sl with
 |_ n ih=>
  have hL:=hL.le hle
  have hi:=hI.le _ _ _ _ hi hle
  obtain⟨i,eY,d,TA,dk,Hp,bW⟩:=crowd_pick (P:=P) (gs:=gs) (w:=w) (sl:=sl) (fun x hx=>by
   obtain⟨j,hj,rfl⟩:=Array.mem_iff_getElem.1 hx
   have hj':gs[j]?=some gs[j]:=Array.getElem?_eq_getElem hj
   intro k
   cases j with
   |zero=>rw[h0] at hj';rw[←Option.some.inj hj',hs];simp
   |succ j=>
    have cJ:j <q.length:=by have:=hL.size;omega
    obtain⟨y,d,hy,hq,_⟩:=hL.ok j _ (List.getElem?_eq_getElem cJ)
    rw[hj'] at hy
    rw[Option.some.inj hy]
    rcases hq.status with e|e<;>rw[e]<;>simp) ⟨0,g,h0,hs⟩
  cases i with
  |zero=>exact h _ gs (w.at d) t q TA _ (hL.at d) h0 (aE _ _ _) hd (hI.drawn _ _ _ _ hi) bW ⟨rfl,rfl⟩
  |succ i=>
   obtain⟨lh,u,q',hr,hL',TO,Fx,cJ,hrl⟩:=(hL.at d).leave (sl:=TA) hG h0 hs dk Hp
   refine Ends.next (bW.trans hr) (ih q'.sum (hn▸cJ) _ lh _ _ q' TA hL' TO ?_ (by rw[Fx];exact hd) (hI.grow _ _ _ _ (hI.drawn _ _ _ _ hi) hrl) rfl)
   rw[aE];exact St.le_refl _
theorem Ka(hG:Mw G)(hI:aaj I)(Q:Machine→Outcome→World→Trace→Prop):Closed P true (TL P G L I Q) where
 step:=fun g s hs h=>MG hG hI hs fun K gs w t q sl m hL h0 hK hd hi bW _=>by
  subst hK
  obtain⟨g',w',es,s',hgo,_,ht,hT⟩:=h w (hL.fit.jL 0)
  obtain⟨lh,u,hr,hL',TO,Fx,hrl⟩:=hL.own (sl:=sl) hG h0 hgo ht
  exact Ends.next (bW.trans hr) (hT _ lh w' _ q sl hL' TO (by rw[aE];exact St.le_refl _) (by rw[Fx];exact hd) (hI.own _ _ _ _ _ _ _ hi ht hrl))
 mono:=fun g s s' hl h K gs w t q sl hL h0 hle hd hi=>h K gs w t q sl hL h0 (hl.trans hle) hd hi
theorem TL.mono(hl:s.le s')(h:TL P G L I Q g s):TL P G L I Q g s':=
 fun K gs w t q sl hL h0 hle hd hi=>h K gs w t q sl hL h0 (hl.trans hle) hd hi
end
end Go.L
