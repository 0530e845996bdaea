/- Part 2 of the proof. -/
import Derived.Test.YtknkndglfcfhkaaGreatDoorW1
import Derived.Conc.CrowdBase
import Derived.Conc.CrowdComm
import Derived.Conc.CrowdTrace
import Derived.Conc.Holds
import Derived.Conc.Know
import Derived.Conc.QuitsD
import Derived.Conc.WrBase2
import Derived.Conc.WrWorld
set_option maxRecDepth 100000
set_option linter.all false
namespace Go.L
open Go Go.Conc
variable {g g':Goroutine} {i n b mx j n' p ic sn rc:Nat} {Q:Machine→Outcome→World→Trace→Prop} {s s' ir:St} {ι:Type} {I:(Nat→St)→World→Trace→Prop} {st sm:Int} {main tm:Bool} {T:Goroutine→St→Prop} {w':World} {P:Program} {t u:Trace} {Stop:Goroutine→Prop} {cs:List Frame} {fn:FuncId} {gs:Array Goroutine} {ds:List Deferred} {pos:String} {ca:Array Value} {fr:Frame}
section rounds
variable {P:Program} {C:Class} {s:St}
def ek(bd:Nat):Deferred:={target:= .collected bd,args:= #[]}
def iB(fn:FuncId)(tmps:Array Value)(params:Array Tmp)(assign body:Code)(bd:Nat):Loop:={state:= .ready,pending:=none,fn,tmps,params,assign,body,defers:=bd}
def ac9(Q:Post)(a:Act)(l:Nat):Ending→St→Prop
 | .returned _,s=>DT s l fun r up=>r.state≠ .busy∧(match r.pending with
  |none=>Q .normal a (up {r with state:= .exhausted})
  |some .ret=>Q .ret a (up {r with state:= .exhausted})
  |some (.exit id)=>Q (.exit id) a (up {r with state:= .exhausted})
  |_=>False)
 | .panicked ch,s=>Q (.panic ch) a s
 | .outgrown,_=>False
theorem A2(hC:∀main T,C main T→Closed P main T){x:Operand}{params:Array Tmp}{assign body:Code}{Q:Post}{a:Act}{g:FuncId}{fi:Array Value}(hx:a.eval x= .func (.func g) fi ca)(ff:FF P g)
 (h:∀bd bl,¬s.knows bd→¬(⟨s.ro,(bd,.deferred (some []))::s.rw⟩:St).knows bl→
  Fn C P g (fi++ #[.func (.yield bl) #[] #[]]++ca) ⟨s.ro,(bl,.loop (iB fn a.tmps params assign body bd))::(bd,.deferred (some []))::s.rw⟩ (ac9 Q {a with defers:=ek bd::a.defers} bl)):
 Wp C fn none (.rangeFunc x params assign body) Q a s:=by
 intro main T hT b k cs h1 h2 h3 h4
 have iR:=hC main T hT
 have hk:(b.kind==CallKind.early)=false:=by simpa using h2
 have wQ:bS P (Instr.enterLoop fn a.tmps params assign body none) s (fun r s'=>∃bd bl,¬s.knows bd∧¬(⟨s.ro,(bd,.deferred (some []))::s.rw⟩:St).knows bl∧r=(bl,[ek bd])∧s'=⟨s.ro,(bl,.loop (iB fn a.tmps params assign body bd))::(bd,.deferred (some []))::s.rw⟩) (fun _ _=>False):=by
  simp only[Instr.enterLoop,aa,oK,ae]
  intro bd hbd
  intro bl Fp
  exact⟨bd,bl,hbd,Fp,rfl,rfl⟩
 refine iR.step _ _ rfl fun w p6=>?_
 obtain⟨res,es,bX,hl⟩:=gM _ _ _ _ w #[] wQ p6
 rw[Array.empty_append] at bX
 cases res with
 |halt _ _=>obtain⟨_,_,hu⟩:=hl;exact hu.elim
 |ok r w1=>
  obtain⟨s1,ht1,bd,bl,hbd,Fp,rfl,rfl⟩:=hl
  have aFw:bS P (callFunc g (fi++ #[.func (.yield bl) #[] #[]]++ca)) ⟨s.ro,(bl,.loop (iB fn a.tmps params assign body bd))::(bd,.deferred (some []))::s.rw⟩ (fun nx s2=>nx= .enter g (fi++ #[.func (.yield bl) #[] #[]]++ca)∧s2=⟨s.ro,(bl,.loop (iB fn a.tmps params assign body bd))::(bd,.deferred (some []))::s.rw⟩) (fun _ _=>False):=kp ff ⟨rfl,rfl⟩
  obtain⟨aMU,Fw,arK,rq⟩:=gM _ _ _ _ w1 #[] aFw ht1.jP
  rw[Array.empty_append] at arK
  cases aMU with
  |halt _ _=>obtain⟨_,_,hu⟩:=rq;exact hu.elim
  |ok nx w2=>
   obtain⟨s2,ht2,rfl,rfl⟩:=rq
   let od:Frame:=aM b {a with defers:=ek bd::a.defers} (.inRangeFunc bl::k)
   refine⟨G (Frame.enter P g (fi++ #[.func (.yield bl) #[] #[]]++ca) .normal) (od::cs),w2,seen P b.fn es++seen P b.fn Fw,_,?_,rfl,(ht1.sub (iG _ _ _)).trans (ht2.sub (iG _ _ _)),?_⟩
   ·have Uc:(aM b {a with defers:=ek bd::a.defers} (.inRangeFunc bl::k)).eval x= .func (.func g) fi ca:=by rw[IN];exact hx
    have hdo:(do let d ←resolve (aM b {a with defers:=ek bd::a.defers} (.inRangeFunc bl::k)).eval {callee:= .value x,args:= #[.const (.func (.yield bl) #[] #[])],argTypes:= #[]} 0;invoke d.target d.args:Sem Next)=callFunc g (fi++ #[.func (.yield bl) #[] #[]]++ca):=by
     have hm:Array.map (aM b {a with defers:=ek bd::a.defers} (.inRangeFunc bl::k)).eval #[Operand.const (.func (.yield bl) #[] #[])]= #[.func (.yield bl) #[] #[]]:=by simp[Frame.eval]
     simp only[resolve,Uc,Deferred.ofValue]
     rw[hm]
     rfl
    have bW:stepG P main (G (aM b a (.code (.rangeFunc x params assign body)::k)) cs) w=
     (let (r,es):=(Instr.enterLoop b.fn a.tmps params assign body b.roundOf).runT P w #[]
      GStep.after (seen P b.fn es)<|match r with
       | .ok (l,mark) w=>
        stepG.apply P true (aM b {a with defers:=mark++a.defers} (.inRangeFunc l::k)) cs none (do let d ←resolve (aM b {a with defers:=mark++a.defers} (.inRangeFunc l::k)).eval {callee:= .value x,args:= #[.const (.func (.yield l) #[] #[])],argTypes:= #[]} 0;invoke d.target d.args) w
       | .halt _ w=> .ended (.stuck "range over a function: no such loop" ((aM b a (.code (.rangeFunc x params assign body)::k)).pos P)) w):=rfl
    rw[bW,h1,h3,bX]
    simp only[List.singleton_append]
    rw[hdo]
    simp only[stepG.apply,if_true,arK]
    simp only[aM,hk,Bool.false_eq_true,if_false,GStep.after,h1]
    simp[G,od,aM,h1]
   refine h bd bl hbd Fp main T hT od cs (fun v s' hv=>?_) (fun ch s' hv=>h4 _ _ _ hv _)
   obtain⟨L,r,Rr,hs,Dh,hq⟩:=hv
   have qN:∀(jump:Option Code),r.pending=jump→T (G (aM b {a with defers:=ek bd::a.defers} ((jump.map Item.code).toList++k)) cs) ⟨s'.ro,L++(bl,.loop {r with state:= .exhausted})::Rr⟩→T (G (od.finish v) cs) s':=by
    intro jump hj hT'
    have aFv:bS P (Instr.endLoop bl) s' (fun j s2=>j=jump∧s2=⟨s'.ro,L++(bl,.loop {r with state:= .exhausted})::Rr⟩) (fun _ _=>False):=by
     simp only[Instr.endLoop]
     refine xO hs ?_
     have hbq:(r.state==LoopState.busy)=false:=by simpa using Dh
     simp only[hbq,Bool.false_eq_true,if_false,aa,ae]
     exact eB rfl hs rfl ⟨hj,rfl⟩
    refine iR.step _ _ rfl fun w p6=>?_
    obtain⟨res,es,bX,hl⟩:=gM _ _ _ _ w #[] aFv p6
    rw[Array.empty_append] at bX
    cases res with
    |halt _ _=>obtain⟨_,_,hu⟩:=hl;exact hu.elim
    |ok j w'=>
     obtain⟨s2,ht,rfl,rfl⟩:=hl
     refine⟨_,w',seen P b.fn es,_,?_,rfl,ht.sub (iG _ _ _),hT'⟩
     have aPy:stepG P main (G (od.finish v) cs) w=(let (r,es):=(Instr.endLoop bl).runT P w #[]
      GStep.after (seen P b.fn es)<|match r with
      | .ok jump w=> .go (G (aM b {a with defers:=ek bd::a.defers} ((jump.map Item.code).toList++k)) cs) w
      | .halt (.panic v) w=> .go (G ((aM b {a with defers:=ek bd::a.defers} (.endRangeFunc bl::k)).raise [{v,recovered:=false}]) cs) w
      | .halt _ w=> .ended (.stuck "range over a function: no such loop" ((aM b {a with defers:=ek bd::a.defers} (.endRangeFunc bl::k)).pos P)) w):=rfl
     rw[aPy,bX]
     simp[GStep.after]
   split at hq
   ·rename_i hp;exact qN none hp (h4 _ _ _ hq)
   ·rename_i hp;exact qN _ hp (h4 _ _ _ hq k)
   ·rename_i id hp
    refine qN _ hp ?_
    have h':=h4 _ _ _ hq
    simp only[jT] at h'
    cases iQ:exitTo id k with
    |some k'=>
     rw[iQ] at h'
     exact iR.go rfl rfl (g':=G (aM b {a with defers:=ek bd::a.defers} k') cs) (fun w=>by simp[G,stepG,stepG.exec,aM,iQ]) h'
    |none=>rw[iQ] at h';exact h' k iQ
   exact hq.elim
end rounds
section marks
variable {P:Program} {C:Class} {s:St}
theorem unwind_mark(hC:∀main T,C main T→Closed P main T)(hT:C main T)(hm:fr.mode= .returning∨∃ch,fr.mode= .panicking ch){bd:Nat}(hd:fr.defers=ek bd::ds)
 {L Rr:List (Nat×Obj)}(hs:s.rw=L++(bd,.deferred (some []))::Rr)(h:T (G {fr with defers:=ds} cs) ⟨s.ro,L++(bd,.deferred none)::Rr⟩):T (G fr cs) s:=by
 have wQ:bS P (Instr.takeDeferred bd) s (fun c s2=>c=[]∧s2=⟨s.ro,L++(bd,.deferred none)::Rr⟩) (fun _ _=>False):=by
  simp only[Instr.takeDeferred]
  refine cJ (o:= .deferred (some [])) (.inr (by rw[hs];exact fA)) rfl rfl ?_
  exact eB rfl hs rfl ⟨rfl,rfl⟩
 refine(hC main T hT).step _ _ rfl fun w p6=>?_
 obtain⟨res,es,bX,hl⟩:=gM _ _ _ _ w #[] wQ p6
 rw[Array.empty_append] at bX
 cases res with
 |halt _ _=>obtain⟨_,_,hu⟩:=hl;exact hu.elim
 |ok c w'=>
  obtain⟨s2,ht,rfl,rfl⟩:=hl
  refine⟨_,w',seen P fr.fn es,_,?_,rfl,ht.sub (iG _ _ _),h⟩
  rcases fr with ⟨fn',tmps,todo,defers,mode,kind,ro⟩
  simp only at hm hd
  subst hd
  rcases hm with rfl| ⟨ch,rfl⟩
  ·simp only[G,stepG,unwind,ek,bX,GStep.after,Array.append_empty,List.nil_append]
  simp only[G,stepG,unwind,ek,bX,GStep.after,Array.append_empty,List.nil_append]
end marks
section code
variable {P:Program} {C:Class} {fn:FuncId} {aA:Option Nat} {n LF:Nat} {F:Nat×Obj→Prop} {R:Nat→Option Obj} {call:cv}
theorem Qs{Q:Post}{a:Act}(hC:∀main T,C main T→Closed P main T){c:Code}(h:Wp C fn aA c Q a s):Wp C fn aA (.scope c) Q a s:=by
 intro main T hT b k cs h1 h2 h3 h4
 refine(hC main T hT).go rfl rfl (g':=G (aM b a (.code c:: .inScope c::k)) cs) (fun w=>by simp[G,stepG,stepG.exec,aM]) ?_
 refine h main T hT b (.inScope c::k) cs h1 h2 h3 fun e a' s' q=>?_
 cases e with
 |normal=>exact(hC main T hT).go rfl rfl (g':=G (aM b a' k) cs) (fun w=>by simp[G,stepG,stepG.exec,aM]) (h4 _ _ _ q)
 |exit id=>
  have hh:exitTo id (.inScope c::k)=exitTo id k:=rfl
  have:=h4 _ _ _ q
  simp only[jT,hh] at this ⊢
  exact this
 |ret=>exact h4 _ _ _ q
 |panic ch=>exact h4 _ _ _ q
 |goto l=>exact(h4 _ _ _ q).elim
 |outgrown=>exact(h4 _ _ _ q).elim
theorem wp_label{Q:Post}{a:Act}(hC:∀main T,C main T→Closed P main T){l:Nat}(h:Q .normal a s):Wp C fn aA (.label l) Q a s:=
 fun main T hT b k cs _ _ _ h4=>(hC main T hT).go rfl rfl (g':=G (aM b a k) cs) (fun w=>by simp[G,stepG,stepG.exec,aM]) (h4 _ _ _ h)
end code
section code
variable {P:Program} {C:Class} {fn:FuncId} {aA:Option Nat} {n LF:Nat} {D:List Deferred} {F:Nat×Obj→Prop} {R:Nat→Option Obj} {call:cv}
theorem th(P:Program)(f:FuncId):seen P f #[]= #[]:=by
 apply Array.eq_empty_of_size_eq_zero
 rcases Nat.eq_zero_or_pos (seen P f #[]).size with h|h
 ·exact h
 have:=iG P f #[] (seen P f #[])[0] (Array.getElem_mem h)
 simp at this
def J8(P:Program)(f:FuncId):Option (Func×Tmp×Code):=
 match P.funcs[f]? with
 |some fn=>match fn.body with
  |some (.seq (.region _ ops false) rest)=>match ops.toList with
   | [o]=>match o.dst,o.op,o.guard with
    |some t,.call ⟨.builtin .recover,xs,_⟩,none=>bif xs.isEmpty&&(fn.results.isEmpty&& !(fn.name== "runtime.NumGoroutine")) then some (fn,t,rest) else none
    |_,_,_=>none
   |_=>none
  |_=>none
 |none=>none
structure aI7(P:Program)(f:FuncId)(fn:Func)(t:Tmp)(rest:Code):Prop where
 ex:P.funcs[f]?=some fn∧fn.results= #[]∧(fn.name== "runtime.NumGoroutine")=false∧∃id o at_,fn.body=some (.seq (.region id #[o] false) rest)∧o.dst=some t∧o.op= .call ⟨.builtin .recover,#[],at_⟩∧o.guard=none
theorem YF{f:FuncId}{fn:Func}{t:Tmp}{rest:Code}(h:J8 P f=some (fn,t,rest)):aI7 P f fn t rest:=by
 unfold J8 at h
 split at h<;>try (cases h;done)
 rename_i fn0 u9
 split at h<;>try (cases h;done)
 rename_i id ops aVc hb
 split at h<;>try (cases h;done)
 rename_i o ho
 split at h<;>try (cases h;done)
 rename_i t0 xs at_ h1 h2 h3
 cases hc:(xs.isEmpty&&(fn0.results.isEmpty&& !(fn0.name== "runtime.NumGoroutine"))) with
 |false=>rw[hc] at h;cases h
 |true=>
  rw[hc] at h;simp only[cond_true,Option.some.injEq,Prod.mk.injEq] at h
  obtain⟨rfl,rfl,rfl⟩:=h
  simp only[Bool.and_eq_true,Bool.not_eq_true',Array.isEmpty_iff] at hc
  obtain⟨rfl,c2,c3⟩:=hc
  refine⟨u9,c2,c3,id,o,at_,?_,h1,h2,h3⟩
  rw[hb]
  have:ops= #[o]:=by apply Array.ext';simpa using ho
  rw[this]
inductive UM where
 |ret
 |panic (v:Value)
inductive MR(ρ:aV):UM→FrameMode→Prop
 |ret:MR ρ .ret .returning
 |panic (v v':Value):VR ρ v v'→MR ρ (.panic v) (.panicking [{v:=v',recovered:=false}])
def anb:UM→Value
 | .ret=> .nilIface
 | .panic v=>v
theorem jH(hC:∀main T,C main T→Closed P main T)(hT:C main T)(hm:fr.mode= .returning∨∃ch,fr.mode= .panicking ch){f:FuncId}(ff:FF P f){a:Array Value} 
 (hd:fr.defers={target:= .fn (.func f) ca,args:=a}::ds)(h:T (G (Frame.enter P f (a++ca) .deferred) ({fr with defers:=ds}::cs)) s):T (G fr cs) s:=by
 have wQ:bS P (invoke (.fn (.func f) ca) a) s (fun nx s2=>nx= .enter f (a++ca)∧s2=s) (fun _ _=>False):=by
  simp only[invoke]
  exact kp ff ⟨rfl,rfl⟩
 refine(hC main T hT).step _ _ rfl fun w p6=>?_
 obtain⟨res,es,bX,hl⟩:=gM _ _ _ _ w #[] wQ p6
 rw[Array.empty_append] at bX
 cases res with
 |halt _ _=>obtain⟨_,_,hu⟩:=hl;exact hu.elim
 |ok c w'=>
  obtain⟨s2,ht,rfl,rfl⟩:=hl
  refine⟨_,w',seen P fr.fn es,_,?_,rfl,ht.sub (iG _ _ _),h⟩
  rcases fr with ⟨fn',tmps,todo,defers,mode,kind,ro⟩
  simp only at hm hd
  subst hd
  rcases hm with rfl| ⟨ch,rfl⟩
  ·simp only[G,stepG,unwind,callDeferred,bX,GStep.after,Array.append_empty]
   rfl
  simp only[G,stepG,unwind,callDeferred,bX,GStep.after,Array.append_empty]
  rfl
theorem Be(hC:∀main T,C main T→Closed P main T)(hT:C main T){b:Frame}{a:Act}{o:Oper}{t:Tmp}{at_:Array TypeId}{k:List Item}{ρ:aV}{u:UM}(sO:b.kind= .deferred)(rz:b.roundOf=none)
 (h1:o.dst=some t)(h2:o.op= .call ⟨.builtin .recover,#[],at_⟩)(h3:o.guard=none)(hu:MR ρ u fr.mode)
 (h:∀v' nD,VR ρ (anb u) v'∨(u= .ret∧v'= .nilIface)→(nD= .returning∨∃v,nD= .panicking [{v:=v,recovered:=true}])→T (G (aM b (a.put (some t) v') (.inRegion #[o] []::k)) ({fr with mode:=nD}::cs)) s):
 T (G (aM b a (.inRegion #[o] [0]::k)) (fr::cs)) s:=by
 have hw:Region.wanted o (yielded #[o] a.tmps)=true:=by unfold Region.wanted;rw[h3]
 have hex:∀aN,execOp aN o=pure .recover:=by
  intro aN
  simp only[execOp,h2,resolve]
  rfl
 have mG:∀v,(aM b a (.inRegion #[o] [0]::k)).finish v=aM b (a.put (some t) v) (.inRegion #[o] []::k):=by
  intro v
  rw[fK]
  have:((#[o]:Array Oper)[0]?).bind (·.dst)=some t:=by simpa using h1
  rw[this]
 have gF:∀w,stepG P main (G (aM b a (.inRegion #[o] [0]::k)) (fr::cs)) w=stepG.apply P true (aM b a (.inRegion #[o] [0]::k)) (fr::cs) none (pure .recover) w:=by
  intro w
  have he:=kS b a (.inRegion #[o] [0]::k)
  simp only[aM] at he
  have ho:(#[o]:Array Oper)[0]?=some o:=by simp
  simp only[G,stepG,stepG.exec,aM,ho,Option.map_some,Option.getD_some,hw,if_true,stepG.oper,Frame.oper?,he,rz,hex]
 rcases SA:fr.mode with _|_|ch
 ·rw[SA] at hu;cases hu
 ·rw[SA] at hu
  cases hu
  have:=h .nilIface .returning (.inr ⟨rfl,rfl⟩) (.inl rfl)
  rw[←mG] at this
  refine(hC main T hT).go rfl rfl (fun w=>?_) this
  rw[gF]
  have hfr: {fr with mode:=FrameMode.returning}=fr:=by rw[←SA]
  rw[hfr]
  simp only[stepG.apply,if_true]
  show GStep.after (seen P _ _) _=_
  simp[Sem.runT,pure,GStep.after,aM,sO,rz,tryRecover,SA,G]
  exact th P b.fn
 rw[SA] at hu
 cases hu
 rename_i v v' hv
 have:=h v' (.panicking [{v:=v',recovered:=true}]) (.inl hv) (.inr ⟨v',rfl⟩)
 rw[←mG] at this
 refine(hC main T hT).go rfl rfl (fun w=>?_) this
 rw[gF]
 simp only[stepG.apply,if_true]
 show GStep.after (seen P _ _) _=_
 simp[Sem.runT,pure,GStep.after,aM,sO,rz,tryRecover,SA,G]
 exact th P b.fn
end code
def iW:Code→List Code
 | .seq a b=>iW a++iW b
 |c=>[c]
def fM(K:Nat→St)(i:Nat)(s:St):Nat→St:=fun j=>if j=i then s else K j
theorem aC(K:Nat→St)(i:Nat)(s:St):fM K i s i=s:=by simp[fM]
theorem aI(K:Nat→St)(s:St)(h:j≠i):fM K i s j=K j:=by simp[fM,h]
structure Fit(L:Nat→Option Obj)(K:Nat→St)(w:World)(t:Trace):Prop where
 E6:∀b o,L b=some o→w.heap[b]?=some o
 lG:∀i b,(K i).jh b→L b=none
 jP:∀i,aS (K i) w
 sep:∀i j b,i≠j→(K i).jh b→¬(K j).knows b
 perm:∀i b,(K i).jh b→∀p x,touchAt t p=some x→blk x.loc=some b→Knows t i p
 rK:∀i b,(K i).ro b≠none→∀p x,touchAt t p=some x→blk x.loc=some b→x.write=true→Knows t i p
 old:∀p x b,touchAt t p=some x→blk x.loc=some b→b <w.heap.size
 clean:∀said,¬Race said t
 sync:∀p x b,touchAt t p=some x→x.kind≠ .plain→blk x.loc=some b→L b=none∧∀i,¬(K i).knows b
theorem lt_size{α:Type}{a:Array α}{x:α}(h:a[i]?=some x):i <a.size:=by
 rcases Nat.lt_or_ge i a.size with h'|h'
 ·exact h'
 rw[Array.getElem?_eq_none h'] at h;cases h
theorem bJ{x:Touch}(h:touchAt (t++u) p=some x):(p <t.size∧touchAt t p=some x)∨(t.size≤p∧∃op∈u,(t++u)[p]?=some op∧op.act.touch?=some x):=by
 rcases Nat.lt_or_ge p t.size with hp|hp
 ·exact .inl ⟨hp,by rw[←touchAt_old (u:=u) hp];exact h⟩
 obtain⟨op,ho,hx⟩:=touch_of h
 rcases getElem?_append_cases ho with ⟨h',_⟩| ⟨_,hm⟩
 ·omega
 exact .inr ⟨hp,op,hm,ho,hx⟩
theorem Ed{es:Array Event}(h:∀e∈es,Jz s n e){op:MemOp}(ho:op∈MemOp.ofEvents i fn pos es):
 op.g=i∧∀x,op.act.touch?=some x→x.kind= .plain∧∃b,blk x.loc=some b∧(n≤b∨s.jh b∨(x.write=false∧s.ro b≠none))∧∃e∈es,blk e.loc=some b:=by
 rw[ofEvents_eq] at ho
 obtain⟨e,he,rfl⟩:=Array.mem_map.1 ho
 refine⟨rfl,fun x hx=>?_⟩
 have hk:=h e he
 obtain⟨loc,wr,sy⟩:=e
 cases loc with
 |cell a=>
  obtain⟨h1,h2⟩:=hk
  simp only at h1 h2
  subst h1
  cases wr<;>(simp only[MemAct.ofEvent,MemAct.touch?,Option.some.injEq] at hx;subst hx;exact⟨rfl,_,rfl,h2,_,he,rfl⟩)
 |obj r=>
  obtain⟨h1,h2⟩:=hk
  simp only at h1 h2
  subst h1
  cases wr<;>(simp only[MemAct.ofEvent,MemAct.touch?,Option.some.injEq] at hx;subst hx;exact⟨rfl,_,rfl,h2,_,he,rfl⟩)
 |mark m=>
  cases m<;>simp only[Jz,CX,Bool.false_eq_true] at hk<;>(cases hx)
 |_=>exact hk.elim
theorem Db(hu:∀op∈u,op.g=i)(hp:t.size≤p){op:MemOp}(ho:(t++u)[p]?=some op):Knows (t++u) i p:=by
 rcases getElem?_append_cases ho with ⟨h',_⟩| ⟨_,hm⟩
 ·omega
 have:=knows_own ho
 rwa[hu op hm] at this
theorem Fit.own{L:Nat→Option Obj}{K:Nat→St}{w:World}(h:Fit L K w t){es:Array Event}(ht:Trans (K i) w s' w' es)(fn:FuncId)(pos:String):
 Fit L (fM K i s') w' (t++MemOp.ofEvents i fn pos es):=by
 have hu:=fun op (ho:op∈MemOp.ofEvents i fn pos es)=>Ed ht.vX ho
 have hg:∀op∈MemOp.ofEvents i fn pos es,op.g=i:=fun op ho=>(hu op ho).1
 have other:∀j b,j≠i→(K j).knows b→b <w.heap.size∧¬(K i).jh b:=fun j b hj hk=>by
  refine⟨?_,fun ho=>h.sep i j b (Ne.symm hj) ho hk⟩
  rcases hk with hk| ⟨o,hk⟩
  ·cases hr:(K j).ro b with
   |none=>exact absurd hr hk
   |some o=>exact(h.jP j).lt (.inl hr)
  exact(h.jP j).lt (.inr hk)
 have Y6:∀b o,L b=some o→b <w.heap.size:=fun b o hl=>lt_size (h.E6 b o hl)
 refine⟨fun b o hl=>?_,fun j b ho=>?_,fun j=>?_,fun j k b Qg ho hk=>?_,fun j b ho p x hx hb=>?_,fun j b ho p x hx hb hw=>?_,fun p x b hx hb=>?_,fun said=>?_,fun p x b hx hk hb=>?_⟩
 ·rw[ht.frame b (Y6 b o hl) (fun ho=>by have:=h.lG i b ho;rw[hl] at this;cases this)];exact h.E6 b o hl
 ·by_cases hj:j=i
  ·subst hj
   rw[aC] at ho
   rcases ht.own b ho with h1|h1
   ·cases hl:L b with
    |none=>rfl
    |some o=>have:=Y6 b o hl;omega
   exact h.lG j b h1
  rw[aI K s' hj] at ho;exact h.lG j b ho
 ·by_cases hj:j=i
  ·subst hj;rw[aC];exact ht.jP
  rw[aI K s' hj]
  have a:=h.jP j
  refine⟨fun b o hb=>?_,fun b o hb=>?_,a.nodup,a.apart⟩
  ·have:=other j b hj (.inl (by rw[hb];simp))
   rw[ht.frame b this.1 this.2];exact a.ro b o hb
  have:=other j b hj (.inr ⟨o,hb⟩)
  rw[ht.frame b this.1 this.2];exact a.rw b o hb
 ·by_cases hj:j=i
  ·subst hj
   rw[aC] at ho
   rw[aI K s' (Ne.symm Qg)] at hk
   have:=other k b (Ne.symm Qg) hk
   rcases ht.own b ho with h1|h1
   ·omega
   exact this.2 h1
  rw[aI K s' hj] at ho
  by_cases jN:k=i
  ·subst jN
   rw[aC] at hk
   have:=other j b hj (.inr ho)
   rcases hk with hk|hk
   ·rcases ht.NI b hk with h1|h1|h1
    ·omega
    ·exact h.sep j k b hj ho (.inl h1)
    exact this.2 h1
   rcases ht.own b hk with h1|h1
   ·omega
   exact this.2 h1
  rw[aI K s' jN] at hk
  exact h.sep j k b Qg ho hk
 ·rcases bJ hx with ⟨hp,lU⟩| ⟨hp,op,hm,az,yL⟩
  ·by_cases hj:j=i
   ·subst hj
    rw[aC] at ho
    rcases ht.own b ho with h1|h1
    ·exact absurd (h.old p x b lU hb) (by omega)
    exact(h.perm j b h1 p x lU hb).app _
   rw[aI K s' hj] at ho
   exact(h.perm j b ho p x lU hb).app _
  by_cases hj:j=i
  ·subst hj;exact Db hg hp az
  rw[aI K s' hj] at ho
  obtain⟨_,b',mH,hc,e',AU,Fq⟩:=(hu op hm).2 x yL
  obtain rfl:b'=b:=by rw[hb] at mH;exact(Option.some.inj mH).symm
  have:=other j b' hj (.inr ho)
  rcases hc with h1|h1|h1
  ·omega
  ·exact absurd h1 this.2
  exact absurd (.inl h1.2) (h.sep j i b' hj ho)
 ·rcases bJ hx with ⟨hp,lU⟩| ⟨hp,op,hm,az,yL⟩
  ·by_cases hj:j=i
   ·subst hj
    rw[aC] at ho
    rcases ht.NI b ho with h1|h1|h1
    ·exact absurd (h.old p x b lU hb) (by omega)
    ·exact(h.rK j b h1 p x lU hb hw).app _
    exact(h.perm j b h1 p x lU hb).app _
   rw[aI K s' hj] at ho
   exact(h.rK j b ho p x lU hb hw).app _
  by_cases hj:j=i
  ·subst hj;exact Db hg hp az
  rw[aI K s' hj] at ho
  obtain⟨_,b',mH,hc,e',AU,Fq⟩:=(hu op hm).2 x yL
  obtain rfl:b'=b:=by rw[hb] at mH;exact(Option.some.inj mH).symm
  have:=other j b' hj (.inl ho)
  rcases hc with h1|h1|h1
  ·omega
  ·exact absurd h1 this.2
  rw[h1.1] at hw;cases hw
 ·rcases bJ hx with ⟨hp,lU⟩| ⟨hp,op,hm,az,yL⟩
  ·exact Nat.lt_of_lt_of_le (h.old p x b lU hb) ht.size
  obtain⟨_,b',mH,hc,e',AU,Fq⟩:=(hu op hm).2 x yL
  obtain rfl:b'=b:=by rw[hb] at mH;exact(Option.some.inj mH).symm
  exact ht.low e' AU b' Fq
 case refine_9=>
  rcases bJ hx with ⟨hp,lU⟩| ⟨hp,op,hm,az,yL⟩
  ·have hs:=h.sync p x b lU hk hb
   refine⟨hs.1,fun j hj=>?_⟩
   by_cases e:j=i
   ·subst e
    rw[aC] at hj
    have cP:=h.old p x b lU hb
    rcases hj with hj|hj
    ·rcases ht.NI b hj with h1|h1|h1
     ·omega
     ·exact hs.2 j (.inl h1)
     exact hs.2 j (.inr h1)
    rcases ht.own b hj with h1|h1
    ·omega
    exact hs.2 j (.inr h1)
   rw[aI K s' e] at hj;exact hs.2 j hj
  exact absurd ((hu op hm).2 x yL).1 hk
 case refine_8=>
  refine noRace_append (h.clean said) hg fun p a ha op hm b hb hc=>?_
  obtain⟨hk,c,hbc,ve,_⟩:=(hu op hm).2 b hb
  have aw2:blk a.loc=some c:=by rw[hc.1];exact hbc
  rcases ve with h1|h1|h1
  ·exact absurd (h.old p a c ha aw2) (by omega)
  ·exact h.perm i c h1 p a ha aw2
  refine h.rK i c h1.2 p a ha aw2 ?_
  rcases hc.2.2.1 with hw|hw
  ·exact hw
  rw[h1.1] at hw;cases hw
theorem Ol{said:Bool}(h:¬Race said t)(hu:∀op∈u,op.act.touch?=none):¬Race said (t++u):=by
 rintro⟨i,j,JM,⟨a,b,ha,hb,hc⟩,n1,n2⟩
 obtain⟨y,hy,hyb⟩:=touch_of hb
 rcases getElem?_append_cases hy with ⟨hj,_⟩| ⟨_,hyu⟩
 ·have hi:i <t.size:=Nat.lt_trans JM hj
  exact h ⟨i,j,JM,⟨a,b,by rw[←act?_old (u:=u) hi];exact ha,by rw[←act?_old (u:=u) hj];exact hb,hc⟩,fun e=>n1 (hb_app u e),fun e=>n2 (hb_app u e)⟩
 rw[hu y hyu] at hyb;cases hyb
section
variable {L:Nat→Option Obj} {K:Nat→St} {w w':World} {t u:Trace}
theorem Fit.Hy(h:Fit L K w t)(hk:(K i).knows b):b <w.heap.size:=by
 rcases hk with hk| ⟨o,hk⟩
 ·cases hr:(K i).ro b with
  |none=>exact absurd hr hk
  |some o=>exact(h.jP i).lt (.inl hr)
 exact(h.jP i).lt (.inr hk)
theorem aS.congr(h:aS s w)(hf:∀b,s.knows b→w'.heap[b]?=w.heap[b]?):aS s w':=
 ⟨fun b o hb=>by rw[hf b (.inl (by rw[hb];simp))];exact h.ro b o hb,fun b o hb=>by rw[hf b (.inr ⟨o,hb⟩)];exact h.rw b o hb,h.nodup,h.apart⟩
theorem Fit.quiet(h:Fit L K w t)(B:Nat)(hB:∀j,¬(K j).knows B)(hBL:L B=none)(hs:w.heap.size≤w'.heap.size)(hf:∀b,b≠B→b <w.heap.size→w'.heap[b]?=w.heap[b]?)
 (hu:∀op∈u,op.act.touch?=none):Fit L K w' (t++u):=by
 have old:∀p x,touchAt (t++u) p=some x→touchAt t p=some x:=fun p x hx=>by
  rcases bJ hx with ⟨_,h'⟩| ⟨_,op,hm,_,yL⟩
  ·exact h'
  rw[hu op hm] at yL;cases yL
 refine⟨fun b o hl=>?_,h.lG,fun i=>?_,h.sep,fun i b ho p x hx hb=>(h.perm i b ho p x (old p x hx) hb).app u,fun i b ho p x hx hb hw=>(h.rK i b ho p x (old p x hx) hb hw).app u,
  fun p x b hx hb=>Nat.lt_of_lt_of_le (h.old p x b (old p x hx) hb) hs,fun said=>Ol (h.clean said) hu,fun p x b hx hk hb=>h.sync p x b (old p x hx) hk hb⟩
 ·rw[hf b (fun e=>by rw[e,hBL] at hl;cases hl) (lt_size (h.E6 b o hl))];exact h.E6 b o hl
 exact(h.jP i).congr fun b hb=>hf b (fun e=>hB i (e▸hb)) (h.Hy hb)
theorem Fit.beside(h:Fit L K w t)(B i:Nat)(hB:∀j,¬(K j).knows B)(hBL:L B=none)(hBw:B <w.heap.size)(hs:w.heap.size≤w'.heap.size)(hf:∀b,b≠B→b <w.heap.size→w'.heap[b]?=w.heap[b]?)
 (hg:∀op∈u,op.g=i) (hu:∀op∈u,∀x,op.act.touch?=some x→blk x.loc=some B∧∀said p a,touchAt t p=some a→a.conflicts said x→Knows t i p):Fit L K w' (t++u):=by
 have old:∀b,b≠B→∀p x,touchAt (t++u) p=some x→blk x.loc=some b→touchAt t p=some x:=fun b dR p x hx hb=>by
  rcases bJ hx with ⟨_,h'⟩| ⟨_,op,hm,_,yL⟩
  ·exact h'
  have:=(hu op hm x yL).1
  rw[hb] at this;exact absurd (Option.some.inj this) dR
 have ne:∀j b,(K j).knows b→b≠B:=fun j b hk e=>hB j (e▸hk)
 refine⟨fun b o hl=>?_,h.lG,fun i=>?_,h.sep,fun j b ho p x hx hb=>(h.perm j b ho p x (old b (ne j b (.inr ho)) p x hx hb) hb).app u,
  fun j b ho p x hx hb hw=>(h.rK j b ho p x (old b (ne j b (.inl ho)) p x hx hb) hb hw).app u,
  fun p x b hx hb=>?_,fun said=>noRace_append (h.clean said) hg fun p a ha op hm b hb hc=>(hu op hm b hb).2 said p a ha hc,fun p x b hx hk hb=>?_⟩
 ·rw[hf b (fun e=>by rw[e,hBL] at hl;cases hl) (lt_size (h.E6 b o hl))];exact h.E6 b o hl
 ·exact(h.jP i).congr fun b hb=>hf b (fun e=>hB i (e▸hb)) (h.Hy hb)
 ·by_cases e:b=B
  ·subst e;omega
  exact Nat.lt_of_lt_of_le (h.old p x b (old b e p x hx hb) hb) hs
 by_cases e:b=B
 ·subst e;exact⟨hBL,hB⟩
 exact h.sync p x b (old b e p x hx hb) hk hb
theorem St.le.jh(h:s.le s')(hb:s.jh b):s'.jh b:=by
 obtain⟨R,h1,_⟩:=h
 obtain⟨o,ho⟩:=hb
 exact⟨o,h1.mem_iff.2 (by simp[ho])⟩
theorem St.le.ro(h:s.le s')(hb:s.ro b≠none):s'.ro b≠none∨s'.jh b:=by
 obtain⟨R,h1,h2⟩:=h
 cases hr:s.ro b with
 |none=>exact absurd hr hb
 |some o=>
  rcases h2 b o hr with h3|h3
  ·exact .inl (by rw[h3];simp)
  exact .inr ⟨o,h1.mem_iff.2 (by simp[h3])⟩
theorem St.le.knows(h:s.le s')(hb:s.knows b):s'.knows b:=hb.elim (fun hr=>(h.ro hr).elim .inl .inr) fun ho=> .inr (h.jh ho)
theorem Fit.le{K':Nat→St}(h:Fit L K w t)(hK:∀i,(K' i).le (K i)):Fit L K' w t:=
 ⟨h.E6,fun i b ho=>h.lG i b ((hK i).jh ho),fun i=>(h.jP i).of_le (hK i),fun i j b JM ho hk=>h.sep i j b JM ((hK i).jh ho) ((hK j).knows hk),
  fun i b ho p x hx hb=>h.perm i b ((hK i).jh ho) p x hx hb,
  fun i b ho p x hx hb hw=>((hK i).ro ho).elim (fun hr=>h.rK i b hr p x hx hb hw) fun hr=>h.perm i b hr p x hx hb,h.old,h.clean,
  fun p x b hx hk hb=>⟨(h.sync p x b hx hk hb).1,fun i hi=>(h.sync p x b hx hk hb).2 i ((hK i).knows hi)⟩⟩
theorem Fit.hand(h:Fit L K w t)(JM:i≠j)(X Y:List (Nat×Obj))(hX:(K j).rw.Perm (X++Y))
 (hk:∀b o,(b,o)∈X→∀p x,touchAt t p=some x→blk x.loc=some b→Knows t i p):
 Fit L (fM (fM K j ⟨(K j).ro,Y⟩) i ⟨(K i).ro,X++(K i).rw⟩) w t:=by
 have jm:∀x,x∈X→x∈(K j).rw:=fun x hx=>hX.mem_iff.2 (by simp[hx])
 have aib:∀x,x∈Y→x∈(K j).rw:=fun x hx=>hX.mem_iff.2 (by simp[hx])
 have mo:(X.map (·.1)).Nodup∧(Y.map (·.1)).Nodup∧∀b o o',(b,o)∈X→(b,o')∈Y→False:=by
  have:=(hX.map (·.1)).nodup_iff.1 (h.jP j).nodup
  rw[List.map_append,List.nodup_append] at this
  exact⟨this.1,this.2.1,fun b o o' h1 h2=>this.2.2 b (List.mem_map.2 ⟨_,h1,rfl⟩) b (List.mem_map.2 ⟨_,h2,rfl⟩) rfl⟩
 have e1:fM (fM K j ⟨(K j).ro,Y⟩) i ⟨(K i).ro,X++(K i).rw⟩ i=⟨(K i).ro,X++(K i).rw⟩:=aC _ _ _
 have e2:fM (fM K j ⟨(K j).ro,Y⟩) i ⟨(K i).ro,X++(K i).rw⟩ j=⟨(K j).ro,Y⟩:=by rw[aI _ _ (Ne.symm JM),aC]
 have e3:∀k,k≠i→k≠j→fM (fM K j ⟨(K j).ro,Y⟩) i ⟨(K i).ro,X++(K i).rw⟩ k=K k:=fun k h1 h2=>by rw[aI _ _ h1,aI _ _ h2]
 have Rs:∀b,(⟨(K i).ro,X++(K i).rw⟩:St).jh b→(∃o,(b,o)∈X)∨(K i).jh b:=fun b ⟨o,ho⟩=>(List.mem_append.1 ho).elim (fun h'=> .inl ⟨o,h'⟩) fun h'=> .inr ⟨o,h'⟩
 have Ml:∀b,(⟨(K j).ro,Y⟩:St).jh b→(K j).jh b∧¬ ∃o,(b,o)∈X:=fun b ⟨o,ho⟩=>⟨⟨o,aib _ ho⟩,fun⟨o',h'⟩=>mo.2.2 b o' o h' ho⟩
 have jX:∀b,(∃o,(b,o)∈X)→(K j).jh b:=fun b ⟨o,ho⟩=>⟨o,jm _ ho⟩
 have OC:∀k b,k≠i→(fM (fM K j ⟨(K j).ro,Y⟩) i ⟨(K i).ro,X++(K i).rw⟩ k).knows b→(K k).knows b∧(k=j→¬ ∃o,(b,o)∈X):=fun k b jN hb=>by
  by_cases e:k=j
  ·subst e
   rw[e2] at hb
   rcases hb with hb|hb
   ·refine⟨.inl hb,fun _ ⟨o,ho⟩=>hb ((h.jP k).apart b o (jm _ ho))⟩
   exact⟨.inr (Ml b hb).1,fun _=>(Ml b hb).2⟩
  rw[e3 k jN e] at hb;exact⟨hb,fun e'=>absurd e' e⟩
 refine⟨h.E6,fun k b ho=>?_,fun k=>?_,fun k l b Ua ho hb=>?_,fun k b ho p x hx hb=>?_,fun k b ho p x hx hb hw=>?_,h.old,h.clean,fun p x b hx jN hb=>⟨(h.sync p x b hx jN hb).1,fun k bY=>?_⟩⟩
 case refine_6=>
  have hs:=(h.sync p x b hx jN hb).2
  by_cases a:k=i
  ·subst a;rw[e1] at bY
   rcases bY with h'|h'
   ·exact hs k (.inl h')
   exact(Rs b h').elim (fun h'=>hs j (.inr (jX b h'))) fun h'=>hs k (.inr h')
  exact hs k (OC k b a bY).1
 ·by_cases a:k=i
  ·subst a;rw[e1] at ho
   exact(Rs b ho).elim (fun h'=>h.lG j b (jX b h')) (h.lG k b)
  by_cases c:k=j
  ·subst c;rw[e2] at ho;exact h.lG k b (Ml b ho).1
  rw[e3 k a c] at ho;exact h.lG k b ho
 ·by_cases a:k=i
  ·subst a;rw[e1]
   refine⟨(h.jP k).ro,fun b o hb=>(List.mem_append.1 hb).elim (fun h'=>(h.jP j).rw b o (jm _ h')) ((h.jP k).rw b o),?_,fun b o hb=>?_⟩
   ·rw[List.map_append,List.nodup_append]
    refine⟨mo.1,(h.jP k).nodup,?_⟩
    rintro b h1 _ h2 rfl
    obtain⟨⟨b1,o1⟩,m1,rfl⟩:=List.mem_map.1 h1
    obtain⟨⟨b2,o2⟩,m2,he⟩:=List.mem_map.1 h2
    simp only at he;subst he
    exact h.sep j k b2 (Ne.symm JM) (jX b2 ⟨o1,m1⟩) (.inr ⟨o2,m2⟩)
   rcases List.mem_append.1 hb with h'|h'
   ·cases hr:(K k).ro b with
    |none=>rfl
    |some y=>exact absurd (.inl (by rw[hr];simp)) (h.sep j k b (Ne.symm JM) (jX b ⟨o,h'⟩))
   exact(h.jP k).apart b o h'
  by_cases c:k=j
  ·subst c;rw[e2]
   exact⟨(h.jP k).ro,fun b o hb=>(h.jP k).rw b o (aib _ hb),mo.2.1,fun b o hb=>(h.jP k).apart b o (aib _ hb)⟩
  rw[e3 k a c];exact h.jP k
 ·by_cases a:k=i
  ·subst a
   rw[e1] at ho
   have jN:=OC l b (Ne.symm Ua) hb
   rcases Rs b ho with h'|h'
   ·by_cases c:l=j
    ·exact jN.2 c h'
    exact h.sep j l b (Ne.symm c) (jX b h') jN.1
   exact h.sep k l b Ua h' jN.1
  have FV:(K k).jh b∧(k=j→¬ ∃o,(b,o)∈X):=by
   by_cases c:k=j
   ·subst c;rw[e2] at ho;exact⟨(Ml b ho).1,fun _=>(Ml b ho).2⟩
   rw[e3 k a c] at ho;exact⟨ho,fun e=>absurd e c⟩
  by_cases c:l=i
  ·subst c
   rw[e1] at hb
   rcases hb with hb|hb
   ·exact h.sep k l b Ua FV.1 (.inl hb)
   rcases Rs b hb with h'|h'
   ·by_cases d:k=j
    ·exact FV.2 d h'
    exact h.sep k j b d FV.1 (.inr (jX b h'))
   exact h.sep k l b Ua FV.1 (.inr h')
  exact h.sep k l b Ua FV.1 (OC l b c hb).1
 ·by_cases a:k=i
  ·subst a;rw[e1] at ho
   exact(Rs b ho).elim (fun⟨o,h'⟩=>hk b o h' p x hx hb) fun h'=>h.perm k b h' p x hx hb
  by_cases c:k=j
  ·subst c;rw[e2] at ho;exact h.perm k b (Ml b ho).1 p x hx hb
  rw[e3 k a c] at ho;exact h.perm k b ho p x hx hb
 by_cases a:k=i
 ·subst a;rw[e1] at ho;exact h.rK k b ho p x hx hb hw
 by_cases c:k=j
 ·subst c;rw[e2] at ho;exact h.rK k b ho p x hx hb hw
 rw[e3 k a c] at ho;exact h.rK k b ho p x hx hb hw
theorem Fit.share(h:Fit L K w t)(AT:i≠n)(s:St)(hrw:s.rw=[])(BA:∀b o,s.ro b=some o→(K i).ro b=some o)
 (hk:∀b,s.ro b≠none→∀p x,touchAt t p=some x→blk x.loc=some b→x.write=true→Knows t n p):Fit L (fM K n s) w t:=by
 have no:∀b,¬s.jh b:=fun b ⟨o,ho⟩=>by rw[hrw] at ho;cases ho
 have kn:∀b,s.ro b≠none→(K i).ro b≠none:=fun b hb=>by
  cases hr:s.ro b with
  |none=>exact absurd hr hb
  |some o=>rw[BA b o hr];simp
 refine⟨h.E6,fun k b ho=>?_,fun k=>?_,fun k l b Ua ho hb=>?_,fun k b ho p x hx hb=>?_,fun k b ho p x hx hb hw=>?_,h.old,h.clean,fun p x b hx jN hb=>⟨(h.sync p x b hx jN hb).1,fun k bY=>?_⟩⟩
 case refine_6=>
  have hs:=(h.sync p x b hx jN hb).2
  by_cases a:k=n
  ·subst a;rw[aC] at bY;exact hs i (.inl (kn b (bY.resolve_right (no b))))
  rw[aI _ _ a] at bY;exact hs k bY
 ·by_cases a:k=n
  ·subst a;rw[aC] at ho;exact absurd ho (no b)
  rw[aI _ _ a] at ho;exact h.lG k b ho
 ·by_cases a:k=n
  ·subst a;rw[aC];exact⟨fun b o hb=>(h.jP i).ro b o (BA b o hb),fun b o hb=>absurd ⟨o,hb⟩ (no b),by rw[hrw];simp,fun b o hb=>absurd ⟨o,hb⟩ (no b)⟩
  rw[aI _ _ a];exact h.jP k
 ·by_cases a:k=n
  ·subst a;rw[aC] at ho;exact no b ho
  rw[aI _ _ a] at ho
  by_cases c:l=n
  ·subst c;rw[aC] at hb
   have hr:=kn b (hb.resolve_right (no b))
   by_cases d:k=i
   ·subst d
    obtain⟨o,ho⟩:=ho
    exact hr ((h.jP k).apart b o ho)
   exact h.sep k i b d ho (.inl hr)
  rw[aI _ _ c] at hb;exact h.sep k l b Ua ho hb
 ·by_cases a:k=n
  ·subst a;rw[aC] at ho;exact absurd ho (no b)
  rw[aI _ _ a] at ho;exact h.perm k b ho p x hx hb
 by_cases a:k=n
 ·subst a;rw[aC] at ho;exact hk b ho p x hx hb hw
 rw[aI _ _ a] at ho;exact h.rK k b ho p x hx hb hw
theorem Fit.alone(h:Fit L K w t)(hK:∀j,j≠i→∀b,¬(K j).knows b)(s:St)(ha:aS s w)
 (AT:∀b,s.knows b→L b≠none∨(K i).knows b)(jN:∀b,s.knows b→∀p x,touchAt t p=some x→x.kind= .plain→blk x.loc=some b→Knows t i p):
 Fit (fun _=>none) (fM K i s) w t:=by
 have aEk:∀b,s.knows b→∀p x,touchAt t p=some x→blk x.loc=some b→x.kind= .plain:=fun b hb p x hx hxb=>by
  by_cases e:x.kind= .plain
  ·exact e
  have hs:=h.sync p x b hx e hxb
  exact((AT b hb).elim (fun h'=>h' hs.1) fun h'=>hs.2 i h').elim
 have hk:∀b,s.knows b→∀p x,touchAt t p=some x→blk x.loc=some b→Knows t i p:=fun b hb p x hx hxb=>jN b hb p x hx (aEk b hb p x hx hxb) hxb
 refine⟨fun b o hl=>((by cases hl)),fun _ _ _=>rfl,fun k=>?_,fun k l b Ua ho hb=>?_,fun k b ho p x hx hb=>?_,fun k b ho p x hx hb hw=>?_,h.old,h.clean,fun p x b hx hkd hb=>⟨rfl,fun k bY=>?_⟩⟩
 case refine_5=>
  by_cases a:k=i
  ·subst a;rw[aC] at bY;exact hkd (aEk b bY p x hx hb)
  rw[aI _ _ a] at bY;exact hK k a b bY
 ·by_cases a:k=i
  ·subst a;rw[aC];exact ha
  rw[aI _ _ a];exact h.jP k
 ·by_cases a:k=i
  ·rw[aI _ _ (fun e=>Ua (a.trans e.symm))] at hb;exact hK l (fun e=>Ua (a.trans e.symm)) b hb
  rw[aI _ _ a] at ho;exact hK k a b (.inr ho)
 ·by_cases a:k=i
  ·subst a;rw[aC] at ho;exact hk b (.inr ho) p x hx hb
  rw[aI _ _ a] at ho;exact absurd (.inr ho) (hK k a b)
 by_cases a:k=i
 ·subst a;rw[aC] at ho;exact hk b (.inl ho) p x hx hb
 rw[aI _ _ a] at ho;exact absurd (.inl ho) (hK k a b)
end
inductive Tree:Type
 |leaf
 |node (f:World→Tree)
inductive Tree.Lt:Tree→Tree→Prop
 |mk (f:World→Tree) (w:World):Tree.Lt (f w) (.node f)
theorem Tree.wf:WellFounded Tree.Lt:=by
 refine⟨fun t=>?_⟩
 induction t with
 |leaf=>exact⟨_,fun y h=>(by cases h)⟩
 |node f ih=>exact⟨_,fun y h=>by cases h;exact ih _⟩
def pg(P:Program)(main:Bool)(Stop:Goroutine→St→Prop):Tree→Goroutine→St→Prop
 | .leaf,g,s=>Stop g s
 | .node f,g,s=>g.status= .running∧∀w,aS s w→∃g' w' es s',stepG P main g w= .go g' w' es∧g'.status= .running∧Trans s w s' w' es∧pg P main Stop (f w) g' s'
theorem St.le.trans{a b c:St}(h:a.le b)(k:b.le c):a.le c:=by
 obtain⟨R,h1,h2⟩:=h
 obtain⟨R',k1,k2⟩:=k
 refine⟨R++R',?_,fun x o hx=>?_⟩
 ·rw[←List.append_assoc];exact k1.trans (h1.append_right R')
 rcases h2 x o hx with h3|h3
 ·exact(k2 x o h3).imp id fun h'=>by simp[h']
 exact .inr (by simp[h3])
theorem Trans.le{w:World}{es:Array Event}(h:Trans s w s' w' es)(hl:ir.le s'):Trans s w ir w' es:=
 ⟨h.jP.of_le hl,h.size,h.frame,fun b hb=>h.own b (hl.jh hb),fun b hb=>(hl.ro hb).elim (h.NI b) fun ho=>(h.own b ho).imp id .inr,h.os,h.output,h.tape,h.vX,h.low⟩
def eJ(P:Program)(main:Bool)(Stop:Goroutine→St→Prop)(g:Goroutine)(s:St):Prop:=∃tr ir,ir.le s∧pg P main Stop tr g ir
theorem dY(P:Program)(main:Bool)(Stop:Goroutine→St→Prop):Closed P main (eJ P main Stop) where
 step:=fun g s hs h=>by
  have key:∀w,∃tr,aS s w→∃g' w' es s',stepG P main g w= .go g' w' es∧g'.status= .running∧Trans s w s' w' es∧pg P main Stop tr g' s':=fun w=>by
   by_cases ha:aS s w
   ·obtain⟨g',w',es,s',h1,h2,h3,tr,ir,hl,h4⟩:=h w ha
    exact⟨tr,fun _=>⟨g',w',es,ir,h1,h2,h3.le hl,h4⟩⟩
   exact⟨.leaf,fun vi=>absurd vi ha⟩
  refine⟨.node fun w=>(key w).choose,s,St.le_refl s,hs,fun w ha=>(key w).choose_spec ha⟩
 mono:=fun g s s' hl ⟨tr,ir,h,ht⟩=>⟨tr,ir,h.trans hl,ht⟩
theorem eJ.stop{Stop:Goroutine→St→Prop}(h:Stop g s):eJ P main Stop g s:=⟨.leaf,s,St.le_refl s,h⟩
section
variable {α:Type}
inductive One(r:α→α→Prop):List α→List α→Prop
 |mk (a:List α) (x y:α) (b:List α):r y x→One r (a++y::b) (a++x::b)
theorem One.cons_inv{r:α→α→Prop}{x:α}{l m:List α}(h:One r m (x::l)):(∃y,m=y::l∧r y x)∨∃l',m=x::l'∧One r l' l:=by
 generalize hk:x::l=k at h
 obtain⟨a,u,v,b,hr⟩:=h
 cases a with
 |nil=>simp only[List.nil_append,List.cons.injEq] at hk;obtain⟨rfl,rfl⟩:=hk;exact .inl ⟨v,rfl,hr⟩
 |cons c a=>simp only[List.cons_append,List.cons.injEq] at hk;obtain⟨rfl,rfl⟩:=hk;exact .inr ⟨_,rfl,.mk a u v b hr⟩
theorem One.acc{r:α→α→Prop}:∀l:List α,(∀x∈l,Acc r x)→Acc (One r) l
 | [],_=>⟨_,fun m h=>by
  generalize hk:([]:List α)=k at h
  obtain⟨a,u,v,b,hr⟩:=h
  cases a<;>simp at hk⟩
 |x::l,h=>by
  have hl:=One.acc l fun y hy=>h y (List.mem_cons_of_mem _ hy)
  have hx:=h x (List.mem_cons_self ..)
  clear h
  induction hx generalizing l with
  |intro x hx ihx=>
   clear hx
   induction hl with
   |intro l hl ihl=>
    refine⟨_,fun m hm=>?_⟩
    rcases hm.cons_inv with ⟨y,rfl,hr⟩| ⟨l',rfl,hr⟩
    ·exact ihx y hr l ⟨_,hl⟩
    exact ihl l' hr
theorem One.wf{r:α→α→Prop}(h:WellFounded r):WellFounded (One r):=⟨fun l=>One.acc l fun x _=>h.apply x⟩
theorem One.set{r:α→α→Prop}{l:List α}{x y:α}(h:l[i]?=some x) (hr:r y x):One r (l.set i y) l:=by
 obtain⟨hi,rfl⟩:=List.getElem?_eq_some_iff.1 h
 have e1:l=l.take i++l[i]::l.drop (i+1):=by
  rw[List.getElem_cons_drop,List.take_append_drop]
 have e2:l.set i y=l.take i++y::l.drop (i+1):=by
  rw[List.set_eq_take_append_cons_drop,if_pos hi]
 rw[e2]
 conv=>rhs;rw[e1]
 exact .mk _ _ _ _ hr
end
open Go.ConcR (KK wgBlock WgAt stA smA rd wr)
abbrev said(m:Mark):Event:=Go.ConcR.mk m
def Pure(P:Program)(main:Bool)(Live:World→Prop)(Stop:Goroutine→Prop):Nat→Goroutine→Prop
 |0,g=>Stop g
 |n+1,g=>g.status= .running∧∃g',(∀w,Live w→stepG P main g w= .go g' w #[])∧Pure P main Live Stop n g'
structure dW(ι:Type) where
 P:Program
 ty:TypeId
 Wg:Nat
 Ch:Nat
 max:Nat
 z:Value
 os:Os
 out:Array (Nat×ByteArray)
 XI:ι→Value→List (Nat×Obj)→Prop
section
variable {ι:Type} (E:dW ι)
def dW.live(w:World):Prop:=∃st sm,WgAt E.ty E.Wg w st sm
def dW.pure(main:Bool)(Stop:Goroutine→Prop)(g:Goroutine):Prop:=∃n,Pure E.P main E.live Stop n g
def dW.D4(g:Goroutine):Prop:=g.status= .running∧mayWake E.P g=true∧∃g',(∀w,WgAt E.ty E.Wg w 0 0→stepG E.P false g w= .go g' (w.setCell (smA E.Wg) (.int .u32 1)) (semEvents (smA E.Wg)))∧∃q,QuitsD E.P q 1 g'
def dW.D3(g:Goroutine):Prop:=g.status= .running∧∃g',(∀w,WgAt E.ty E.Wg w 1 0→stepG E.P false g w= .go g' (w.setCell (stA E.Wg) (.int .u64 0)) #[wr (stA E.Wg)])∧E.pure false E.D4 g'
def dW.D2(g:Goroutine):Prop:=g.status= .running∧∃g',(∀w,WgAt E.ty E.Wg w 1 0→stepG E.P false g w= .go g' w #[rd (stA E.Wg)])∧E.pure false E.D3 g'
def dW.D1(g:Goroutine):Prop:=g.status= .running∧∀v wt:Nat,wt≤1→v <E.max→
 ∃g',(∀w,WgAt E.ty E.Wg w (((v+1:Nat):Int)*KK+(wt:Int)) 0→stepG E.P false g w= .go g' (w.setCell (stA E.Wg) (.int .u64 ((v:Int)*KK+(wt:Int)))) #[rd (stA E.Wg),wr (stA E.Wg)])∧
  ((v=0∧wt=1)→E.pure false E.D2 g')∧(¬(v=0∧wt=1)→∃q,QuitsD E.P q 1 g')
def dW.K1(g:Goroutine):Prop:=g.status= .running∧∃g',(∀w,stepG E.P false g w= .go g' w #[said .disable])∧E.pure false E.D1 g'
def dW.R0(g:Goroutine):Prop:=g.status= .running∧∃g',(∀w,stepG E.P false g w= .go g' w #[said (.releaseMerge (stA E.Wg))])∧E.pure false E.K1 g'
def dW.JA(g:Goroutine)(_:St):Prop:=E.pure false E.R0 g
def dW.KP(o:ι)(g:Goroutine)(s:St):Prop:=g.status= .running∧∃qS v zs X Y,s.rw.Perm (X++Y)∧E.XI o v X∧
 (∀w,aS s w→stepG E.P false g w= .comm qS #[scase E.Ch v zs] true .send w #[])∧∃tr ir,ir.le ⟨s.ro,Y⟩∧pg E.P false E.JA tr (Conc.served qS undef) ir
def dW.KO(g:Goroutine)(_:St):Prop:=g.status= .running∧mayWake E.P g=true∧
 ∃g',(∀w s r tm,w.heap[E.Ch]?=some (.chan 0 #[] false s r tm)→stepG E.P false g w= .go g' {w with heap:=w.heap.setIfInBounds E.Ch (.chan 0 #[] true s r tm)} #[⟨.obj E.Ch,false,true⟩,⟨.obj E.Ch,true,true⟩])∧∃q,QuitsD E.P q 0 g'
def dW.Aq(s:St)(g:Goroutine):Prop:=g.status= .running∧∃g',(∀w,stepG E.P false g w= .go g' w #[said (.acquire (stA E.Wg))])∧∃tr ir,ir.le s∧pg E.P false E.KO tr g' ir
def dW.Ke(s:St)(g:Goroutine):Prop:=g.status= .running∧∃g',(∀w,stepG E.P false g w= .go g' w #[said .enable])∧E.pure false (E.Aq s) g'
def dW.W4(s:St)(g:Goroutine):Prop:=g.status= .running∧∃g',(∀w,WgAt E.ty E.Wg w 0 0→stepG E.P false g w= .go g' w #[rd (stA E.Wg)])∧E.pure false (E.Ke s) g'
def dW.W3(s:St)(g:Goroutine):Prop:=g.status= .running∧g.offers=none∧(∀w st,WgAt E.ty E.Wg w st 0→stepG E.P false g w= .go {g with status:= .blocked} w #[])∧
 ∃g',(∀w,WgAt E.ty E.Wg w 0 1→stepG E.P false g w= .go g' (w.setCell (smA E.Wg) (.int .u32 0)) (semEvents (smA E.Wg)))∧E.pure false (E.W4 s) g'
def dW.Wr(s:St)(g:Goroutine):Prop:=g.status= .running∧∃g',(∀w,stepG E.P false g w= .go g' w #[said (.write (smA E.Wg))])∧E.pure false (E.W3 s) g'
def dW.W2(als:Goroutine→Prop)(s:St)(vs:Nat)(g:Goroutine):Prop:=g.status= .running∧
 (∃g',(∀w,WgAt E.ty E.Wg w ((vs:Int)*KK) 0→stepG E.P false g w= .go g' (w.setCell (stA E.Wg) (.int .u64 ((vs:Int)*KK+1))) #[rd (stA E.Wg),wr (stA E.Wg)])∧E.pure false (E.Wr s) g')∧
 ∀v:Nat,v <vs→∃g',(∀w,WgAt E.ty E.Wg w ((v:Int)*KK) 0→stepG E.P false g w= .go g' w #[rd (stA E.Wg)])∧als g'
def dW.W1(E:dW ι)(s:St):Nat→Goroutine→Prop
 |0,g=>g.status= .running∧∃g',(∀w,WgAt E.ty E.Wg w 0 0→stepG E.P false g w= .go g' w #[rd (stA E.Wg)])∧E.pure false (E.Ke s) g'
 |b+1,g=>g.status= .running∧(∃g',(∀w,WgAt E.ty E.Wg w 0 0→stepG E.P false g w= .go g' w #[rd (stA E.Wg)])∧E.pure false (E.Ke s) g')∧
  ∀v,1≤v→v≤b+1→∃g',(∀w,WgAt E.ty E.Wg w ((v:Int)*KK) 0→stepG E.P false g w= .go g' w #[rd (stA E.Wg)])∧E.pure false (E.W2 (E.pure false (E.W1 s b)) s v) g'
def dW.Kd(s:St)(g:Goroutine):Prop:=g.status= .running∧∃g',(∀w,stepG E.P false g w= .go g' w #[said .disable])∧E.pure false (E.W1 s E.max) g'
def dW.closes(s:St)(g:Goroutine):Prop:=E.pure false (E.Kd s) g
inductive WK where
 |r0|k1|d1|d2|d3|d4
inductive au(ι:Type) where
 |leave (q d:Nat) (cur:Bool)
 |work (o:ι) (tr:Tree)
 |gE (o:ι)
 |back (tr:Tree)
 |st (k:WK) (n:Nat)
 |closer
def WK.stop:WK→Goroutine→Prop
 | .r0=>E.R0| .k1=>E.K1| .d1=>E.D1| .d2=>E.D2| .d3=>E.D3| .d4=>E.D4
def WK.deaf:WK→Nat
 | .r0| .k1=>0
 |_=>1
def WK.said:WK→Bool
 | .r0=>false
 |_=>true
def WK.NO:WK→Nat
 | .r0=>6| .k1=>5| .d1=>4| .d2=>3| .d3=>2| .d4=>1
inductive CK where
 |kd|w1 (b:Nat)|w2 (b vs:Nat)|wr|w3|blk|w4|ke|aq|run (tr:Tree)
def CK.deaf:CK→Nat
 | .kd| .aq| .run _=>0
 |_=>1
def eF(t:Trace)(i:Nat):Prop:=∀p,t.g? p=some i→t.counts p→∃j,t.g? j=some 0∧HappensBefore t p j
def ov(t:Trace)(i:Nat)(s:St)(g:Goroutine):au ι→Prop
 | .leave q d cur=>s=⟨fun _=>none,[]⟩∧QuitsD E.P q d g∧Deaf t i=d∧(cur=true→∃r,ConcN.RelBy (stA E.Wg) t i r)∧(cur=false→eF t i)
 | .work o tr=>Deaf t i=0∧pg E.P false (E.KP o) tr g s
 | .gE o=>Deaf t i=0∧∃vy qS v zs X Y,g=parked qS #[scase E.Ch v zs] .send∧s.rw.Perm (X++Y)∧E.XI o v X∧vy=qS∧∃tr ir,ir.le ⟨s.ro,Y⟩∧pg E.P false E.JA tr (Conc.served qS undef) ir
 | .back tr=>Deaf t i=0∧pg E.P false E.JA tr g s
 | .st k n=>s=⟨fun _=>none,[]⟩∧Deaf t i=k.deaf∧Pure E.P false E.live (k.stop E) n g∧(k.said=true→∃r,ConcN.RelBy (stA E.Wg) t i r)
 | .closer=>True
def CK.at(s:St)(g:Goroutine)(n:Nat):CK→Prop
 | .kd=>Pure E.P false E.live (E.Kd s) n g
 | .w1 b=>Pure E.P false E.live (E.W1 s b) n g
 | .w2 b vs=>Pure E.P false E.live (E.W2 (E.pure false (E.W1 s b)) s vs) n g
 | .wr=>Pure E.P false E.live (E.Wr s) n g
 | .w3=>∃m,n=m+1∧Pure E.P false E.live (E.W3 s) m g
 | .blk=>n=0∧∃vy,E.W3 s vy∧g={vy with status:= .blocked}
 | .w4=>Pure E.P false E.live (E.W4 s) n g
 | .ke=>Pure E.P false E.live (E.Ke s) n g
 | .aq=>Pure E.P false E.live (E.Aq s) n g
 | .run tr=>n=0∧pg E.P false E.KO tr g s
end
section
variable {ι:Type} {E:dW ι} {t u:Trace} {i j:Nat} {s:St} {g:Goroutine}
theorem Pure.running{Live:World→Prop}(hS:∀g,Stop g→g.status= .running):∀ {n:Nat} {g:Goroutine},Pure P main Live Stop n g→g.status= .running
 |0,_,h=>hS _ h
 |_+1,_,h=>h.1
theorem dW.pure.running(hS:∀g,Stop g→g.status= .running)(h:E.pure main Stop g):g.status= .running:=Pure.running hS h.choose_spec
theorem WK.running:∀(k:WK) (g:Goroutine),k.stop E g→g.status= .running
 | .r0,_,h=>h.1
 | .k1,_,h=>h.1
 | .d1,_,h=>h.1
 | .d2,_,h=>h.1
 | .d3,_,h=>h.1
 | .d4,_,h=>h.1
theorem pg.running{Stop:Goroutine→St→Prop}(hS:∀g s,Stop g s→g.status= .running):∀ {tr:Tree} {g:Goroutine} {s:St},pg P main Stop tr g s→g.status= .running
 | .leaf,_,_,h=>hS _ _ h
 | .node _,_,_,h=>h.1
theorem eF.other(h:eF t j)(hu:∀op∈u,op.g≠j):eF (t++u) j:=by
 intro p hp hc
 obtain⟨op,ho,hg⟩:=Option.map_eq_some_iff.1 hp
 rcases getElem?_append_cases ho with ⟨cP,_⟩| ⟨_,hm⟩
 ·obtain⟨q,h1,h2⟩:=h p (by rw[←g?_old (u:=u) cP];exact hp) ((counts_old cP).1 hc)
  have hq:q <t.size:=by
   obtain⟨o,ho,_⟩:=Option.map_eq_some_iff.1 h1
   exact lt_size_of_getElem? ho
  exact⟨q,by rw[g?_old hq];exact h1,hb_app u h2⟩
 exact absurd hg (hu op hm)
theorem RelBy.other{a:Addr}{r:Nat}(h:ConcN.RelBy a t j r)(hu:∀op∈u,op.g≠j):ConcN.RelBy a (t++u) j r:=by
 refine h.app fun p hp hg=>?_
 obtain⟨op,ho,hgo⟩:=Option.map_eq_some_iff.1 hg
 rcases getElem?_append_cases ho with ⟨cP,_⟩| ⟨_,hm⟩
 ·omega
 exact absurd hgo (hu op hm)
theorem gR(t:Trace){g:Nat}(u:Trace)(hu:∀op∈u,op.g≠g):Deaf (t++u) g=Deaf t g:=by
 obtain⟨l⟩:=u
 rw[Deaf_append]
 induction l generalizing t with
 |nil=>rfl
 |cons y l ih=>
  have hy:y.g≠g:=hu y (by simp)
  have e1:deafStep g (Deaf t g) y=Deaf t g:=by
   unfold deafStep
   split<;>simp[hy]
  rw[List.foldl_cons,e1]
  exact ih t (fun op az=>hu op (by simp at az ⊢;exact .inr az))
theorem ov.other{r:au ι}(h:ov E t j s g r)(hu:∀op∈u,op.g≠j):ov E (t++u) j s g r:=by
 have hd:=gR t u hu
 cases r with
 |leave q d cur=>exact⟨h.1,h.2.1,by rw[hd];exact h.2.2.1,fun hc=>let ⟨r,hr⟩:=h.2.2.2.1 hc;⟨r,RelBy.other hr hu⟩,fun hc=>(h.2.2.2.2 hc).other hu⟩
 |work o tr=>exact⟨by rw[hd];exact h.1,h.2⟩
 |gE o=>exact⟨by rw[hd];exact h.1,h.2⟩
 |back tr=>exact⟨by rw[hd];exact h.1,h.2⟩
 |st k n=>exact⟨h.1,by rw[hd];exact h.2.1,h.2.2.1,fun hc=>let ⟨r,hr⟩:=h.2.2.2 hc;⟨r,RelBy.other hr hu⟩⟩
 |closer=>trivial
theorem ov.running{r:au ι}(h:ov E t j s g r)(h1:∀o,r≠ .gE o)(h2:r≠ .closer):g.status= .running∨g.status= .finished:=by
 cases r with
 |leave q d cur=>exact h.2.1.status
 |work o tr=>exact .inl (pg.running (fun _ _ x=>x.1) h.2)
 |gE o=>exact absurd rfl (h1 o)
 |back tr=>exact .inl (pg.running (fun _ _ x=>dW.pure.running (fun _ y=>y.1) x) h.2)
 |st k n=>exact .inl (Pure.running (WK.running k) h.2.2.1)
 |closer=>exact absurd rfl h2
theorem ov.woken{r:au ι}(h:ov E t j s g r)(h2:r≠ .closer){a a':Goroutine}(ho:(∃o,r= .gE o)→∃sn rc tm,w'.heap[E.Ch]?=some (.chan 0 #[] false sn rc tm)):
 woken E.P a a' w' g=g:=by
 by_cases hb:∃o,r= .gE o
 ·obtain⟨sn,rc,tm,hc⟩:=ho hb
  obtain⟨o,rfl⟩:=hb
  obtain⟨_,vy,qS,v,zs,X,Y,rfl,_⟩:=h
  exact woken_send_open a a' hc
 have:=h.running (fun o e=>hb ⟨o,e⟩) h2
 unfold Go.Conc.woken
 split
 ·exact again_running _ this
 rfl
def XJ(w w':World):Prop:=w'.os=w.os∧w'.output=w.output
structure Base(E:dW ι)(L:Nat→Option Obj)(K:Nat→St)(gs:Array Goroutine)(w:World)(t:Trace)(D:List (au ι)):Prop where
 fit:Fit L K w t
 size:gs.size=D.length+1
 ok:∀i r,D[i]?=some r→∃g,gs[i+1]?=some g∧ov E t (i+1) (K (i+1)) g r
 far:∀i,gs.size≤i→∀b,¬(K i).knows b
 ops:∀op∈t,op.g <gs.size
 same:w.os=E.os∧w.output=E.out
theorem fZ{k:Nat}{x:Goroutine}(hki:k≠i)(hk:gs[k]?=some x):((gs.map (woken P g g' w')).setIfInBounds i g')[k]?=some (woken P g g' w' x):=by
 rw[Array.getElem?_setIfInBounds_ne (Ne.symm hki)];simp[hk]
theorem Base.step{L:Nat→Option Obj}{K:Nat→St}{w:World}{D:List (au ι)}(h:Base E L K gs w t D){r':au ι}(hi:i <D.length) 
 (hu:∀op∈u,op.g=i+1)(Sn:XJ w w')(mE:Fit L (fM K (i+1) s') w' (t++u))(hr:ov E (t++u) (i+1) s' g' r')
 (ho:∀(k:Nat) (o:ι),k≠i→D[k]?=some (.gE o)→∃sn rc tm,w'.heap[E.Ch]?=some (.chan 0 #[] false sn rc tm)):
 Base E L (fM K (i+1) s') ((gs.map (woken E.P g g' w')).setIfInBounds (i+1) g') w' (t++u) (D.set i r'):=by
 refine⟨mE,by simp[h.size],fun k r hk=>?_,fun k hk=>?_,fun op az=>?_,⟨Sn.1.trans h.same.1,Sn.2.trans h.same.2⟩⟩
 ·by_cases e:k=i
  ·subst e
   have lV:r=r':=by simpa [List.getElem?_set,hi] using hk.symm
   subst lV
   exact⟨g',by simp[h.size,hi],by rw[aC];exact hr⟩
  rw[List.getElem?_set_ne (Ne.symm e)] at hk
  obtain⟨x,hx,fu⟩:=h.ok k r hk
  have dR:k+1≠i+1:=by omega
  rw[aI K s' dR]
  have acb:=fu.other (u:=u) fun op az=>by rw[hu op az];omega
  by_cases hc:r= .closer
  ·subst hc;exact⟨_,fZ dR hx,trivial⟩
  refine⟨x,?_,acb⟩
  rw[fZ dR hx,fu.woken hc fun⟨o,e'⟩=>ho k o e (e'▸hk)]
 ·rw[Array.size_setIfInBounds,Array.size_map] at hk
  rw[aI K s' (by have:=h.size;omega)]
  exact h.far k hk
 rw[Array.size_setIfInBounds,Array.size_map]
 rcases Array.mem_append.1 az with h'|h'
 ·exact h.ops op h'
 rw[hu op h',h.size];omega
end
def au.cnt:au ι→Nat
 | .work .. | .gE _| .back _| .st .r0 _| .st .k1 _| .st .d1 _=>1
 |_=>0
def au.c4:au ι→Nat
 | .st .d2 _=>1
 |_=>0
def au.c3:au ι→Nat
 | .st .d3 _=>1
 |_=>0
def au.c2:au ι→Nat
 | .st .d4 _=>1
 |_=>0
def au.YM:au ι→Option ι
 | .work o _| .gE o=>some o
 |_=>none
def au.early:au ι→Prop
 | .leave _ _ c=>c=false
 | .work .. | .gE _=>True
 |_=>False
def au.cur:au ι→Bool
 | .leave _ _ c=>c
 |_=>false
def au.left:au ι→Bool
 | .leave .. =>true
 |_=>false
def fy(f:au ι→Nat)(D:List (au ι)):Nat:=(D.map f).sum
theorem jK(f:au ι→Nat){x y:au ι}:∀ {D:List (au ι)} {i:Nat},D[i]?=some x→fy f (D.set i y)+f x=fy f D+f y
 | [],i,h=>by simp at h
 |a::D,0,h=>by simp only[List.getElem?_cons_zero,Option.some.injEq] at h;subst h;simp[fy];omega
 |a::D,i+1,h=>by
  have:=jK f (y:=y) (D:=D) (i:=i) (by simpa using h)
  simp only[fy,List.set_cons_succ,List.map_cons,List.sum_cons] at this ⊢;omega
def CK.early:CK→Prop
 | .kd| .w1 _| .w2 .. | .wr=>True
 |_=>False
def CK.waits:CK→Prop
 | .wr| .w3| .blk=>True
 |_=>False
def CK.over:CK→Prop
 | .w4| .ke| .aq| .run _=>True
 |_=>False
inductive Md(mx:Nat):(n n4 n3 n2:Nat)→Option CK→Int→Int→Prop
 |start {n:Nat}:Md mx n 0 0 0 none ((n:Int)*KK) 0
 |kd {n:Nat}:Md mx n 0 0 0 (some .kd) ((n:Int)*KK) 0
 |w1 {n b:Nat}:n≤b→Md mx n 0 0 0 (some (.w1 b)) ((n:Int)*KK) 0
 |w2 {n b v:Nat}:n≤v→1≤v→v≤b+1→Md mx n 0 0 0 (some (.w2 b v)) ((n:Int)*KK) 0
 |reg {n:Nat} {c:CK}:c.waits→1≤n→Md mx n 0 0 0 (some c) ((n:Int)*KK+1) 0
 |l4 {c:CK}:c.waits→Md mx 0 1 0 0 (some c) 1 0
 |l3 {c:CK}:c.waits→Md mx 0 0 1 0 (some c) 1 0
 |l2 {c:CK}:c.waits→Md mx 0 0 0 1 (some c) 0 0
 |sema {c:CK}:c.waits→c≠ .blk→Md mx 0 0 0 0 (some c) 0 1
 |over {c:CK}:c.over→Md mx 0 0 0 0 (some c) 0 0
section
variable {ι:Type} (E:dW ι)
def AcqAll(t:Trace)(D:List (au ι))(ic:Nat):Prop:=
 ∃q,t.act? q=some (.mark (.acquire (stA E.Wg)))∧t.g? q=some (ic+1)∧t.heard q∧∀(i:Nat) (r:au ι),D[i]?=some r→r.cur=true→∃p,ConcN.RelBy (stA E.Wg) t (i+1) p∧p <q
def dW.At(x:Touch):Prop:=blk x.loc=some E.Wg∨blk x.loc=some E.Ch
abbrev AY:=Option (Nat×CK×Nat)
def alE(K:Nat→St)(gs:Array Goroutine)(t:Trace)(D:List (au ι)):AY→Prop
 |none=>∀r∈D,r.early
 |some (ic,c,n)=>D[ic]?=some .closer∧(∀k,D[k]?=some .closer→k=ic)∧Deaf t (ic+1)=c.deaf∧(∃gc,gs[ic+1]?=some gc∧c.at E (K (ic+1)) gc n)∧((∃tr,c= .run tr)→AcqAll E t D ic)
def aUg(t:Trace):AY→Prop
 |none=>∀p x,touchAt t p=some x→blk x.loc=some E.Wg→x.kind= .said→Knows t 0 p
 |some (ic,c,_)=>c.early→∀p x,touchAt t p=some x→blk x.loc=some E.Wg→x.kind= .said→Knows t (ic+1) p
structure Sy(L:Nat→Option Obj)(K:Nat→St)(gs:Array Goroutine)(w:World)(t:Trace)(D:List (au ι))(pend:Nat)(cl:AY):Prop where
 kW:∀i,¬(K i).knows E.Wg
 kC:∀i,¬(K i).knows E.Ch
 lW:L E.Wg=none
 lC:L E.Ch=none
 ne:E.Wg≠E.Ch
 norel:∀a,NoRelease a t
 plain:∀i,(i=0∨∃k r,i=k+1∧D[k]?=some r∧r.left=false)→∀p x,touchAt t p=some x→E.At x→x.kind= .plain→Knows t i p
 said:aUg E t cl
 cells:∃st sm,WgAt E.ty E.Wg w st sm∧Md E.max (fy au.cnt D+pend) (fy au.c4 D) (fy au.c3 D) (fy au.c2 D) (cl.map (·.2.1)) st sm
 C2:fy au.cnt D+pend≤E.max
 chan:∃sn rc tm,w.heap[E.Ch]?=some (.chan 0 #[] false sn rc tm)
 bal:∀sn rc tm,w.heap[E.Ch]?=some (.chan 0 #[] false sn rc tm)→sn=rc
 Fz:alE E K gs t D cl
end
inductive AE:AY→AY→Prop
 |same (c:AY):AE c c
 |up (ic:Nat):AE (some (ic,.blk,0)) (some (ic,.w3,1))
section
variable {ι:Type} {E:dW ι}
theorem CK.uW:∀ {c:CK},c.at E s g n→c≠ .blk→g.status= .running
 | .kd,h,_=>Pure.running (fun _ x=>x.1) h
 | .w1 b,h,_=>Pure.running (fun _ x=>by cases b<;>exact x.1) h
 | .w2 _ _,h,_=>Pure.running (fun _ x=>x.1) h
 | .wr,h,_=>Pure.running (fun _ x=>x.1) h
 | .w3,⟨_,_,h⟩,_=>Pure.running (fun _ x=>x.1) h
 | .blk,_,h=>absurd rfl h
 | .w4,h,_=>Pure.running (fun _ x=>x.1) h
 | .ke,h,_=>Pure.running (fun _ x=>x.1) h
 | .aq,h,_=>Pure.running (fun _ x=>x.1) h
 | .run _,⟨_,h⟩,_=>pg.running (fun _ _ x=>x.1) h
theorem CK.tries{c:CK}{gc:Goroutine}(h:c.at E s gc n)(a a':Goroutine)(w':World):
 ∃c' n',AE (some (ic,c,n)) (some (ic,c',n'))∧c'.at E s (woken E.P a a' w' gc) n'∧(mayWake E.P a=true→(a'.status= .running∨a'.status= .finished)→c'≠ .blk)∧c'.deaf=c.deaf:=by
 by_cases hb:c= .blk
 ·subst hb
  obtain⟨rfl,vy,hg,rfl⟩:=h
  by_cases hw:(mayWake E.P a&&a'.status != .blocked&&a'.status != .waiting)=true
  ·refine⟨.w3,1,.up ic,⟨0,rfl,?_⟩,fun _ _=>by simp,rfl⟩
   have:woken E.P a a' w' {vy with status:= .blocked}=vy:=by
    have h1:=hg.1;have h2:=hg.2.1
    obtain⟨f,cs,stt,dy,of⟩:=vy
    simp only at h1 h2
    subst h1 h2
    simp[Go.Conc.woken,hw,Goroutine.again]
   rw[this];exact hg
  refine⟨.blk,0,.same _,⟨rfl,vy,hg,by simp[Go.Conc.woken,hw]⟩,fun h1 h2=>absurd ?_ hw,rfl⟩
  rcases h2 with h2|h2<;>simp[h1,h2]
 refine⟨c,n,.same _,?_,fun _ _=>hb,rfl⟩
 have:woken E.P a a' w' gc=gc:=by
  unfold Go.Conc.woken
  split
  ·exact again_running _ (.inl (CK.uW h hb))
  rfl
 rw[this];exact h
end
section
variable {ι:Type} {E:dW ι} {L:Nat→Option Obj} {K:Nat→St} {gs:Array Goroutine} {w w':World} {t u:Trace} {D:List (au ι)} {pend:Nat} {cl:AY}
theorem AcqAll.step{r r':au ι}(h:AcqAll E t D ic)(hi:D[i]?=some r) (hu:∀op∈u,op.g=i+1) (Ih:r'.cur=true→r.cur=true)
 (ib:r'.cur=true→∀p,ConcN.RelBy (stA E.Wg) t (i+1) p→ConcN.RelBy (stA E.Wg) (t++u) (i+1) p):AcqAll E (t++u) (D.set i r') ic:=by
 obtain⟨q,h1,h2,h3,h4⟩:=h
 have hq:=lt_of_act? h1
 refine⟨q,by rw[act?_old hq];exact h1,by rw[g?_old hq];exact h2,(heard_old hq).2 h3,fun k x hk hc=>?_⟩
 by_cases e:k=i
 ·subst e
  have cP:=(List.getElem?_eq_some_iff.1 hi).1
  have:r'=x:=by simpa [List.getElem?_set,cP] using hk
  subst this
  obtain⟨p,hp,ZC⟩:=h4 k r hi (Ih hc)
  exact⟨p,ib hc p hp,ZC⟩
 rw[List.getElem?_set_ne (Ne.symm e)] at hk
 obtain⟨p,hp,ZC⟩:=h4 k x hk hc
 exact⟨p,RelBy.other hp (fun op az=>by rw[hu op az];omega),ZC⟩
theorem Um(k8:∀op∈u,∀x,op.act.touch?=some x→E.At x→x.kind= .atomic){x:Touch}(hx:touchAt (t++u) p=some x)(hb:E.At x)(hk:x.kind≠ .atomic):
 touchAt t p=some x:=by
 rcases bJ hx with ⟨_,h'⟩| ⟨_,op,hm,_,yL⟩
 ·exact h'
 exact absurd (k8 op hm x yL hb) hk
theorem Sy.step(h:Sy E L K gs w t D pend cl)(uI:gs.size=D.length+1){r r':au ι}(hi:D[i]?=some r) (EA:r≠ .closer) (VY:r'≠ .closer)
 (hu:∀op∈u,op.g=i+1) (bH:¬s'.knows E.Wg) (oS:¬s'.knows E.Ch) (vM:w'.heap[E.Ch]?=w.heap[E.Ch]?)
 (k8:∀op∈u,∀x,op.act.touch?=some x→E.At x→x.kind= .atomic) (iA:∀op∈u,∀a,op.act≠ .mark (.release a))
 (yM:r'.left=false→r.left=false) (Ak:r.early→r'.early) (Ih:(∃ic tr n,cl=some (ic,.run tr,n))→r'.cur=true→r.cur=true)
 (ib:r.cur=true→∀p,ConcN.RelBy (stA E.Wg) t (i+1) p→ConcN.RelBy (stA E.Wg) (t++u) (i+1) p)
 (Sz:fy au.cnt (D.set i r')≤fy au.cnt D)
 (n5:∀cl',AE cl cl'→(mayWake E.P g=true→(g'.status= .running∨g'.status= .finished)→∀ic n,cl'≠some (ic,.blk,n))→
  ∃st sm,WgAt E.ty E.Wg w' st sm∧Md E.max (fy au.cnt (D.set i r')+pend) (fy au.c4 (D.set i r')) (fy au.c3 (D.set i r')) (fy au.c2 (D.set i r')) (cl'.map (·.2.1)) st sm):
 ∃cl',AE cl cl'∧Sy E L (fM K (i+1) s') ((gs.map (woken E.P g g' w')).setIfInBounds (i+1) g') w' (t++u) (D.set i r') pend cl':=by
 have cP:=(List.getElem?_eq_some_iff.1 hi).1
 have pJ:∀ {k x},(D.set i r')[k]?=some x→(k=i∧x=r')∨(k≠i∧D[k]?=some x):=fun {k x} hk=>by
  by_cases e:k=i
  ·subst e
   exact .inl ⟨rfl,by simpa [List.getElem?_set,cP] using hk.symm⟩
  rw[List.getElem?_set_ne (Ne.symm e)] at hk;exact .inr ⟨e,hk⟩
 have JN:∀b,¬s'.knows b→(∀j,¬(K j).knows b)→∀j,¬(fM K (i+1) s' j).knows b:=fun b h1 h2 j=>by
  by_cases e:j=i+1
  ·subst e;rw[aC];exact h1
  rw[aI _ _ e];exact h2 j
 have Am:∀ic,ic≠i→Deaf (t++u) (ic+1)=Deaf t (ic+1):=fun ic dR=>gR t u fun op az=>by rw[hu op az];omega
 obtain⟨cl',Ff,aQq,jo⟩:∃cl',AE cl cl'∧(mayWake E.P g=true→(g'.status= .running∨g'.status= .finished)→∀ic n,cl'≠some (ic,.blk,n))∧
  alE E (fM K (i+1) s') ((gs.map (woken E.P g g' w')).setIfInBounds (i+1) g') (t++u) (D.set i r') cl':=by
  have hc:=h.Fz
  match cl,hc,Ih with
  |none,hc,_=>
   refine⟨none,.same _,fun _ _ _ _=>by simp,fun x hx=>?_⟩
   obtain⟨k,hk⟩:=List.getElem?_of_mem hx
   rcases pJ hk with ⟨_,rfl⟩| ⟨_,jN⟩
   ·exact Ak (hc r (List.mem_of_getElem? hi))
   exact hc x (List.mem_of_getElem? jN)
  |some (ic,c,n),⟨h1,h2,h3,⟨gc,hg,ql⟩,h5⟩,Ih=>
   have dR:ic≠i:=fun e=>by subst e;rw[hi] at h1;exact EA (Option.some.inj h1)
   obtain⟨c',n',hw,aye,hm,hdc⟩:=CK.tries (ic:=ic) ql g g' w'
   refine⟨some (ic,c',n'),hw,fun a b ic' n'' e=>hm a b (by cases e;rfl),by rw[List.getElem?_set_ne (Ne.symm dR)];exact h1,fun k hk=>?_,by rw[Am ic dR,hdc];exact h3,⟨_,fZ (by omega) hg,by rw[aI _ _ (by omega)];exact aye⟩,fun⟨tr,htr⟩=>?_⟩
   ·rcases pJ hk with ⟨_,e⟩| ⟨_,jN⟩
    ·exact absurd e.symm VY
    exact h2 k jN
   subst htr
   cases hw with
   |same=>
    have Ud:=Ih ⟨_,_,_,rfl⟩
    exact(h5 ⟨tr,rfl⟩).step hi hu Ud fun hc p hp=>ib (Ud hc) p hp
 refine⟨cl',Ff,⟨JN _ bH h.kW,JN _ oS h.kC,h.lW,h.lC,h.ne,fun a=>(h.norel a).app fun op az=>iA op az a,fun j hj p x hx hb hk=>?_,?_,n5 cl' Ff aQq,Nat.le_trans (Nat.add_le_add_right Sz _) h.C2,?_,fun sn rc tm hc=>h.bal sn rc tm (by rw[←vM];exact hc),jo⟩⟩
 ·refine(h.plain j ?_ p x (Um k8 hx hb (by rw[hk];simp)) hb hk).app u
  rcases hj with hj| ⟨k,y,rfl,jN,hl⟩
  ·exact .inl hj
  rcases pJ jN with ⟨rfl,rfl⟩| ⟨_,axq⟩
  ·exact .inr ⟨_,r,rfl,hi,yM hl⟩
  exact .inr ⟨k,y,rfl,axq,hl⟩
 ·have hs:=h.said
  match cl,cl',Ff,hs with
  |none,_,.same _,hs=>exact fun p x hx hb hk=>(hs p x (Um k8 hx (.inl hb) (by rw[hk];simp)) hb hk).app u
  |some (ic,c,n),_,.same _,hs=>exact fun he p x hx hb hk=>(hs he p x (Um k8 hx (.inl hb) (by rw[hk];simp)) hb hk).app u
  |_,_,.up ic,_=>exact fun he=>he.elim
 obtain⟨sn,rc,tm,hc⟩:=h.chan
 exact⟨sn,rc,tm,by rw[vM];exact hc⟩
end
def au.mu:au ι→Nat×Tree×Nat
 | .closer=>(10,.leaf,0)
 | .work _ tr=>(9,tr,0)
 | .gE _=>(8,.leaf,0)
 | .back tr=>(7,tr,0)
 | .st k n=>(k.NO,.leaf,n)
 | .leave q _ _=>(0,.leaf,q)
abbrev FD:Nat×Tree×Nat→Nat×Tree×Nat→Prop:=Prod.Lex (· < ·) (Prod.Lex Tree.Lt (· < ·))
theorem FD.wf:WellFounded FD:=(Prod.lex ⟨_,Nat.lt_wfRel.wf⟩ (Prod.lex ⟨_,Tree.wf⟩ ⟨_,Nat.lt_wfRel.wf⟩)).wf
def uX(a b:au ι):Prop:=FD a.mu b.mu
theorem uX.wf:WellFounded (uX (ι:=ι)):=InvImage.wf au.mu FD.wf
theorem fS{a b:Nat×Tree×Nat}(h:a.1 <b.1):FD a b:=by
 obtain⟨a1,a2⟩:=a;obtain⟨b1,b2⟩:=b
 exact Prod.Lex.left _ _ h
theorem Hp{a b:Tree}{x y:Nat}(h:Tree.Lt a b):FD (n,a,x) (n,b,y):=Prod.Lex.right _ (Prod.Lex.left _ _ h)
theorem FQ{a:Tree}{x y:Nat}(h:x <y):FD (n,a,x) (n,a,y):=Prod.Lex.right _ (Prod.Lex.right _ h)
section
variable {ι:Type} {E:dW ι}
def iN(E:dW ι)(e:Event):Prop:=e=said .disable∨e=said .enable∨e=said (.releaseMerge (stA E.Wg))∨e=said (.acquire (stA E.Wg))∨∃a wr,e=⟨.cell a,wr,true⟩∧a.block=E.Wg
theorem iN.ops{es:Array Event}(h:∀e∈es,iN E e)(i:Nat)(fn:FuncId)(pos:String):∀op∈MemOp.ofEvents i fn pos es,
 op.g=i∧(∀a,op.act≠ .mark (.release a))∧∀x,op.act.touch?=some x→blk x.loc=some E.Wg∧x.kind= .atomic:=by
 intro op az
 rw[ofEvents_eq] at az
 obtain⟨e,he,rfl⟩:=Array.mem_map.1 az
 rcases h e he with rfl|rfl|rfl|rfl| ⟨a,wr,rfl,ha⟩
 ·exact⟨rfl,fun a=>by simp[said,Go.ConcR.mk,MemAct.ofEvent],fun x hx=>by cases hx⟩
 ·exact⟨rfl,fun a=>by simp[said,Go.ConcR.mk,MemAct.ofEvent],fun x hx=>by cases hx⟩
 ·exact⟨rfl,fun a=>by simp[said,Go.ConcR.mk,MemAct.ofEvent],fun x hx=>by cases hx⟩
 ·exact⟨rfl,fun a=>by simp[said,Go.ConcR.mk,MemAct.ofEvent],fun x hx=>by cases hx⟩
 refine⟨rfl,fun a=>by cases wr<;>simp[MemAct.ofEvent],fun x hx=>?_⟩
 cases wr<;>(simp only[MemAct.ofEvent,MemAct.touch?,Option.some.injEq] at hx;subst hx;exact⟨by simp[blk,ha],rfl⟩)
theorem Mo{es:Array Event}(h:∀e∈es,Event.mute e=true):∀op∈MemOp.ofEvents i fn pos es,op.act.touch?=none:=by
 intro op az
 rw[ofEvents_eq] at az
 obtain⟨e,he,rfl⟩:=Array.mem_map.1 az
 have:=h e he
 obtain⟨loc,wr,sy⟩:=e
 cases loc with
 |mark m=>cases m<;>first|rfl| (simp[Event.mute] at this)
 |_=>simp[Event.mute] at this
theorem RQ{es:Array Event}(h:∀e∈es,Event.mute e=true)(a:Addr):∀op∈MemOp.ofEvents i fn pos es,op.act≠ .mark (.release a):=by
 intro op az
 rw[ofEvents_eq] at az
 obtain⟨e,he,rfl⟩:=Array.mem_map.1 az
 have:=h e he
 obtain⟨loc,wr,sy⟩:=e
 cases loc with
 |mark m=>cases m<;>first| (simp[MemAct.ofEvent];done)| (simp[Event.mute] at this)
 |_=>simp[Event.mute] at this
variable {L:Nat→Option Obj} {K:Nat→St} {gs:Array Goroutine} {w w':World} {t:Trace} {D:List (au ι)} {pend d0:Nat} {cl:AY} {main:Goroutine} {sl:Option (Nat×Nat)}
structure Inv(E:dW ι)(L:Nat→Option Obj)(K:Nat→St)(gs:Array Goroutine)(w:World)(t:Trace)(D:List (au ι))(pend:Nat)(cl:AY)(main:Goroutine)(d0:Nat):Prop where
 base:Base E L K gs w t D
 sy:Sy E L K gs w t D pend cl
 main:gs[0]?=some main
 deaf:Deaf t 0=d0
def gL(E:dW ι)(main:Goroutine):Prop:=main.status= .running∨∃m z,main=parked m #[rcase E.Ch z] (.recv true)
theorem gL.woken{main:Goroutine}(h:gL E main)(a a':Goroutine)(hc:w'.heap[E.Ch]?=some (.chan 0 #[] false sn rc tm)):woken E.P a a' w' main=main:=by
 rcases h with h| ⟨m,z,rfl⟩
 ·unfold Go.Conc.woken
  split
  ·exact again_running _ (.inl h)
  rfl
 exact woken_recv_open a a' hc
def kO(D:List (au ι)):List ι:=D.filterMap au.YM
theorem He{r r':au ι}(ho:r'.YM=r.YM):∀ {D:List (au ι)} {i:Nat},D[i]?=some r→kO (D.set i r')=kO D
 | [],i,h=>by simp at h
 |a::D,0,h=>by simp only[List.getElem?_cons_zero,Option.some.injEq] at h;subst h;simp[kO,List.filterMap_cons,ho]
 |a::D,i+1,h=>by
  have:=He ho (D:=D) (i:=i) (by simpa using h)
  simp only[kO,List.set_cons_succ,List.filterMap_cons] at this ⊢
  rw[this]
def rj(E:dW ι)(L:Nat→Option Obj)(K:Nat→St)(D:List (au ι))(pend:Nat)(cl:AY)(main:Goroutine)(d0:Nat)(m:Machine)(sl:Option (Nat×Nat))(t:Trace)(i:Nat):Prop:=
 ∃K' lg w' u D' cl',runT E.P m i=(.next (crowd lg w' sl),u)∧Inv E L K' lg w' (t++u) D' pend cl' main d0∧K' 0=K 0∧kO D'=kO D∧One uX D' D∧(cl=none→cl'=none)∧(cl≠none→cl'≠none)∧(∀o,au.gE o∈D'→au.gE o∈D∨main.status= .running)
theorem Inv.go'(h:Inv E L K gs w t D pend cl main d0)(hm:gL E main){r r':au ι}(hi:D[i]?=some r) (EA:r≠ .closer) (VY:r'≠ .closer)
 (hg:gs[i+1]?=some g) (hu:∀op∈u,op.g=i+1)
 (bX:runT E.P (crowd gs w sl) (i+1)=(.next (crowd ((gs.map (woken E.P g g' w')).setIfInBounds (i+1) g') w' sl),u)) (Sn:XJ w w')
 (bH:¬s'.knows E.Wg) (oS:¬s'.knows E.Ch) (vM:w'.heap[E.Ch]?=w.heap[E.Ch]?)
 (mE:Fit L (fM K (i+1) s') w' (t++u)) (hr:ov E (t++u) (i+1) s' g' r')
 (k8:∀op∈u,∀x,op.act.touch?=some x→E.At x→x.kind= .atomic)
 (iA:∀op∈u,∀a,op.act≠ .mark (.release a))
 (yM:r'.left=false→r.left=false) (Ak:r.early→r'.early) (Ih:(∃ic tr n,cl=some (ic,.run tr,n))→r'.cur=true→r.cur=true)
 (ib:r.cur=true→∀p,ConcN.RelBy (stA E.Wg) t (i+1) p→ConcN.RelBy (stA E.Wg) (t++u) (i+1) p)
 (Kv:r'.cnt≤r.cnt) (ah0:r'.YM=r.YM) (T8:uX r' r)
 (n5:∀cl',AE cl cl'→(mayWake E.P g=true→(g'.status= .running∨g'.status= .finished)→∀ic n,cl'≠some (ic,.blk,n))→
  ∃st sm,WgAt E.ty E.Wg w' st sm∧Md E.max (fy au.cnt (D.set i r')+pend) (fy au.c4 (D.set i r')) (fy au.c3 (D.set i r')) (fy au.c2 (D.set i r')) (cl'.map (·.2.1)) st sm)
 (hsb:(∃o,r'= .gE o)→main.status= .running:=by rintro⟨o,e⟩;cases e):
 rj E L K D pend cl main d0 (crowd gs w sl) sl t (i+1):=by
 have cP:=(List.getElem?_eq_some_iff.1 hi).1
 obtain⟨sn,rc,tm,hc⟩:=h.sy.chan
 have tI:w'.heap[E.Ch]?=some (.chan 0 #[] false sn rc tm):=by rw[vM];exact hc
 have ZP:=h.base.step (g:=g) cP hu Sn mE hr fun _ _ _ _=>⟨sn,rc,tm,tI⟩
 have Sz:fy au.cnt (D.set i r')≤fy au.cnt D:=by have:=jK au.cnt (y:=r') hi;omega
 obtain⟨cl',Ff,hsy⟩:=h.sy.step h.base.size hi EA VY hu bH oS vM k8 iA yM Ak Ih ib Sz n5
 refine⟨_,_,w',_,_,cl',bX,⟨ZP,hsy,?_,?_⟩,aI _ _ (by omega),He ah0 hi,One.set hi T8,fun e=>?_,fun e=>?_,fun o ho=>?_⟩
 ·rw[fZ (by omega) h.main,hm.woken _ _ tI]
 ·rw[gR _ _ fun op az=>by rw[hu op az];omega];exact h.deaf
 ·subst e;cases Ff;rfl
 ·cases Ff with
  |same=>exact e
  |up ic=>simp
 rcases List.mem_or_eq_of_mem_set ho with h'|h'
 ·exact .inl h'
 exact .inr (hsb ⟨o,h'.symm⟩)
theorem Inv.go(h:Inv E L K gs w t D pend cl main d0)(hm:gL E main){r r':au ι}{es:Array Event}(hi:D[i]?=some r) (EA:r≠ .closer) (VY:r'≠ .closer)
 (hg:gs[i+1]?=some g) (hgo:stepG E.P false g w= .go g' w' es) (Sn:XJ w w')
 (bH:¬s'.knows E.Wg) (oS:¬s'.knows E.Ch) (vM:w'.heap[E.Ch]?=w.heap[E.Ch]?)
 (mE:Fit L (fM K (i+1) s') w' (t++MemOp.ofEvents (i+1) g.frame.fn g.frame.place es)) (hr:ov E (t++MemOp.ofEvents (i+1) g.frame.fn g.frame.place es) (i+1) s' g' r')
 (k8:∀op∈MemOp.ofEvents (i+1) g.frame.fn g.frame.place es,∀x,op.act.touch?=some x→E.At x→x.kind= .atomic)
 (iA:∀op∈MemOp.ofEvents (i+1) g.frame.fn g.frame.place es,∀a,op.act≠ .mark (.release a))
 (yM:r'.left=false→r.left=false) (Ak:r.early→r'.early) (Ih:(∃ic tr n,cl=some (ic,.run tr,n))→r'.cur=true→r.cur=true)
 (ib:r.cur=true→∀p,ConcN.RelBy (stA E.Wg) t (i+1) p→ConcN.RelBy (stA E.Wg) (t++MemOp.ofEvents (i+1) g.frame.fn g.frame.place es) (i+1) p)
 (Kv:r'.cnt≤r.cnt) (ah0:r'.YM=r.YM) (T8:uX r' r)
 (n5:∀cl',AE cl cl'→(mayWake E.P g=true→(g'.status= .running∨g'.status= .finished)→∀ic n,cl'≠some (ic,.blk,n))→
  ∃st sm,WgAt E.ty E.Wg w' st sm∧Md E.max (fy au.cnt (D.set i r')+pend) (fy au.c4 (D.set i r')) (fy au.c3 (D.set i r')) (fy au.c2 (D.set i r')) (cl'.map (·.2.1)) st sm)
 (hsb:(∃o,r'= .gE o)→main.status= .running:=by rintro⟨o,e⟩;cases e):
 rj E L K D pend cl main d0 (crowd gs w sl) sl t (i+1):=
 h.go' hm hi EA VY hg (fun op az=>Go.ConcR.g_of_ofEvents op az) (runT_crowd_go (P:=E.P) (sl:=sl) (i:=i+1) hg (by simpa using hgo)) Sn bH oS vM mE hr k8 iA yM Ak Ih ib Kv ah0 T8 n5 hsb
end
section
variable {ι:Type} {E:dW ι} {L:Nat→Option Obj} {K:Nat→St} {gs:Array Goroutine} {w w':World} {t u:Trace} {D:List (au ι)} {pend d0:Nat} {cl:AY} {main:Goroutine} {sl:Option (Nat×Nat)}
 {i:Nat} {g g':Goroutine} {es:Array Event}
theorem mg(K:Nat→St)(i:Nat):fM K i (K i)=K:=by
 funext j
 by_cases e:j=i
 ·subst e;rw[aC]
 rw[aI _ _ e]
theorem Md.as3{a c:Nat}{cl cl':AY}(h:Md mx n a b c (cl.map (·.2.1)) st sm)(hw:AE cl cl'):Md mx n a b c (cl'.map (·.2.1)) st sm:=by
 cases hw with
 |same=>exact h
 |up ic=>
  simp only[Option.map_some] at h ⊢
  cases h with
  |reg _ h2=>exact .reg trivial h2
  |l4 _=>exact .l4 trivial
  |l3 _=>exact .l3 trivial
  |l2 _=>exact .l2 trivial
  |sema _ h2=>exact absurd rfl h2
  |over h1=>exact h1.elim
theorem Inv.q5(h:Inv E L K gs w t D pend cl main d0){r r':au ι}(hi:D[i]?=some r) (hw:w'.heap[E.Wg]?=w.heap[E.Wg]?) (h1:r'.cnt=r.cnt) (h4:r'.c4=r.c4) (h3:r'.c3=r.c3) (h2:r'.c2=r.c2):
 ∀cl',AE cl cl'→∃st sm,WgAt E.ty E.Wg w' st sm∧Md E.max (fy au.cnt (D.set i r')+pend) (fy au.c4 (D.set i r')) (fy au.c3 (D.set i r')) (fy au.c2 (D.set i r')) (cl'.map (·.2.1)) st sm:=by
 intro cl' Ff
 obtain⟨st,sm,ha,hm⟩:=h.sy.cells
 have e1:=jK au.cnt (y:=r') hi
 have e4:=jK au.c4 (y:=r') hi
 have e3:=jK au.c3 (y:=r') hi
 have e2:=jK au.c2 (y:=r') hi
 rw[show fy au.cnt (D.set i r')=fy au.cnt D by omega,show fy au.c4 (D.set i r')=fy au.c4 D by omega,show fy au.c3 (D.set i r')=fy au.c3 D by omega,show fy au.c2 (D.set i r')=fy au.c2 D by omega]
 exact⟨st,sm,by unfold WgAt;rw[hw];exact ha,hm.as3 Ff⟩
theorem eF.quiet(h:eF t j)(hu:∀op∈u,op.act.touch?=none):eF (t++u) j:=by
 intro p hp hc
 obtain⟨op,ho,hg⟩:=Option.map_eq_some_iff.1 hp
 rcases getElem?_append_cases ho with ⟨cP,_⟩| ⟨_,hm⟩
 ·obtain⟨q,h1,h2⟩:=h p (by rw[←g?_old (u:=u) cP];exact hp) ((counts_old cP).1 hc)
  have hq:q <t.size:=by
   obtain⟨o,ho,_⟩:=Option.map_eq_some_iff.1 h1
   exact lt_size_of_getElem? ho
  exact⟨q,by rw[g?_old hq];exact h1,hb_app u h2⟩
 obtain⟨x,hx,_⟩:=hc
 obtain⟨o',FV,lU⟩:=touch_of hx
 rw[ho] at FV;cases FV
 rw[hu op hm] at lU;cases lU
theorem Vm{e:Event}(h:Event.mute e=true):(MemAct.ofEvent e).touch?=none:=by
 obtain⟨loc,wr,sy⟩:=e
 cases loc with
 |mark m=>cases m<;>first|rfl| (simp[Event.mute] at h)
 |_=>simp[Event.mute] at h
theorem Inv.leave(h:Inv E L K gs w t D pend cl main d0)(hm:gL E main){q d:Nat}{cur:Bool}(hi:D[i]?=some (.leave q d cur)) (hg:gs[i+1]?=some g) (hs:g.status= .running):
 rj E L K D pend cl main d0 (crowd gs w sl) sl t (i+1):=by
 obtain⟨e9,du,fu⟩:=h.base.ok i _ hi
 obtain rfl:e9=g:=by rw[hg] at du;exact(Option.some.inj du).symm
 obtain⟨hK,hq,hd,hc,hk⟩:=fu
 cases q with
 |zero=>have:=hq.1;rw[hs] at this;cases this
 |succ q=>
  rcases hq with ⟨h1,_⟩| ⟨_,g',es,T8,bW,FU⟩
  ·rw[hs] at h1;cases h1
  have hu:=Mo (i:=i+1) (fn:=e9.frame.fn) (pos:=e9.frame.place) T8
  have hrb:∀p,ConcN.RelBy (stA E.Wg) t (i+1) p→ConcN.RelBy (stA E.Wg) (t++MemOp.ofEvents (i+1) e9.frame.fn e9.frame.place es) (i+1) p:=fun p hp=>
   ConcN.RelBy.appOwn hp _ _ _ fun j e he=> .inl (Vm (T8 e (Array.mem_of_getElem? he)))
  refine h.go hm (r':= .leave q (deafBehind d es) cur) (s':=K (i+1)) (w':=w) hi (by simp) (by simp) hg (bW w) ⟨rfl,rfl⟩ (h.sy.kW _) (h.sy.kC _) rfl ?_ ?_ (fun op az x hx=>by rw[hu op az] at hx;cases hx) (fun op az a=>RQ T8 a op az)
   (fun e=>e) (fun e=>e) (fun _ e=>e) (fun _ p hp=>hrb p hp) (Nat.le_refl _) rfl (FQ (Nat.lt_succ_self q)) fun cl' hw _=>h.q5 (r':= .leave q (deafBehind d es) cur) hi rfl rfl rfl rfl rfl cl' hw
  ·rw[mg]
   exact h.base.fit.quiet E.Wg h.sy.kW h.sy.lW (Nat.le_refl _) (fun _ _ _=>rfl) hu
  refine⟨hK,FU,?_,fun e=>let ⟨r,hr⟩:=hc e;⟨r,hrb r hr⟩,fun e=>(hk e).quiet hu⟩
  rw[Deaf_own,hd]
theorem Sy.Bj(h:Sy E L K gs w t D pend cl)(ht:Trans (K j) w s' w' es)(fn:FuncId)(pos:String):
 ¬s'.knows E.Wg∧¬s'.knows E.Ch∧w'.heap[E.Wg]?=w.heap[E.Wg]?∧w'.heap[E.Ch]?=w.heap[E.Ch]?∧
 (∀op∈MemOp.ofEvents j fn pos es,∀x,op.act.touch?=some x→¬E.At x)∧(∀op∈MemOp.ofEvents j fn pos es,∀a,op.act≠ .mark (.release a)):=by
 obtain⟨st,sm,ha,_⟩:=h.cells
 obtain⟨sn,rc,tm,hc⟩:=h.chan
 have hW:E.Wg <w.heap.size:=lt_size ha
 have hC:E.Ch <w.heap.size:=lt_size hc
 have kn:∀b,b <w.heap.size→¬(K j).knows b→¬s'.knows b:=fun b hb hk jN=>by
  rcases jN with h'|h'
  ·rcases ht.NI b h' with h1|h1|h1
   ·omega
   ·exact hk (.inl h1)
   exact hk (.inr h1)
  rcases ht.own b h' with h1|h1
  ·omega
  exact hk (.inr h1)
 refine⟨kn _ hW (h.kW j),kn _ hC (h.kC j),ht.frame _ hW fun ho=>h.kW j (.inr ho),ht.frame _ hC fun ho=>h.kC j (.inr ho),fun op az x hx hb=>?_,fun op az a e=>?_⟩
 ·obtain⟨_,b,mH,ve,_⟩:=(Ed ht.vX az).2 x hx
  rcases hb with hb|hb
  ·obtain rfl:b=E.Wg:=by rw[hb] at mH;exact(Option.some.inj mH).symm
   rcases ve with h1|h1|h1
   ·omega
   ·exact h.kW j (.inr h1)
   exact h.kW j (.inl h1.2)
  obtain rfl:b=E.Ch:=by rw[hb] at mH;exact(Option.some.inj mH).symm
  rcases ve with h1|h1|h1
  ·omega
  ·exact h.kC j (.inr h1)
  exact h.kC j (.inl h1.2)
 rw[ofEvents_eq] at az
 obtain⟨e',he,rfl⟩:=Array.mem_map.1 az
 have hl:=Go.ConcR.loc_of_ofEvent e
 have:=ht.vX e' he
 unfold Jz at this
 rw[hl] at this
 simp[CX] at this
theorem yS:∀(es:List Event) (d:Nat),(∀e∈es,Jz s n e)→es.foldl (fun d e=>match e.loc with| .mark .disable=>d+1| .mark .enable=>d-1|_=>d) d=d
 | [],_,_=>rfl
 |e::es,d,h=>by
  have he:=h e (by simp)
  have:(match e.loc with| .mark .disable=>d+1| .mark .enable=>d-1|_=>d)=d:=by
   unfold Jz at he
   split<;>simp_all[CX]
  rw[List.foldl_cons,this]
  exact yS es d fun x hx=>h x (by simp[hx])
theorem Trans.deaf(ht:Trans s w s' w' es)(d:Nat):deafBehind d es=d:=by
 obtain⟨l⟩:=es
 rw[deafBehind,List.foldl_toArray']
 ·exact yS l d fun e he=>ht.vX e (by simpa using he)
 simp
theorem Inv.work(h:Inv E L K gs w t D pend cl main d0)(hm:gL E main){o:ι}{f:World→Tree}(hi:D[i]?=some (.work o (.node f))) (hg:gs[i+1]?=some g):
 rj E L K D pend cl main d0 (crowd gs w sl) sl t (i+1):=by
 obtain⟨e9,du,fu⟩:=h.base.ok i _ hi
 obtain rfl:e9=g:=by rw[hg] at du;exact(Option.some.inj du).symm
 obtain⟨hd,hs,gF⟩:=fu
 obtain⟨g',w',es,s',bW,bX,ht,htr⟩:=gF w (h.base.fit.jP _)
 obtain⟨k1,k2,k3,k4,k5,k6⟩:=h.sy.Bj ht e9.frame.fn e9.frame.place
 refine h.go hm (r':= .work o (f w)) hi (by simp) (by simp) hg bW ⟨ht.os,ht.output⟩ k1 k2 k4 (h.base.fit.own ht _ _) ⟨?_,htr⟩ (fun op az x hx hb=>absurd hb (k5 op az x hx)) k6
  (fun _=>rfl) (fun e=>e) (fun _ e=>e) (fun e=>(by cases e)) (Nat.le_refl _) rfl (Hp (.mk f w)) fun cl' hw _=>h.q5 (r':= .work o (f w)) hi k3 rfl rfl rfl rfl cl' hw
 rw[Deaf_own,ht.deaf];exact hd
theorem Inv.back(h:Inv E L K gs w t D pend cl main d0)(hm:gL E main){f:World→Tree}(hi:D[i]?=some (.back (.node f))) (hg:gs[i+1]?=some g):
 rj E L K D pend cl main d0 (crowd gs w sl) sl t (i+1):=by
 obtain⟨e9,du,fu⟩:=h.base.ok i _ hi
 obtain rfl:e9=g:=by rw[hg] at du;exact(Option.some.inj du).symm
 obtain⟨hd,hs,gF⟩:=fu
 obtain⟨g',w',es,s',bW,bX,ht,htr⟩:=gF w (h.base.fit.jP _)
 obtain⟨k1,k2,k3,k4,k5,k6⟩:=h.sy.Bj ht e9.frame.fn e9.frame.place
 refine h.go hm (r':= .back (f w)) hi (by simp) (by simp) hg bW ⟨ht.os,ht.output⟩ k1 k2 k4 (h.base.fit.own ht _ _) ⟨?_,htr⟩ (fun op az x hx hb=>absurd hb (k5 op az x hx)) k6
  (fun _=>rfl) (fun e=>e) (fun _ e=>e) (fun e=>(by cases e)) (Nat.le_refl _) rfl (Hp (.mk f w)) fun cl' hw _=>h.q5 (r':= .back (f w)) hi k3 rfl rfl rfl rfl cl' hw
 rw[Deaf_own,ht.deaf];exact hd
theorem Inv.at6(h:Inv E L K gs w t D pend cl main d0)(hm:gL E main){k:WK}(hi:D[i]?=some (.st k (n+1))) (hg:gs[i+1]?=some g):
 rj E L K D pend cl main d0 (crowd gs w sl) sl t (i+1):=by
 obtain⟨e9,du,fu⟩:=h.base.ok i _ hi
 obtain rfl:e9=g:=by rw[hg] at du;exact(Option.some.inj du).symm
 obtain⟨hK,hd,⟨hs,g',bW,hp⟩,ZA⟩:=fu
 obtain⟨st,sm,ha,_⟩:=h.sy.cells
 have e0:MemOp.ofEvents (i+1) e9.frame.fn e9.frame.place #[]= #[]:=rfl
 refine h.go hm (r':= .st k n) (s':=K (i+1)) hi (by simp) (by simp) hg (bW w ⟨st,sm,ha⟩) ⟨rfl,rfl⟩ (h.sy.kW _) (h.sy.kC _) rfl ?_ ?_ (by rw[e0];simp) (by rw[e0];simp)
  (fun _=>rfl) (fun e=>e) (fun _ e=>e) (fun e=>(by cases e)) (by cases k<;>exact Nat.le_refl _) rfl (FQ (Nat.lt_succ_self n)) fun cl' hw _=>h.q5 (r':= .st k n) hi rfl (by cases k<;>rfl) (by cases k<;>rfl) (by cases k<;>rfl) (by cases k<;>rfl) cl' hw
 ·rw[mg,e0,Array.append_empty];exact h.base.fit
 rw[e0,Array.append_empty];exact⟨hK,hd,hp,ZA⟩
end
theorem Md.d1{a c:Nat}{o:Option CK}(h:Md mx n a b c o st sm)(hn:1≤n)(ho:o≠none):
 ∃v wt:Nat,v+1=n∧wt≤1∧st=((v+1:Nat):Int)*KK+(wt:Int)∧sm=0∧a=0∧b=0∧c=0∧
  ((v=0∧wt=1)→Md mx v 1 0 0 o ((v:Int)*KK+(wt:Int)) 0)∧(¬(v=0∧wt=1)→Md mx v 0 0 0 o ((v:Int)*KK+(wt:Int)) 0):=by
 cases h with
 |start=>exact absurd rfl ho
 |kd=>exact⟨n-1,0,by omega,by omega,by rw[show n-1+1=n by omega];simp,rfl,rfl,rfl,rfl,fun h=>by omega,fun _=>by simpa using .kd⟩
 |w1 h1=>exact⟨n-1,0,by omega,by omega,by rw[show n-1+1=n by omega];simp,rfl,rfl,rfl,rfl,fun h=>by omega,fun _=>by simpa using .w1 (by omega)⟩
 |w2 h1 h2 h3=>exact⟨n-1,0,by omega,by omega,by rw[show n-1+1=n by omega];simp,rfl,rfl,rfl,rfl,fun h=>by omega,fun _=>by simpa using .w2 (by omega) h2 h3⟩
 |reg h1 h2=>
  refine⟨n-1,1,by omega,by omega,by rw[show n-1+1=n by omega];simp,rfl,rfl,rfl,rfl,fun h=>?_,fun h=>?_⟩
  ·rw[h.1];simpa using .l4 h1
  exact .reg h1 (by omega)
 |l4 _=>omega
 |l3 _=>omega
 |l2 _=>omega
 |sema _ _=>omega
 |over _=>omega
theorem Md.d2{a c:Nat}{o:Option CK}(h:Md mx n a b c o st sm)(hn:1≤a):st=1∧sm=0∧n=0∧a=1∧b=0∧c=0∧Md mx 0 0 1 0 o 1 0:=by
 cases h with
 |l4 h1=>exact⟨rfl,rfl,rfl,rfl,rfl,rfl,.l3 h1⟩
 |_=>omega
theorem Md.d3{a c:Nat}{o:Option CK}(h:Md mx n a b c o st sm)(hn:1≤b):st=1∧sm=0∧n=0∧a=0∧b=1∧c=0∧Md mx 0 0 0 1 o 0 0:=by
 cases h with
 |l3 h1=>exact⟨rfl,rfl,rfl,rfl,rfl,rfl,.l2 h1⟩
 |_=>omega
theorem Md.d4{a c:Nat}{o:Option CK}(h:Md mx n a b c o st sm)(hn:1≤c):st=0∧sm=0∧n=0∧a=0∧b=0∧c=1∧(o≠some .blk→Md mx 0 0 0 0 o 0 1):=by
 cases h with
 |l2 h1=>exact⟨rfl,rfl,rfl,rfl,rfl,rfl,fun h'=> .sema h1 fun e=>h' (by rw[e])⟩
 |_=>omega
theorem Md.run{a c:Nat}{o:Option CK}(h:Md mx n a b c o st sm){k:CK}(ho:o=some k)(hk:k.over):n=0∧a=0∧b=0∧c=0∧st=0∧sm=0:=by
 have nw:¬k.waits:=by cases k<;>simp_all[CK.over,CK.waits]
 cases h with
 |start=>cases ho
 |kd=>cases ho;exact hk.elim
 |w1 _=>cases ho;exact hk.elim
 |w2 _ _ _=>cases ho;exact hk.elim
 |reg h1 _=>cases ho;exact absurd h1 nw
 |l4 h1=>cases ho;exact absurd h1 nw
 |l3 h1=>cases ho;exact absurd h1 nw
 |l2 h1=>cases ho;exact absurd h1 nw
 |sema h1 _=>cases ho;exact absurd h1 nw
 |over _=>exact⟨rfl,rfl,rfl,rfl,rfl,rfl⟩
section
variable {ι:Type} {E:dW ι} {L:Nat→Option Obj} {K:Nat→St} {gs:Array Goroutine} {w w':World} {t u:Trace} {D:List (au ι)} {pend d0:Nat} {cl:AY} {main:Goroutine} {sl:Option (Nat×Nat)}
 {i:Nat} {g g':Goroutine} {es:Array Event}
structure eI(E:dW ι)(w w':World):Prop where
 size:w'.heap.size=w.heap.size
 block:∀b,b≠E.Wg→w'.heap[b]?=w.heap[b]?
 same:XJ w w'
theorem eI.refl(w:World):eI E w w:=⟨rfl,fun _ _=>rfl,rfl,rfl⟩
theorem eI.set(w:World)(k:Nat)(v:Value):eI E w (w.setCell ⟨E.Wg,k,none⟩ v):=
 ⟨by simp[World.setCell],fun b hb=>by simp[World.setCell,Array.getElem?_modify,Ne.symm hb],rfl,rfl⟩
theorem Sy.BV(h:Sy E L K gs w t D pend cl)(hf:Fit L K w t)(hj:j=0∨∃k r,j=k+1∧D[k]?=some r∧r.left=false) (hw:eI E w w') (Aj:∀e∈es,iN E e) (fn:FuncId) (pos:String):
 Fit L K w' (t++MemOp.ofEvents j fn pos es):=by
 have ho:=iN.ops Aj j fn pos
 obtain⟨st,sm,ha,_⟩:=h.cells
 refine hf.beside E.Wg j h.kW h.lW (lt_size ha) (Nat.le_of_eq hw.size.symm) (fun b hb _=>hw.block b hb) (fun op az=>(ho op az).1) fun op az x hx=>?_
 obtain⟨h1,h2⟩:=(ho op az).2.2 x hx
 refine⟨h1,fun sd p a vi hc=>h.plain j hj p a vi (.inl (by rw[hc.1];exact h1)) ?_⟩
 rcases hc.2.2.2 with h3|h3|h3
 ·exact h3
 ·rw[h2] at h3;cases h3
 rw[h2] at h3;cases h3.2.2
theorem Inv.zi(h:Inv E L K gs w t D pend cl main d0)(hm:gL E main){k:WK}{r':au ι}(hi:D[i]?=some (.st k 0)) (hg:gs[i+1]?=some g) (hgo:stepG E.P false g w= .go g' w' es)
 (hw:eI E w w') (Aj:∀e∈es,iN E e) (VY:r'≠ .closer) (hr:ov E (t++MemOp.ofEvents (i+1) g.frame.fn g.frame.place es) (i+1) (K (i+1)) g' r')
 (Ih:(∃ic tr n,cl=some (ic,.run tr,n))→r'.cur=true→False)
 (Kv:r'.cnt≤(au.st (ι:=ι) k 0).cnt) (ah0:r'.YM=none) (T8:uX r' (.st k 0))
  (nt:Md E.max (fy au.cnt D+pend) (fy au.c4 D) (fy au.c3 D) (fy au.c2 D) (cl.map (·.2.1)) st sm)
 (n5:∀cl':AY,cl'≠none→Md E.max (fy au.cnt D+pend) (fy au.c4 D) (fy au.c3 D) (fy au.c2 D) (cl'.map (·.2.1)) st sm→
  (mayWake E.P g=true→(g'.status= .running∨g'.status= .finished)→∀ic n,cl'≠some (ic,.blk,n))→
  ∃st sm,WgAt E.ty E.Wg w' st sm∧Md E.max (fy au.cnt (D.set i r')+pend) (fy au.c4 (D.set i r')) (fy au.c3 (D.set i r')) (fy au.c2 (D.set i r')) (cl'.map (·.2.1)) st sm)
 (hsb:(∃o,r'= .gE o)→main.status= .running:=by rintro⟨o,e⟩;cases e):
 rj E L K D pend cl main d0 (crowd gs w sl) sl t (i+1):=by
 have ho:=iN.ops Aj (i+1) g.frame.fn g.frame.place
 have iR:cl≠none:=fun e=>by
  have:=h.sy.Fz
  subst e
  exact this _ (List.mem_of_getElem? hi)
 refine h.go hm (r':=r') (s':=K (i+1)) hi (by simp) VY hg hgo hw.same (h.sy.kW _) (h.sy.kC _) (hw.block _ (Ne.symm h.sy.ne)) ?_ hr (fun op az x hx _=>((ho op az).2.2 x hx).2) (fun op az=>(ho op az).2.1)
  (fun _=>rfl) (fun e=>e.elim) (fun e e'=>(Ih e e').elim) (fun e=>(by cases e)) Kv (by rw[ah0];rfl) T8 (fun cl' Ff hb=>?_) hsb
 ·rw[mg]
  exact h.sy.BV h.base.fit (.inr ⟨i,_,rfl,hi,rfl⟩) hw Aj _ _
 refine n5 cl' ?_ (nt.as3 Ff) hb
 cases Ff with
 |same=>exact iR
 |up ic=>simp
theorem Vn{cl:AY}(h:cl≠none):cl.map (·.2.1)≠none:=by cases cl<;>simp_all
theorem anX{cl:AY}(h:∀ic n,cl≠some (ic,.blk,n)):cl.map (·.2.1)≠some .blk:=by
 match cl with
 |none=>simp
 |some (ic,c,n)=>intro e;simp only[Option.map_some,Option.some.injEq] at e;subst e;exact h ic n rfl
theorem Ny{st4 st3 st2:Nat}{o:Option CK}{r r':au ι}(hi:D[i]?=some r)
 (e1:n+r.cnt=fy au.cnt D+pend+r'.cnt) (e4:st4+r.c4=fy au.c4 D+r'.c4) (e3:st3+r.c3=fy au.c3 D+r'.c3) (e2:st2+r.c2=fy au.c2 D+r'.c2) (h:Md mx n st4 st3 st2 o st sm):
 Md mx (fy au.cnt (D.set i r')+pend) (fy au.c4 (D.set i r')) (fy au.c3 (D.set i r')) (fy au.c2 (D.set i r')) o st sm:=by
 have f1:=jK au.cnt (y:=r') hi
 have f4:=jK au.c4 (y:=r') hi
 have f3:=jK au.c3 (y:=r') hi
 have f2:=jK au.c2 (y:=r') hi
 rw[show fy au.cnt (D.set i r')+pend=n by omega,show fy au.c4 (D.set i r')=st4 by omega,show fy au.c3 (D.set i r')=st3 by omega,show fy au.c2 (D.set i r')=st2 by omega]
 exact h
theorem uB(f:au ι→Nat){r:au ι}(hi:D[i]?=some r):f r≤fy f D:=by
 have:=jK f (y:=au.closer) hi
 have h0:=jK f (D:=D.set i .closer) (i:=i) (x:= .closer) (y:=r) (by rw[List.getElem?_set_self (List.getElem?_eq_some_iff.1 hi).1])
 rw[List.set_set,show D.set i r=D from by obtain⟨hl,rfl⟩:=List.getElem?_eq_some_iff.1 hi;simp] at h0
 have key:∀(D:List (au ι)) (i:Nat) (r:au ι),D[i]?=some r→f r≤fy f D:=by
  intro D
  induction D with
  |nil=>intro i r h;simp at h
  |cons a D ih=>
   intro i r h
   cases i with
   |zero=>simp only[List.getElem?_cons_zero,Option.some.injEq] at h;subst h;simp[fy]
   |succ i=>have:=ih i r (by simpa using h);simp only[fy,List.map_cons,List.sum_cons] at this ⊢;omega
 exact key D i r hi
theorem oz(k:Nat)(b:Bool):iN E ⟨.cell ⟨E.Wg,k,none⟩,b,true⟩:= .inr (.inr (.inr (.inr ⟨_,_,rfl,rfl⟩)))
theorem Inv.r0(h:Inv E L K gs w t D pend cl main d0)(hm:gL E main)(hi:D[i]?=some (.st .r0 0)) (hg:gs[i+1]?=some g):rj E L K D pend cl main d0 (crowd gs w sl) sl t (i+1):=by
 obtain⟨e9,du,fu⟩:=h.base.ok i _ hi
 obtain rfl:e9=g:=by rw[hg] at du;exact(Option.some.inj du).symm
 obtain⟨hK,hd,⟨hs,g',bW,n,hp⟩,_⟩:=fu
 obtain⟨st,sm,ha,nt⟩:=h.sy.cells
 refine h.zi hm (r':= .st .k1 n) hi hg (bW w) (eI.refl w) (by intro e he;simp at he;subst he;exact .inr (.inr (.inl rfl))) (by simp) ?_ (fun _ e=>(by cases e)) (Nat.le_refl _) rfl (fS (by simp[au.mu,WK.NO])) nt fun cl' hc Dj _=>?_
 ·refine⟨hK,?_,hp,fun _=>⟨_,ConcN.RelBy.new hd _ _⟩⟩
  rw[Deaf_own,hd];rfl
 exact⟨st,sm,ha,Ny hi rfl rfl rfl rfl Dj⟩
theorem Inv.k1(h:Inv E L K gs w t D pend cl main d0)(hm:gL E main)(hi:D[i]?=some (.st .k1 0)) (hg:gs[i+1]?=some g):rj E L K D pend cl main d0 (crowd gs w sl) sl t (i+1):=by
 obtain⟨e9,du,fu⟩:=h.base.ok i _ hi
 obtain rfl:e9=g:=by rw[hg] at du;exact(Option.some.inj du).symm
 obtain⟨hK,hd,⟨hs,g',bW,n,hp⟩,P9⟩:=fu
 obtain⟨p,iA⟩:=P9 rfl
 obtain⟨st,sm,ha,nt⟩:=h.sy.cells
 refine h.zi hm (r':= .st .d1 n) hi hg (bW w) (eI.refl w) (by intro e he;simp at he;subst he;exact .inl rfl) (by simp) ?_ (fun _ e=>(by cases e)) (Nat.le_refl _) rfl (fS (by simp[au.mu,WK.NO])) nt fun cl' hc Dj _=>?_
 ·refine⟨hK,?_,hp,fun _=>⟨p,ConcN.RelBy.appOwn iA _ _ _ fun j e he=> .inl ?_⟩⟩
  ·rw[Deaf_own,hd];rfl
  have:=Array.mem_of_getElem? he;simp at this;subst this;rfl
 exact⟨st,sm,ha,Ny hi rfl rfl rfl rfl Dj⟩
theorem Inv.d1(h:Inv E L K gs w t D pend cl main d0)(hm:gL E main)(hi:D[i]?=some (.st .d1 0)) (hg:gs[i+1]?=some g):rj E L K D pend cl main d0 (crowd gs w sl) sl t (i+1):=by
 obtain⟨e9,du,fu⟩:=h.base.ok i _ hi
 obtain rfl:e9=g:=by rw[hg] at du;exact(Option.some.inj du).symm
 obtain⟨hK,hd,aFx,P9⟩:=fu
 obtain⟨p,iA⟩:=P9 rfl
 obtain⟨st,sm,ha,nt⟩:=h.sy.cells
 have iR:cl≠none:=fun e=>by
  have:=h.sy.Fz
  subst e
  exact this _ (List.mem_of_getElem? hi)
 have hn:1≤fy au.cnt D+pend:=Nat.le_trans (uB au.cnt hi) (Nat.le_add_right _ _)
 obtain⟨v,wt,hv,hwt,rfl,rfl,ea,eb,ec,_,_⟩:=nt.d1 hn (Vn iR)
 have Kq:=h.sy.C2
 obtain⟨hs,dq⟩:=aFx
 obtain⟨g',bW,SC,OT⟩:=dq v wt hwt (by omega)
 have arL:ConcN.RelBy (stA E.Wg) (t++MemOp.ofEvents (i+1) e9.frame.fn e9.frame.place #[rd (stA E.Wg),wr (stA E.Wg)]) (i+1) p:=by
  refine ConcN.RelBy.appOwn iA _ _ _ fun j e he=> .inr ?_
  have F3:Deaf t (i+1)=1:=hd
  match j,he with
  |0,he=>simp at he;subst he;exact⟨⟨_,_,rfl⟩,by simp[deafBehind,F3]⟩
  |1,he=>simp at he;subst he;exact⟨⟨_,_,rfl⟩,by simp[deafBehind,F3,rd]⟩
  |j+2,he=>simp at he
 have Am:Deaf (t++MemOp.ofEvents (i+1) e9.frame.fn e9.frame.place #[rd (stA E.Wg),wr (stA E.Wg)]) (i+1)=1:=by rw[Deaf_own,hd];rfl
 have Aj:∀e∈ #[rd (stA E.Wg),wr (stA E.Wg)],iN E e:=by intro e he;simp at he;rcases he with rfl|rfl<;>exact oz 0 _
 have bX:¬ ∃ic tr n,cl=some (ic,CK.run tr,n):=fun⟨ic,tr,n,e⟩=>by
  have:=nt.run (k:= .run tr) (by rw[e];rfl) trivial
  omega
 by_cases hb:v=0∧wt=1
 ·obtain⟨n,hp⟩:=SC hb
  refine h.zi hm (r':= .st .d2 n) hi hg (bW w ha) (eI.set w 0 _) Aj (by simp) ⟨hK,Am,hp,fun _=>⟨p,arL⟩⟩ (fun _ e=>(by cases e)) (Nat.zero_le _) rfl (fS (by simp[au.mu,WK.NO])) nt fun cl' hc Dj _=>?_
  obtain⟨v',wt',hv',aO8,est,_,_,_,_,h1,_⟩:=Dj.d1 hn (Vn hc)
  have:v'=v:=by omega
  subst this
  have:wt'=wt:=by omega
  subst this
  exact⟨_,_,Go.ConcR.WgAt.setSt ha _,Ny hi (by simp[au.cnt];omega) (by simp[au.c4];omega) (by simp[au.c3];omega) (by simp[au.c2];omega) (h1 hb)⟩
 obtain⟨q,hq⟩:=OT hb
 refine h.zi hm (r':= .leave q 1 true) hi hg (bW w ha) (eI.set w 0 _) Aj (by simp) ⟨hK,hq,Am,fun _=>⟨p,arL⟩,fun e=>(by cases e)⟩ (fun e _=>bX e) (Nat.zero_le _) rfl (fS (by simp[au.mu,WK.NO])) nt fun cl' hc Dj _=>?_
 obtain⟨v',wt',hv',aO8,est,_,_,_,_,_,h1⟩:=Dj.d1 hn (Vn hc)
 have:v'=v:=by omega
 subst this
 have:wt'=wt:=by omega
 subst this
 exact⟨_,_,Go.ConcR.WgAt.setSt ha _,Ny hi (by simp[au.cnt];omega) (by simp[au.c4];omega) (by simp[au.c3];omega) (by simp[au.c2];omega) (h1 hb)⟩
theorem Inv.d2(h:Inv E L K gs w t D pend cl main d0)(hm:gL E main)(hi:D[i]?=some (.st .d2 0)) (hg:gs[i+1]?=some g):rj E L K D pend cl main d0 (crowd gs w sl) sl t (i+1):=by
 obtain⟨e9,du,fu⟩:=h.base.ok i _ hi
 obtain rfl:e9=g:=by rw[hg] at du;exact(Option.some.inj du).symm
 obtain⟨hK,hd,⟨hs,g',bW,n,hp⟩,P9⟩:=fu
 obtain⟨p,iA⟩:=P9 rfl
 obtain⟨st,sm,ha,nt⟩:=h.sy.cells
 have hn:1≤fy au.c4 D:=uB au.c4 hi
 obtain⟨rfl,rfl,e1,e4,e3,e2,_⟩:=nt.d2 hn
 refine h.zi hm (r':= .st .d3 n) hi hg (bW w ha) (eI.refl w) (by intro e he;simp at he;subst he;exact oz 0 _) (by simp) ?_ (fun _ e=>(by cases e)) (Nat.le_refl _) rfl (fS (by simp[au.mu,WK.NO])) nt fun cl' hc Dj _=>?_
 ·refine⟨hK,?_,hp,fun _=>⟨p,ConcN.RelBy.appOwn iA _ _ _ fun j e he=> .inr ?_⟩⟩
  ·rw[Deaf_own,hd];rfl
  have F3:Deaf t (i+1)=1:=hd
  match j,he with
  |0,he=>simp at he;subst he;exact⟨⟨_,_,rfl⟩,by simp[deafBehind,F3]⟩
  |j+1,he=>simp at he
 exact⟨_,_,ha,Ny hi (by simp[au.cnt];omega) (by simp[au.c4];omega) (by simp[au.c3];omega) (by simp[au.c2];omega) (Dj.d2 hn).2.2.2.2.2.2⟩
theorem Inv.d3(h:Inv E L K gs w t D pend cl main d0)(hm:gL E main)(hi:D[i]?=some (.st .d3 0)) (hg:gs[i+1]?=some g):rj E L K D pend cl main d0 (crowd gs w sl) sl t (i+1):=by
 obtain⟨e9,du,fu⟩:=h.base.ok i _ hi
 obtain rfl:e9=g:=by rw[hg] at du;exact(Option.some.inj du).symm
 obtain⟨hK,hd,⟨hs,g',bW,n,hp⟩,P9⟩:=fu
 obtain⟨p,iA⟩:=P9 rfl
 obtain⟨st,sm,ha,nt⟩:=h.sy.cells
 have hn:1≤fy au.c3 D:=uB au.c3 hi
 obtain⟨rfl,rfl,e1,e4,e3,e2,_⟩:=nt.d3 hn
 refine h.zi hm (r':= .st .d4 n) hi hg (bW w ha) (eI.set w 0 _) (by intro e he;simp at he;subst he;exact oz 0 _) (by simp) ?_ (fun _ e=>(by cases e)) (Nat.le_refl _) rfl (fS (by simp[au.mu,WK.NO])) nt fun cl' hc Dj _=>?_
 ·refine⟨hK,?_,hp,fun _=>⟨p,ConcN.RelBy.appOwn iA _ _ _ fun j e he=> .inr ?_⟩⟩
  ·rw[Deaf_own,hd];rfl
  have F3:Deaf t (i+1)=1:=hd
  match j,he with
  |0,he=>simp at he;subst he;exact⟨⟨_,_,rfl⟩,by simp[deafBehind,F3]⟩
  |j+1,he=>simp at he
 exact⟨_,_,Go.ConcR.WgAt.setSt ha _,Ny hi (by simp[au.cnt];omega) (by simp[au.c4];omega) (by simp[au.c3];omega) (by simp[au.c2];omega) (Dj.d3 hn).2.2.2.2.2.2⟩
theorem Inv.d4(h:Inv E L K gs w t D pend cl main d0)(hm:gL E main)(hi:D[i]?=some (.st .d4 0)) (hg:gs[i+1]?=some g):rj E L K D pend cl main d0 (crowd gs w sl) sl t (i+1):=by
 obtain⟨e9,du,fu⟩:=h.base.ok i _ hi
 obtain rfl:e9=g:=by rw[hg] at du;exact(Option.some.inj du).symm
 obtain⟨hK,hd,⟨hs,hmw,g',bW,q,hq⟩,P9⟩:=fu
 obtain⟨p,iA⟩:=P9 rfl
 obtain⟨st,sm,ha,nt⟩:=h.sy.cells
 have hn:1≤fy au.c2 D:=uB au.c2 hi
 obtain⟨rfl,rfl,e1,e4,e3,e2,_⟩:=nt.d4 hn
 have F3:Deaf t (i+1)=1:=hd
 have bX:¬ ∃ic tr n,cl=some (ic,CK.run tr,n):=fun⟨ic,tr,n,e⟩=>by
  have:=nt.run (k:= .run tr) (by rw[e];rfl) trivial
  omega
 refine h.zi hm (r':= .leave q 1 true) hi hg (bW w ha) (eI.set w 1 _) (by
  intro e he;simp[semEvents] at he
  rcases he with rfl|rfl|rfl|rfl
  ·exact .inl rfl
  ·exact oz 1 _
  ·exact oz 1 _
  exact .inr (.inl rfl)) (by simp) ?_ (fun e _=>bX e) (Nat.le_refl _) rfl (fS (by simp[au.mu,WK.NO])) nt fun cl' hc Dj hb=>?_
 ·refine⟨hK,hq,?_,fun _=>⟨p,ConcN.RelBy.appOwn iA _ _ _ fun j e he=>?_⟩,fun e=>(by cases e)⟩
  ·rw[Deaf_own,hd];rfl
  match j,he with
  |0,he=>simp[semEvents] at he;subst he;exact .inl rfl
  |1,he=>simp[semEvents] at he;subst he;exact .inr ⟨⟨_,_,rfl⟩,by simp[deafBehind,F3,semEvents]⟩
  |2,he=>simp[semEvents] at he;subst he;exact .inr ⟨⟨_,_,rfl⟩,by simp[deafBehind,F3,semEvents]⟩
  |3,he=>simp[semEvents] at he;subst he;exact .inl rfl
  |j+4,he=>simp[semEvents] at he
 exact⟨_,_,Go.ConcR.WgAt.setSm ha _,Ny hi (by simp[au.cnt];omega) (by simp[au.c4];omega) (by simp[au.c3];omega) (by simp[au.c2];omega) ((Dj.d4 hn).2.2.2.2.2.2 (anX (hb hmw hq.status)))⟩
end
def CK.phi(mx:Nat):CK→Nat
 | .kd=>2*mx+9
 | .w1 b=>2*b+8
 | .w2 b _=>2*b+9
 | .wr=>7
 | .w3| .blk=>6
 | .w4=>5
 | .ke=>4
 | .aq=>3
 | .run _=>2
def CK.tree:CK→Tree
 | .run tr=>tr
 |_=> .leaf
def nJ(mx:Nat):AY→Nat×Tree×Nat
 |none=>(0,.leaf,0)
 |some (_,c,n)=>(c.phi mx,c.tree,n)
section
variable {ι:Type} {E:dW ι} {L:Nat→Option Obj} {K:Nat→St} {gs:Array Goroutine} {w w':World} {t u:Trace} {D:List (au ι)} {pend d0:Nat} {main:Goroutine} {sl:Option (Nat×Nat)}
 {ic:Nat} {g g':Goroutine} {es:Array Event} {c:CK} {n:Nat}
def TY(E:dW ι)(L:Nat→Option Obj)(K:Nat→St)(D:List (au ι))(pend:Nat)(ic:Nat)(c:CK)(n:Nat)(main:Goroutine)(d0:Nat)(m:Machine)(sl:Option (Nat×Nat))(t:Trace):Prop:=
 ∃K' lg w' u c' n',runT E.P m (ic+1)=(.next (crowd lg w' sl),u)∧Inv E L K' lg w' (t++u) D pend (some (ic,c',n')) main d0∧K' 0=K 0∧FD (nJ E.max (some (ic,c',n'))) (nJ E.max (some (ic,c,n)))
theorem Inv.goC(h:Inv E L K gs w t D pend (some (ic,c,n)) main d0)(hm:gL E main){c':CK} 
 (hg:gs[ic+1]?=some g) (hgo:stepG E.P false g w= .go g' w' es) (Sn:XJ w w')
 (bH:¬s'.knows E.Wg) (oS:¬s'.knows E.Ch) (vM:w'.heap[E.Ch]?=w.heap[E.Ch]?)
 (mE:Fit L (fM K (ic+1) s') w' (t++MemOp.ofEvents (ic+1) g.frame.fn g.frame.place es))
 (k8:∀op∈MemOp.ofEvents (ic+1) g.frame.fn g.frame.place es,∀x,op.act.touch?=some x→E.At x→x.kind≠ .plain)
 (ZA:c'.early→c.early∧∀op∈MemOp.ofEvents (ic+1) g.frame.fn g.frame.place es,∀x,op.act.touch?=some x→blk x.loc=some E.Wg→x.kind≠ .said)
 (iA:∀op∈MemOp.ofEvents (ic+1) g.frame.fn g.frame.place es,∀a,op.act≠ .mark (.release a))
 (n5:∃st sm,WgAt E.ty E.Wg w' st sm∧Md E.max (fy au.cnt D+pend) (fy au.c4 D) (fy au.c3 D) (fy au.c2 D) (some c') st sm)
 (Am:deafBehind c.deaf es=c'.deaf) (ql:c'.at E s' g' n') (Wh:(∃tr,c'= .run tr)→AcqAll E (t++MemOp.ofEvents (ic+1) g.frame.fn g.frame.place es) D ic)
 (T8:FD (nJ E.max (some (ic,c',n'))) (nJ E.max (some (ic,c,n)))):
 TY E L K D pend ic c n main d0 (crowd gs w sl) sl t:=by
 have hu:∀op∈MemOp.ofEvents (ic+1) g.frame.fn g.frame.place es,op.g=ic+1:=fun op az=>Go.ConcR.g_of_ofEvents op az
 obtain⟨h1,h2,h3,⟨gc,FY,bbU⟩,h5⟩:=h.sy.Fz
 have cP:=(List.getElem?_eq_some_iff.1 h1).1
 obtain⟨sn,rc,tm,hc⟩:=h.sy.chan
 have tI:w'.heap[E.Ch]?=some (.chan 0 #[] false sn rc tm):=by rw[vM];exact hc
 have eD:D.set ic au.closer=D:=by obtain⟨hl,e⟩:=List.getElem?_eq_some_iff.1 h1;rw[←e];simp
 have ZP:=h.base.step (g:=g) (g':=g') (r':= .closer) cP hu Sn mE trivial fun _ _ _ _=>⟨sn,rc,tm,tI⟩
 rw[eD] at ZP
 have bX:=runT_crowd_go (P:=E.P) (sl:=sl) (i:=ic+1) hg (by simpa using hgo)
 have JN:∀b,¬s'.knows b→(∀j,¬(K j).knows b)→∀j,¬(fM K (ic+1) s' j).knows b:=fun b h1 h2 j=>by
  by_cases e:j=ic+1
  ·subst e;rw[aC];exact h1
  rw[aI _ _ e];exact h2 j
 have old:∀p x,touchAt (t++MemOp.ofEvents (ic+1) g.frame.fn g.frame.place es) p=some x→E.At x→x.kind= .plain→touchAt t p=some x:=fun p x hx hb hk=>by
  rcases bJ hx with ⟨_,h'⟩| ⟨_,op,hm,_,yL⟩
  ·exact h'
  exact absurd hk (k8 op hm x yL hb)
 refine⟨_,_,w',_,c',n',bX,⟨ZP,⟨JN _ bH h.sy.kW,JN _ oS h.sy.kC,h.sy.lW,h.sy.lC,h.sy.ne,fun a=>(h.sy.norel a).app fun op az=>iA op az a,fun j hj p x hx hb hk=>(h.sy.plain j hj p x (old p x hx hb hk) hb hk).app _,fun he p x hx hb hk=>?_,n5,h.sy.C2,⟨sn,rc,tm,tI⟩,fun sn rc tm hc=>h.sy.bal sn rc tm (by rw[←vM];exact hc),
  ⟨h1,h2,by rw[Deaf_own,h3];exact Am,⟨g',by simp[h.base.size,cP],by rw[aC];exact ql⟩,Wh⟩⟩,?_,?_⟩,aI _ _ (by omega),T8⟩
 ·rcases bJ hx with ⟨_,h'⟩| ⟨_,op,hm,_,yL⟩
  ·exact(h.sy.said (ZA he).1 p x h' hb hk).app _
  exact absurd hk ((ZA he).2 op hm x yL hb)
 ·rw[fZ (by omega) h.main,hm.woken _ _ tI]
 rw[gR _ _ fun op az=>by rw[hu op az];omega];exact h.deaf
theorem Inv.yF(h:Inv E L K gs w t D pend (some (ic,c,n)) main d0)(hm:gL E main){c':CK} 
 (hg:gs[ic+1]?=some g) (hgo:stepG E.P false g w= .go g' w' es) (hw:eI E w w') (Aj:∀e∈es,iN E e) (Ak:c'.early→c.early)
 (n5:∃st sm,WgAt E.ty E.Wg w' st sm∧Md E.max (fy au.cnt D+pend) (fy au.c4 D) (fy au.c3 D) (fy au.c2 D) (some c') st sm)
 (Am:deafBehind c.deaf es=c'.deaf) (ql:c'.at E (K (ic+1)) g' n') (Wh:(∃tr,c'= .run tr)→AcqAll E (t++MemOp.ofEvents (ic+1) g.frame.fn g.frame.place es) D ic)
 (T8:FD (nJ E.max (some (ic,c',n'))) (nJ E.max (some (ic,c,n)))):
 TY E L K D pend ic c n main d0 (crowd gs w sl) sl t:=by
 have ho:=iN.ops Aj (ic+1) g.frame.fn g.frame.place
 refine h.goC hm hg hgo hw.same (h.sy.kW _) (h.sy.kC _) (hw.block _ (Ne.symm h.sy.ne)) ?_ (fun op az x hx _=>by rw[((ho op az).2.2 x hx).2];simp) (fun e=>⟨Ak e,fun op az x hx _=>by rw[((ho op az).2.2 x hx).2];simp⟩)
  (fun op az=>(ho op az).2.1) n5 Am ql Wh T8
 rw[mg]
 exact h.sy.BV h.base.fit (.inr ⟨ic,_,rfl,h.sy.Fz.1,rfl⟩) hw Aj _ _
theorem Inv.Eo(h:Inv E L K gs w t D pend (some (ic,c,n)) main d0)(hm:gL E main)(hg:gs[ic+1]?=some g) (T7:∀tr,c≠ .run tr)
 (bW:∀w,E.live w→stepG E.P false g w= .go g' w #[]) (ql:c.at E (K (ic+1)) g' n') (hn:n' <n):TY E L K D pend ic c n main d0 (crowd gs w sl) sl t:=by
 obtain⟨st,sm,ha,nt⟩:=h.sy.cells
 exact h.yF hm hg (bW w ⟨st,sm,ha⟩) (eI.refl w) (by simp) (fun e=>e) ⟨st,sm,ha,nt⟩ rfl ql (fun⟨tr,e⟩=>absurd e (T7 tr)) (FQ hn)
theorem Md.zero{a c:Nat}{k:CK}(h:Md mx n a b c (some k) st sm)(hk:k= .kd∨(∃b,k= .w1 b)∨∃b v,k= .w2 b v):st=(n:Int)*KK∧sm=0∧a=0∧b=0∧c=0∧(∀b,k= .w1 b→n≤b)∧∀b v,k= .w2 b v→n≤v∧1≤v∧v≤b+1:=by
 have nw:¬k.waits∧¬k.over:=by rcases hk with rfl| ⟨_,rfl⟩| ⟨_,_,rfl⟩<;>exact⟨id,id⟩
 cases h with
 |kd=>exact⟨rfl,rfl,rfl,rfl,rfl,(fun _ e=>(by cases e)),(fun _ _ e=>(by cases e))⟩
 |w1 h1=>exact⟨rfl,rfl,rfl,rfl,rfl,(fun _ e=>by cases e;exact h1),(fun _ _ e=>(by cases e))⟩
 |w2 h1 h2 h3=>exact⟨rfl,rfl,rfl,rfl,rfl,(fun _ e=>(by cases e)),(fun _ _ e=>by cases e;exact⟨h1,h2,h3⟩)⟩
 |reg h1 _=>exact absurd h1 nw.1
 |l4 h1=>exact absurd h1 nw.1
 |l3 h1=>exact absurd h1 nw.1
 |l2 h1=>exact absurd h1 nw.1
 |sema h1 _=>exact absurd h1 nw.1
 |over h1=>exact absurd h1 nw.2
theorem Md.waiting{a c:Nat}{k k':CK}(h:Md mx n a b c (some k) st sm)(hk:k.waits)(jN:k'.waits)(hb:k'≠ .blk∨sm=0):Md mx n a b c (some k') st sm:=by
 cases h with
 |kd=>exact hk.elim
 |w1 _=>exact hk.elim
 |w2 _ _ _=>exact hk.elim
 |reg _ h2=>exact .reg jN h2
 |l4 _=>exact .l4 jN
 |l3 _=>exact .l3 jN
 |l2 _=>exact .l2 jN
 |sema _ _=>exact .sema jN (hb.resolve_right (by decide))
 |over h1=>cases k<;>first|exact hk.elim|exact h1.elim
theorem Md.up{a c:Nat}{k:CK}(h:Md mx n a b c (some k) st sm)(hk:k.waits):(∃x,x=st∧sm=0)∨(st=0∧sm=1∧n=0∧a=0∧b=0∧c=0):=by
 cases h with
 |kd=>exact hk.elim
 |w1 _=>exact hk.elim
 |w2 _ _ _=>exact hk.elim
 |reg _ _=>exact .inl ⟨_,rfl,rfl⟩
 |l4 _=>exact .inl ⟨_,rfl,rfl⟩
 |l3 _=>exact .inl ⟨_,rfl,rfl⟩
 |l2 _=>exact .inl ⟨_,rfl,rfl⟩
 |sema _ _=>exact .inr ⟨rfl,rfl,rfl,rfl,rfl,rfl⟩
 |over h1=>cases k<;>first|exact hk.elim|exact h1.elim
theorem aba:(∀e∈ #[said .disable],iN E e)∧(∀e∈ #[said .enable],iN E e)∧(∀e∈ #[said (.acquire (stA E.Wg))],iN E e)∧(∀e∈ #[rd (stA E.Wg)],iN E e)∧(∀e∈ #[rd (stA E.Wg),wr (stA E.Wg)],iN E e)∧(∀e∈semEvents (smA E.Wg),iN E e):=by
 refine⟨?_,?_,?_,?_,?_,?_⟩
 ·intro e he;simp at he;subst he;exact .inl rfl
 ·intro e he;simp at he;subst he;exact .inr (.inl rfl)
 ·intro e he;simp at he;subst he;exact .inr (.inr (.inr (.inl rfl)))
 ·intro e he;simp at he;subst he;exact oz 0 _
 ·intro e he;simp at he;rcases he with rfl|rfl<;>exact oz 0 _
 intro e he;simp[semEvents] at he
 rcases he with rfl|rfl|rfl|rfl
 ·exact .inl rfl
 ·exact oz 1 _
 ·exact oz 1 _
 exact .inr (.inl rfl)
end
section
variable {ι:Type} {E:dW ι} {L:Nat→Option Obj} {K:Nat→St} {gs:Array Goroutine} {w w':World} {t u:Trace} {D:List (au ι)} {pend d0:Nat} {main:Goroutine} {sl:Option (Nat×Nat)}
 {ic:Nat} {g g':Goroutine} {es:Array Event} {c:CK} {n:Nat}
theorem Inv.closer(h:Inv E L K gs w t D pend (some (ic,c,n)) main d0)(hm:gL E main)(hg:gs[ic+1]?=some g) (hs:g.status= .running) (T7:c≠ .run .leaf):
 TY E L K D pend ic c n main d0 (crowd gs w sl) sl t:=by
 obtain⟨_,_,Am,⟨gc,FY,ql⟩,Wh⟩:=h.sy.Fz
 obtain rfl:gc=g:=by rw[hg] at FY;exact(Option.some.inj FY).symm
 obtain⟨st,sm,ha,nt⟩:=h.sy.cells
 obtain⟨s1,s2,s3,s4,s5,s6⟩:=aba (E:=E)
 cases c with
 |kd=>
  cases n with
  |succ n=>obtain⟨_,g',bW,hp⟩:=ql;exact h.Eo hm hg (by simp) bW hp (Nat.lt_succ_self n)
  |zero=>
   obtain⟨_,g',bW,n',hp⟩:=ql
   obtain⟨rfl,rfl,e4,e3,e2,_⟩:=nt.zero (.inl rfl)
   refine h.yF hm (c':= .w1 E.max) hg (bW w) (eI.refl w) s1 (fun _=>trivial) ⟨_,_,ha,?_⟩ rfl hp (fun⟨_,e⟩=>(by cases e)) (fS (by simp[nJ,CK.phi]))
   rw[e4,e3,e2];exact .w1 h.sy.C2
 |w1 b=>
  cases n with
  |succ n=>
   have:∃g',(∀w,E.live w→stepG E.P false gc w= .go g' w #[])∧Pure E.P false E.live (E.W1 (K (ic+1)) b) n g':=ql.2
   obtain⟨g',bW,hp⟩:=this
   exact h.Eo hm hg (by simp) bW hp (Nat.lt_succ_self n)
  |zero=>
   obtain⟨rfl,rfl,e4,e3,e2,hb,_⟩:=nt.zero (.inr (.inl ⟨b,rfl⟩))
   have hle:=hb b rfl
   rw[e4,e3,e2] at nt
   have out:(∃g',(∀w,WgAt E.ty E.Wg w 0 0→stepG E.P false gc w= .go g' w #[rd (stA E.Wg)])∧E.pure false (E.Ke (K (ic+1))) g')→fy au.cnt D+pend=0→TY E L K D pend ic (.w1 b) 0 main d0 (crowd gs w sl) sl t:=by
    rintro⟨g',bW,n',hp⟩ h0
    rw[h0] at ha
    have vi:WgAt E.ty E.Wg w 0 0:=by simpa using ha
    refine h.yF hm (c':= .ke) hg (bW w vi) (eI.refl w) s4 (fun e=>e.elim) ⟨_,_,vi,?_⟩ rfl hp (fun⟨_,e⟩=>(by cases e)) (fS (by simp[nJ,CK.phi]))
    rw[e4,e3,e2,h0];exact .over trivial
   cases b with
   |zero=>exact out ql.2 (by omega)
   |succ b=>
    obtain⟨_,h0,hv⟩:=ql
    by_cases hz:fy au.cnt D+pend=0
    ·exact out h0 hz
    obtain⟨g',bW,n',hp⟩:=hv (fy au.cnt D+pend) (by omega) hle
    refine h.yF hm (c':= .w2 b (fy au.cnt D+pend)) hg (bW w ha) (eI.refl w) s4 (fun _=>trivial) ⟨_,_,ha,?_⟩ rfl hp (fun⟨_,e⟩=>(by cases e)) (fS (by simp only[nJ,CK.phi];omega))
    rw[e4,e3,e2];exact .w2 (Nat.le_refl _) (by omega) hle
 |w2 b v=>
  cases n with
  |succ n=>obtain⟨_,g',bW,hp⟩:=ql;exact h.Eo hm hg (by simp) bW hp (Nat.lt_succ_self n)
  |zero=>
   obtain⟨rfl,rfl,e4,e3,e2,_,hb⟩:=nt.zero (.inr (.inr ⟨b,v,rfl⟩))
   obtain⟨h1,h2,h3⟩:=hb b v rfl
   obtain⟨_,⟨e9,aPA,n1,hp1⟩,aGh⟩:=ql
   by_cases hv:fy au.cnt D+pend=v
   ·rw[hv] at ha
    refine h.yF hm (c':= .wr) hg (aPA w ha) (eI.set w 0 _) s5 (fun _=>trivial) ⟨_,_,Go.ConcR.WgAt.setSt ha _,?_⟩ rfl hp1 (fun⟨_,e⟩=>(by cases e)) (fS (by simp only[nJ,CK.phi];omega))
    rw[e4,e3,e2,hv];exact .reg trivial h2
   obtain⟨qS,aPz,n2,OS⟩:=aGh (fy au.cnt D+pend) (by omega)
   refine h.yF hm (c':= .w1 b) hg (aPz w ha) (eI.refl w) s4 (fun _=>trivial) ⟨_,_,ha,?_⟩ rfl OS (fun⟨_,e⟩=>(by cases e)) (fS (by simp only[nJ,CK.phi];omega))
   rw[e4,e3,e2];exact .w1 (by omega)
 |wr=>
  cases n with
  |succ n=>obtain⟨_,g',bW,hp⟩:=ql;exact h.Eo hm hg (by simp) bW hp (Nat.lt_succ_self n)
  |zero=>
   obtain⟨_,g',bW,n',hp⟩:=ql
   have e1:MemOp.ofEvents (ic+1) gc.frame.fn gc.frame.place #[said (.write (smA E.Wg))]= #[{g:=ic+1,fn:=gc.frame.fn,pos:=gc.frame.place,act:= .mark (.write (smA E.Wg))}]:=by rw[ofEvents_eq];simp[said,Go.ConcR.ofEvent_mk]
   refine h.goC hm (c':= .w3) (n':=n'+1) (s':=K (ic+1)) hg (bW w) ⟨rfl,rfl⟩ (h.sy.kW _) (h.sy.kC _) rfl ?_ (fun op az x hx _=>?_) (fun e=>e.elim) (fun op az=>?_)
    ⟨_,_,ha,nt.waiting trivial trivial (.inl (by simp))⟩ rfl ⟨n',rfl,hp⟩ (fun⟨_,e⟩=>(by cases e)) (fS (by simp[nJ,CK.phi]))
   ·rw[mg,e1]
    refine h.base.fit.beside E.Wg (ic+1) h.sy.kW h.sy.lW (lt_size ha) (Nat.le_refl _) (fun _ _ _=>rfl) (by simp) fun op az x hx=>?_
    simp only[List.mem_toArray,List.mem_singleton] at az
    subst az
    simp only[MemAct.touch?,Option.some.injEq] at hx
    subst hx
    refine⟨rfl,fun sd p a vi hc=>?_⟩
    have hl:blk a.loc=some E.Wg:=by rw[hc.1];rfl
    rcases hc.2.2.2 with h3|h3|h3
    ·exact h.sy.plain _ (.inr ⟨ic,_,rfl,h.sy.Fz.1,rfl⟩) p a vi (.inl hl) h3
    ·cases h3
    exact h.sy.said trivial p a vi hl h3.2.1
   ·rw[e1] at az
    simp only[List.mem_toArray,List.mem_singleton] at az
    subst az
    simp only[MemAct.touch?,Option.some.injEq] at hx
    subst hx
    simp
   rw[e1] at az
   simp only[List.mem_toArray,List.mem_singleton] at az
   subst az
   simp
 |w3=>
  obtain⟨m,rfl,hp⟩:=ql
  cases m with
  |succ m=>obtain⟨_,g',bW,hp⟩:=hp;exact h.Eo hm hg (by simp) bW ⟨m,rfl,hp⟩ (Nat.lt_succ_self _)
  |zero=>
   have hp0:E.W3 (K (ic+1)) gc:=hp
   obtain⟨h1,h2,hb,g',bW,n',hp⟩:=hp
   rcases nt.up trivial with ⟨_,rfl,rfl⟩| ⟨rfl,rfl,e1,e4,e3,e2⟩
   ·refine h.yF hm (c':= .blk) (n':=0) hg (hb w _ ha) (eI.refl w) (by simp) (fun e=>e.elim) ⟨_,_,ha,nt.waiting trivial trivial (.inr rfl)⟩ rfl ⟨rfl,gc,hp0,rfl⟩ (fun⟨_,e⟩=>(by cases e)) (FQ (Nat.lt_succ_self 0))
   refine h.yF hm (c':= .w4) hg (bW w ha) (eI.set w 1 _) s6 (fun e=>e.elim) ⟨_,_,Go.ConcR.WgAt.setSm ha _,?_⟩ rfl hp (fun⟨_,e⟩=>(by cases e)) (fS (by simp[nJ,CK.phi]))
   rw[e1,e4,e3,e2];exact .over trivial
 |blk=>
  obtain⟨_,vy,_,e⟩:=ql
  rw[e] at hs;cases hs
 |w4=>
  obtain⟨e1,e4,e3,e2,rfl,rfl⟩:=nt.run rfl trivial
  cases n with
  |succ n=>obtain⟨_,g',bW,hp⟩:=ql;exact h.Eo hm hg (by simp) bW hp (Nat.lt_succ_self n)
  |zero=>
   obtain⟨_,g',bW,n',hp⟩:=ql
   refine h.yF hm (c':= .ke) hg (bW w ha) (eI.refl w) s4 (fun e=>e.elim) ⟨_,_,ha,?_⟩ rfl hp (fun⟨_,e⟩=>(by cases e)) (fS (by simp[nJ,CK.phi]))
   rw[e1,e4,e3,e2];exact .over trivial
 |ke=>
  obtain⟨e1,e4,e3,e2,rfl,rfl⟩:=nt.run rfl trivial
  cases n with
  |succ n=>obtain⟨_,g',bW,hp⟩:=ql;exact h.Eo hm hg (by simp) bW hp (Nat.lt_succ_self n)
  |zero=>
   obtain⟨_,g',bW,n',hp⟩:=ql
   refine h.yF hm (c':= .aq) hg (bW w) (eI.refl w) s2 (fun e=>e.elim) ⟨_,_,ha,?_⟩ rfl hp (fun⟨_,e⟩=>(by cases e)) (fS (by simp[nJ,CK.phi]))
   rw[e1,e4,e3,e2];exact .over trivial
 |aq=>
  obtain⟨e1,e4,e3,e2,rfl,rfl⟩:=nt.run rfl trivial
  cases n with
  |succ n=>obtain⟨_,g',bW,hp⟩:=ql;exact h.Eo hm hg (by simp) bW hp (Nat.lt_succ_self n)
  |zero=>
   obtain⟨_,g',bW,tr,ir,hle,hp⟩:=ql
   have q1:MemOp.ofEvents (ic+1) gc.frame.fn gc.frame.place #[said (.acquire (stA E.Wg))]= #[{g:=ic+1,fn:=gc.frame.fn,pos:=gc.frame.place,act:= .mark (.acquire (stA E.Wg))}]:=by rw[ofEvents_eq];simp[said,Go.ConcR.ofEvent_mk]
   have hy:(t++ #[({g:=ic+1,fn:=gc.frame.fn,pos:=gc.frame.place,act:= .mark (.acquire (stA E.Wg))}:MemOp)])[t.size]?=some {g:=ic+1,fn:=gc.frame.fn,pos:=gc.frame.place,act:= .mark (.acquire (stA E.Wg))}:=by simp
   refine h.goC hm (c':= .run tr) (n':=0) (s':=ir) hg (bW w) ⟨rfl,rfl⟩ (fun hk=>h.sy.kW _ (hle.knows hk)) (fun hk=>h.sy.kC _ (hle.knows hk)) rfl ?_
    (fun op az x hx _=>by rw[((iN.ops s3 _ _ _ op az).2.2 x hx).2];simp) (fun e=>e.elim) (fun op az=>(iN.ops s3 _ _ _ op az).2.1) ⟨_,_,ha,?_⟩ rfl ⟨rfl,hp⟩ (fun _=>?_) (fS (by simp[nJ,CK.phi]))
   ·refine(h.sy.BV h.base.fit (.inr ⟨ic,_,rfl,h.sy.Fz.1,rfl⟩) (eI.refl w) s3 _ _).le fun j=>?_
    by_cases e:j=ic+1
    ·subst e;rw[aC];exact hle
    rw[aI _ _ e];exact St.le_refl _
   ·rw[e1,e4,e3,e2];exact .over trivial
   rw[q1]
   refine⟨t.size,by rw[act?_of hy],by simp[Trace.g?],⟨ic+1,by simp[Trace.g?],by rw[deaf_old (Nat.le_refl _)];exact Am⟩,fun i r hi hc=>?_⟩
   obtain⟨x,hx,fu⟩:=h.base.ok i r hi
   cases r with
   |leave q d cur=>
    obtain⟨p,hp⟩:=fu.2.2.2.1 hc
    have dR:i≠ic:=fun e=>by subst e;rw[h.sy.Fz.1] at hi;cases hi
    refine⟨p,RelBy.other hp (fun op az=>by simp at az;subst az;simp;omega),lt_of_act? hp.act⟩
   |_=>cases hc
 |run tr=>
  obtain⟨e1,e4,e3,e2,rfl,rfl⟩:=nt.run rfl trivial
  obtain⟨rfl,hp⟩:=ql
  cases tr with
  |leaf=>exact absurd rfl T7
  |node f=>
   obtain⟨_,gF⟩:=hp
   obtain⟨g',w',es,s',bW,bX,ht,htr⟩:=gF w (h.base.fit.jP _)
   obtain⟨k1,k2,k3,k4,k5,k6⟩:=h.sy.Bj ht gc.frame.fn gc.frame.place
   refine h.goC hm (c':= .run (f w)) (n':=0) hg bW ⟨ht.os,ht.output⟩ k1 k2 k4 (h.base.fit.own ht _ _) (fun op az x hx hb=>absurd hb (k5 op az x hx)) (fun e=>e.elim) k6
    ⟨0,0,by unfold WgAt;rw[k3];exact ha,by rw[e1,e4,e3,e2];exact .over trivial⟩ (ht.deaf _) ⟨rfl,htr⟩ (fun _=>?_) (Hp (.mk f w))
   have:=(Wh ⟨_,rfl⟩).step (r:= .closer) (r':= .closer) h.sy.Fz.1 (u:=MemOp.ofEvents (ic+1) gc.frame.fn gc.frame.place es) (fun op az=>Go.ConcR.g_of_ofEvents op az) (fun e=>e) (fun e=>(by cases e))
   rwa[show D.set ic au.closer=D from by obtain⟨hl,e⟩:=List.getElem?_eq_some_iff.1 h.sy.Fz.1;rw[←e];simp] at this
end
section
variable {ι:Type} {E:dW ι} {L:Nat→Option Obj} {K:Nat→St} {gs:Array Goroutine} {w w':World} {t u:Trace} {D:List (au ι)} {pend d0:Nat} {cl:AY} {main:Goroutine} {sl:Option (Nat×Nat)}
 {i:Nat} {g g':Goroutine} {es:Array Event}
theorem Kc(h:g.offers=none)(r:Nat)(send:Bool):offersAt g r send=[]:=by
 unfold offersAt
 split
 ·rename_i h';rw[h] at h';cases h'
 rfl
theorem rN(h:g.status= .running∨g.status= .finished)(r:Nat)(send:Bool):offersAt g r send=[]:=
 offersAt_of_not_blocked (by rcases h with h|h<;>rw[h]<;>simp) r send
theorem Inv.offers(h:Inv E L K gs w t D pend cl main d0){x:Goroutine}(hj:gs[j+1]?=some x):
 (∃o qS v zs,D[j]?=some (.gE o)∧x=parked qS #[scase E.Ch v zs] .send)∨∀r send,offersAt x r send=[]:=by
 have cP:j <D.length:=by have:=lt_size hj;have:=h.base.size;omega
 have hD:D[j]?=some D[j]:=List.getElem?_eq_getElem cP
 obtain⟨y,hy,fu⟩:=h.base.ok j _ hD
 obtain rfl:y=x:=by rw[hj] at hy;exact(Option.some.inj hy).symm
 by_cases hb:∃o,D[j]= .gE o
 ·obtain⟨o,e⟩:=hb
  rw[e] at fu
  obtain⟨_,vy,qS,v,zs,X,Y,rfl,_⟩:=fu
  exact .inl ⟨o,qS,v,zs,by rw[hD,e],rfl⟩
 right
 by_cases hc:D[j]= .closer
 ·have jo:=h.sy.Fz
  match cl,jo with
  |none,jo=>
   have:=jo D[j] (List.mem_of_getElem? hD)
   rw[hc] at this
   exact this.elim
  |some (ic,c,n),⟨_,h2,_,⟨gc,FY,ql⟩,_⟩=>
   have e:=h2 j (by rw[hD,hc])
   subst e
   obtain rfl:gc=y:=by rw[hj] at FY;exact(Option.some.inj FY).symm
   intro r send
   by_cases aiG:c= .blk
   ·subst aiG
    obtain⟨_,vy,arY,e⟩:=ql
    exact Kc (by rw[e];exact arY.2.1) r send
   exact rN (.inl (CK.uW ql aiG)) r send
 exact rN (fu.running (fun o e=>hb ⟨o,e⟩) hc)
theorem Inv.aa7(h:Inv E L K gs w t D pend cl main d0)(hm:main.status= .running){o:ι}(hi:D[i]?=some (.work o .leaf)) (hg:gs[i+1]?=some g):
 rj E L K D pend cl main d0 (crowd gs w sl) sl t (i+1):=by
 obtain⟨e9,du,fu⟩:=h.base.ok i _ hi
 obtain rfl:e9=g:=by rw[hg] at du;exact(Option.some.inj du).symm
 obtain⟨hd,hs,qS,v,zs,X,Y,hXY,oR,bW,vg⟩:=fu
 obtain⟨sn,rc,tm,hc⟩:=h.sy.chan
 have H6:partners (gs.setIfInBounds (i+1) ph) E.Ch false=[]:=partners_nil fun j x hx=>by
  rcases getElem?_stand gs _ _ _ hx with ⟨_,rfl⟩| ⟨_,lU⟩
  ·exact offersAt_ph _ _
  cases j with
  |zero=>
   have:x=main:=by rw[h.main] at lU;exact(Option.some.inj lU).symm
   subst this
   exact rN (.inl hm) _ _
  |succ j=>
   rcases h.offers lU with ⟨o',g',v',zs',_,rfl⟩|hn
   ·exact offersAt_parked_send' _ _ _ _ _ _
   exact hn _ _
 have bX:=crowd_waits (sl:=sl) hg (by simpa using bW w (h.base.fit.jP _)) (fun cc ve=>by
  simp only[List.mem_toArray,List.mem_singleton] at ve
  subst ve
  exact ways_send_none hc (Nat.le_refl 0) H6)
 have e0:MemOp.ofEvents (i+1) e9.frame.fn e9.frame.place #[]= #[]:=rfl
 rw[e0] at bX
 have ew:gs.map (woken E.P e9 (parked qS #[scase E.Ch v zs] .send) w)=gs:=by
  have:woken E.P e9 (parked qS #[scase E.Ch v zs] .send) w=id:=by funext x;simp[Go.Conc.woken,parked]
  rw[this,Array.map_id]
 refine h.go' (.inl hm) (r':= .gE o) (s':=K (i+1)) (w':=w) (g':=parked qS #[scase E.Ch v zs] .send) (u:= #[]) hi (by simp) (by simp) hg (by simp) (by rw[ew];exact bX) ⟨rfl,rfl⟩ (h.sy.kW _) (h.sy.kC _) rfl ?_ ?_ (by simp) (by simp)
  (fun _=>rfl) (fun e=>e) (fun _ e=>e) (fun e=>(by cases e)) (Nat.le_refl _) rfl (fS (by simp[au.mu])) (fun cl' hw _=>h.q5 (r':= .gE o) hi rfl rfl rfl rfl rfl cl' hw) fun _=>hm
 ·rw[mg,Array.append_empty];exact h.base.fit
 rw[Array.append_empty];exact⟨hd,qS,qS,v,zs,X,Y,rfl,hXY,oR,rfl,vg⟩
theorem Inv.norm(h:Inv E L K gs w t D pend cl main d0)(hi:D[i]?=some (.back .leaf)):
 ∃n,Inv E L (fM K (i+1) ⟨fun _=>none,[]⟩) gs w t (D.set i (.st .r0 n)) pend cl main d0∧kO (D.set i (.st .r0 n))=kO D∧One uX (D.set i (.st .r0 n)) D:=by
 obtain⟨g,hg,hd,n,hp⟩:=h.base.ok i _ hi
 have cP:=(List.getElem?_eq_some_iff.1 hi).1
 have pJ:∀ {k x},(D.set i (au.st .r0 n))[k]?=some x→(k=i∧x= .st .r0 n)∨(k≠i∧D[k]?=some x):=fun {k x} hk=>by
  by_cases e:k=i
  ·subst e
   exact .inl ⟨rfl,by simpa [List.getElem?_set,cP] using hk.symm⟩
  rw[List.getElem?_set_ne (Ne.symm e)] at hk;exact .inr ⟨e,hk⟩
 have hle:∀j,(fM K (i+1) ⟨fun _=>none,[]⟩ j).le (K j):=fun j=>by
  by_cases e:j=i+1
  ·subst e;rw[aC];exact⟨(K (i+1)).rw,by simp,fun b o hb=>(by cases hb)⟩
  rw[aI _ _ e];exact St.le_refl _
 have iR:cl≠none:=fun e=>by
  have:=h.sy.Fz
  subst e
  exact this _ (List.mem_of_getElem? hi)
 refine⟨n,⟨⟨h.base.fit.le hle,by simp[h.base.size],fun k r hk=>?_,fun k hk b hb=>h.base.far k hk b ((hle k).knows hb),h.base.ops,h.base.same⟩,
  ⟨fun j hj=>h.sy.kW j ((hle j).knows hj),fun j hj=>h.sy.kC j ((hle j).knows hj),h.sy.lW,h.sy.lC,h.sy.ne,h.sy.norel,fun j hj=>h.sy.plain j ?_,h.sy.said,?_,?_,h.sy.chan,h.sy.bal,?_⟩,h.main,h.deaf⟩,He (r:= .back .leaf) (r':= .st .r0 n) rfl hi,One.set hi (fS (by simp[au.mu,WK.NO]))⟩
 ·rcases pJ hk with ⟨rfl,rfl⟩| ⟨dR,jN⟩
  ·exact⟨g,hg,by rw[aC],hd,hp,fun e=>(by cases e)⟩
  rw[aI _ _ (by omega)];exact h.base.ok k r jN
 ·rcases hj with hj| ⟨k,r,rfl,hk,hl⟩
  ·exact .inl hj
  rcases pJ hk with ⟨rfl,rfl⟩| ⟨_,jN⟩
  ·exact .inr ⟨_,_,rfl,hi,rfl⟩
  exact .inr ⟨k,r,rfl,jN,hl⟩
 ·obtain⟨st,sm,ha,nt⟩:=h.sy.cells
  exact⟨st,sm,ha,Ny hi rfl rfl rfl rfl nt⟩
 ·have:=jK au.cnt (y:=au.st .r0 n) hi
  have e:(au.st (ι:=ι) .r0 n).cnt=(au.back (ι:=ι) .leaf).cnt:=rfl
  have:=h.sy.C2
  omega
 have jo:=h.sy.Fz
 match cl,jo,iR with
 |some (ic,c,m),⟨h1,h2,h3,⟨gc,FY,ql⟩,h5⟩,_=>
  have dR:ic≠i:=fun e=>by subst e;rw[hi] at h1;cases h1
  refine⟨by rw[List.getElem?_set_ne (Ne.symm dR)];exact h1,fun k hk=>?_,h3,⟨gc,FY,by rw[aI _ _ (by omega)];exact ql⟩,fun hr=>?_⟩
  ·rcases pJ hk with ⟨_,e⟩| ⟨_,jN⟩
   ·cases e
   exact h2 k jN
  have:=(h5 hr).step (u:= #[]) (r':= .st .r0 n) hi (by simp) (fun e=>(by cases e)) (fun e=>(by cases e))
  rwa[Array.append_empty] at this
end
section
variable {ι:Type} {E:dW ι} {L:Nat→Option Obj} {K:Nat→St} {gs lg:Array Goroutine} {w w':World} {t u:Trace} {D:List (au ι)} {pend d0:Nat} {cl:AY} {main main':Goroutine} {sl:Option (Nat×Nat)}
 {i:Nat} {g g':Goroutine} {es:Array Event}
theorem fW(t:Trace)(g:Nat)(u:Trace)(hu:∀op∈u,∀m,op.act≠ .mark m):Deaf (t++u) g=Deaf t g:=by
 obtain⟨l⟩:=u
 rw[Deaf_append]
 induction l generalizing t with
 |nil=>rfl
 |cons y l ih=>
  have hy:=hu y (by simp)
  have e1:deafStep g (Deaf t g) y=Deaf t g:=by
   unfold deafStep
   split
   ·rename_i e;exact absurd e (hy _)
   ·rename_i e;exact absurd e (hy _)
   rfl
  rw[List.foldl_cons,e1]
  exact ih t (fun op az=>hu op (by simp at az ⊢;exact .inr az))
theorem CV{o:ι}{r':au ι}(ho:r'.YM=none):∀ {D:List (au ι)} {i:Nat} {r:au ι},D[i]?=some r→r.YM=some o→∃a b,kO D=a++o::b∧kO (D.set i r')=a++b
 | [],i,r,h,_=>by simp at h
 |x::D,0,r,h,hr=>by
  simp only[List.getElem?_cons_zero,Option.some.injEq] at h;subst h
  exact⟨[],kO D,by simp[kO,hr],by simp[kO,ho]⟩
 |x::D,i+1,r,h,hr=>by
  obtain⟨a,b,h1,h2⟩:=CV ho (D:=D) (i:=i) (by simpa using h) hr
  cases hx:x.YM with
  |none=>exact⟨a,b,by simp only[kO,List.filterMap_cons,hx] at h1 ⊢;exact h1,by simp only[kO,List.set_cons_succ,List.filterMap_cons,hx] at h2 ⊢;exact h2⟩
  |some y=>exact⟨y::a,b,by simp only[kO,List.filterMap_cons,hx] at h1 ⊢;rw[h1];rfl,by simp only[kO,List.set_cons_succ,List.filterMap_cons,hx] at h2 ⊢;rw[h2];rfl⟩
theorem Inv.meet(h:Inv E L K gs w t D pend cl main 0)(iR:cl≠none){r:au ι}{o:ι}{X Y:List (Nat×Obj)}{tr:Tree}{gw:Goroutine}(hi:D[i]?=some r) (hr:r= .work o .leaf∨r= .gE o)
 (hd:Deaf t (i+1)=0) (hXY:(K (i+1)).rw.Perm (X++Y)) (hle:ir.le ⟨(K (i+1)).ro,Y⟩) (hb:pg E.P false E.JA tr gw ir)
 (uI:lg.size=gs.size) (h0:lg[0]?=some main') (hw1:lg[i+1]?=some gw) (hgs:∀k,k≠0→k≠i+1→lg[k]?=gs[k]?)
  (hc:w.heap[E.Ch]?=some (.chan 0 #[] false sn rc tm)) (tI:w'.heap[E.Ch]?=some (.chan 0 #[] false (sn+1) (rc+1) tm)) (sM:w'.heap.size=w.heap.size) (hwb:∀b,b≠E.Ch→w'.heap[b]?=w.heap[b]?) (Sn:XJ w w')
 {a0 a1 a2 a3:MemOp} (e0:a0.g=i+1∧a0.act= .send E.Ch sn) (e1:a1.g=0∧a1.act= .recv E.Ch rc 0) (e2:a2.g=i+1∧a2.act= .sendDone E.Ch sn) (e3:a3.g=0∧a3.act= .recvDone E.Ch rc):
 Inv E L (fM (fM K (i+1) ir) 0 ⟨(K 0).ro,X++(K 0).rw⟩) lg w' (t++ #[a0,a1,a2,a3]) (D.set i (.back tr)) pend cl main' 0:=by
 have cP:=(List.getElem?_eq_some_iff.1 hi).1
 have ax5:=h.sy.bal _ _ _ hc
 subst ax5
 have pJ:∀ {k x},(D.set i (au.back tr))[k]?=some x→(k=i∧x= .back tr)∨(k≠i∧D[k]?=some x):=fun {k x} hk=>by
  by_cases e:k=i
  ·subst e
   exact .inl ⟨rfl,by simpa [List.getElem?_set,cP] using hk.symm⟩
  rw[List.getElem?_set_ne (Ne.symm e)] at hk;exact .inr ⟨e,hk⟩
 have hu:∀op∈ #[a0,a1,a2,a3],op.g=i+1∨op.g=0:=by intro op az;simp at az;rcases az with rfl|rfl|rfl|rfl<;>simp[e0.1,e1.1,e2.1,e3.1]
 have hq:∀op∈ #[a0,a1,a2,a3],op.act.touch?=none:=by intro op az;simp at az;rcases az with rfl|rfl|rfl|rfl<;>simp[e0.2,e1.2,e2.2,e3.2,MemAct.touch?]
 have SB:∀op∈ #[a0,a1,a2,a3],∀m,op.act≠ .mark m:=by intro op az;simp at az;rcases az with rfl|rfl|rfl|rfl<;>simp[e0.2,e1.2,e2.2,e3.2]
 have Am:∀k,Deaf (t++ #[a0,a1,a2,a3]) k=Deaf t k:=fun k=>fW t k _ SB
 have p0:(t++ #[a0,a1,a2,a3])[t.size]?=some a0:=by simp
 have p3:(t++ #[a0,a1,a2,a3])[t.size+3]?=some a3:=by simp
 have hear:∀k (hk:k≤3) (op:MemOp),(t++ #[a0,a1,a2,a3])[t.size+k]?=some op→op.g=i+1∨op.g=0→Deaf t (i+1)=0→Deaf t 0=0→(t++ #[a0,a1,a2,a3]).heard (t.size+k):=by
  intro k hk op ho hg h1 h2
  refine⟨op.g,by simp only[Trace.g?,ho,Option.map_some],?_⟩
  have key:∀k,k≤3→∀q,Deaf t q=0→(t++ #[a0,a1,a2,a3]).deaf q (t.size+k)=0:=by
   intro k
   induction k with
   |zero=>intro _ q hq;rw[Nat.add_zero,deaf_old (Nat.le_refl _)];exact hq
   |succ k ih=>
    intro hk q FU
    have cP:t.size+k <(t++ #[a0,a1,a2,a3]).size:=by simp;omega
    have hm:(t++ #[a0,a1,a2,a3])[t.size+k]?=some (t++ #[a0,a1,a2,a3])[t.size+k]:=Array.getElem?_eq_getElem cP
    have AT:(t++ #[a0,a1,a2,a3])[t.size+k]∈ #[a0,a1,a2,a3]:=by
     rcases getElem?_append_cases hm with ⟨h',_⟩| ⟨_,h'⟩
     ·omega
     exact h'
    rw[show t.size+(k+1)=t.size+k+1 by omega,deaf_succ hm,ih (by omega) q FU]
    have hn:=SB _ AT
    unfold deafStep
    split
    ·rename_i e;exact absurd e (hn _)
    ·rename_i e;exact absurd e (hn _)
    rfl
  rcases hg with hg|hg<;>rw[hg]
  ·exact key k hk _ h1
  exact key k hk _ h2
 have acH:HappensBefore (t++ #[a0,a1,a2,a3]) t.size (t.size+3):=
  .single (.inr ⟨.handOver (c:=E.Ch) (k:=sn) (by rw[act?_of p0,e0.2]) (by rw[act?_of p3,e3.2]),hear 0 (by omega) a0 p0 (.inl e0.1) hd h.deaf,hear 3 (by omega) a3 p3 (.inr e3.1) hd h.deaf⟩)
 have aTd:Fit L K w' (t++ #[a0,a1,a2,a3]):=h.base.fit.quiet E.Ch h.sy.kC h.sy.lC (Nat.le_of_eq sM.symm) (fun b hb _=>hwb b hb) hq
 have kR:∀b o,(b,o)∈X→(K (i+1)).jh b:=fun b o hm=>⟨o,hXY.mem_iff.2 (by simp[hm])⟩
 have aTc:=aTd.hand (i:=0) (j:=i+1) (by omega) X Y hXY fun b o hm p x hx hxb=>by
  rcases bJ hx with ⟨hp,lU⟩| ⟨_,op,T9,_,yL⟩
  ·have k1:=h.base.fit.perm (i+1) b (kR b o hm) p x lU hxb
   exact⟨t.size+3,a3,p3,e3.1,.inr ((k1.hb_new (Nat.le_refl _) p0 e0.1).trans acH)⟩
  rw[hq op T9] at yL;cases yL
 have aTb:Fit L (fM (fM K (i+1) ir) 0 ⟨(K 0).ro,X++(K 0).rw⟩) w' (t++ #[a0,a1,a2,a3]):=aTc.le fun j=>by
  by_cases e:j=0
  ·subst e;rw[aC,aC];exact St.le_refl _
  rw[aI _ _ e,aI _ _ e]
  by_cases e':j=i+1
  ·subst e';rw[aC,aC];exact hle
  rw[aI _ _ e',aI _ _ e'];exact St.le_refl _
 have JN:∀b,(∀j,¬(K j).knows b)→∀j,¬(fM (fM K (i+1) ir) 0 ⟨(K 0).ro,X++(K 0).rw⟩ j).knows b:=fun b hb j hk=>by
  by_cases e:j=0
  ·subst e;rw[aC] at hk
   rcases hk with hk| ⟨o,ho⟩
   ·exact hb 0 (.inl hk)
   rcases List.mem_append.1 ho with h'|h'
   ·exact hb (i+1) (.inr (kR b o h'))
   exact hb 0 (.inr ⟨o,h'⟩)
  rw[aI _ _ e] at hk
  by_cases e':j=i+1
  ·subst e';rw[aC] at hk
   rcases hle.knows hk with hk| ⟨o,ho⟩
   ·exact hb (i+1) (.inl hk)
   exact hb (i+1) (.inr ⟨o,hXY.mem_iff.2 (by simp[ho])⟩)
  rw[aI _ _ e'] at hk;exact hb j hk
 have Kv:r.cnt=1∧r.c4=0∧r.c3=0∧r.c2=0:=by rcases hr with rfl|rfl<;>exact⟨rfl,rfl,rfl,rfl⟩
 refine⟨⟨aTb,by rw[uI];simp[h.base.size],fun k x hk=>?_,fun k hk b hb=>?_,fun op az=>?_,⟨Sn.1.trans h.base.same.1,Sn.2.trans h.base.same.2⟩⟩,
  ⟨JN _ h.sy.kW,JN _ h.sy.kC,h.sy.lW,h.sy.lC,h.sy.ne,fun a=>(h.sy.norel a).app fun op az=>SB op az _,fun j hj p x hx hxb hk=>?_,?_,?_,?_,⟨_,_,_,tI⟩,fun a b c hx=>?_,?_⟩,h0,by rw[Am];exact h.deaf⟩
 ·rcases pJ hk with ⟨rfl,rfl⟩| ⟨dR,jN⟩
  ·exact⟨gw,hw1,by rw[Am];exact hd,by rw[aI _ _ (by omega),aC];exact hb⟩
  obtain⟨y,hy,fu⟩:=h.base.ok k x jN
  refine⟨y,by rw[hgs (k+1) (by omega) (by omega)];exact hy,?_⟩
  rw[aI _ _ (by omega),aI _ _ (by omega)]
  exact fu.other fun op az=>by rcases hu op az with e|e<;>rw[e]<;>omega
 ·rw[uI] at hk
  have:=h.base.size
  rw[aI _ _ (by omega),aI _ _ (by omega)] at hb
  exact h.base.far k hk b hb
 ·rw[uI]
  rcases Array.mem_append.1 az with h'|h'
  ·exact h.base.ops op h'
  rcases hu op h' with e|e<;>rw[e,h.base.size]<;>omega
 ·rcases bJ hx with ⟨_,lU⟩| ⟨_,op,T9,_,yL⟩
  ·refine(h.sy.plain j ?_ p x lU hxb hk).app _
   rcases hj with hj| ⟨k,y,rfl,jN,hl⟩
   ·exact .inl hj
   rcases pJ jN with ⟨rfl,rfl⟩| ⟨_,axq⟩
   ·exact .inr ⟨_,r,rfl,hi,by rcases hr with rfl|rfl<;>rfl⟩
   exact .inr ⟨k,y,rfl,axq,hl⟩
  rw[hq op T9] at yL;cases yL
 ·have hs:=h.sy.said
  match cl,hs,iR with
  |some (ic,c,n),hs,_=>
   intro he p x hx hxb hk
   rcases bJ hx with ⟨_,lU⟩| ⟨_,op,T9,_,yL⟩
   ·exact(hs he p x lU hxb hk).app _
   rw[hq op T9] at yL;cases yL
 ·obtain⟨st,sm,ha,nt⟩:=h.sy.cells
  refine⟨st,sm,by unfold WgAt;rw[hwb _ h.sy.ne];exact ha,Ny hi ?_ ?_ ?_ ?_ nt⟩
  ·rw[Kv.1];rfl
  ·rw[Kv.2.1];rfl
  ·rw[Kv.2.2.1];rfl
  rw[Kv.2.2.2];rfl
 ·have:=jK au.cnt (y:=au.back tr) hi
  have e:(au.back (ι:=ι) tr).cnt=1:=rfl
  have:=h.sy.C2
  omega
 ·rw[tI] at hx
  simp only[Option.some.injEq,Obj.chan.injEq] at hx
  omega
 have jo:=h.sy.Fz
 obtain⟨st,sm,ha,nt⟩:=h.sy.cells
 have aFN:1≤fy au.cnt D:=by have:=uB au.cnt hi;rw[Kv.1] at this;exact this
 match cl,jo,iR,nt with
 |some (ic,c,m),⟨h1,h2,h3,⟨gc,FY,ql⟩,h5⟩,_,nt=>
  have dR:ic≠i:=fun e=>by subst e;rw[hi] at h1;rcases hr with rfl|rfl<;>cases h1
  refine⟨by rw[List.getElem?_set_ne (Ne.symm dR)];exact h1,fun k hk=>?_,by rw[Am];exact h3,⟨gc,by rw[hgs _ (by omega) (by omega)];exact FY,by rw[aI _ _ (by omega),aI _ _ (by omega)];exact ql⟩,fun⟨tr',e⟩=>?_⟩
  ·rcases pJ hk with ⟨_,e⟩| ⟨_,jN⟩
   ·cases e
   exact h2 k jN
  subst e
  have:=(nt.run rfl trivial).1
  omega
end
def Ends(P:Program)(Q:Machine→Outcome→World→Trace→Prop)(m:Machine)(t:Trace):Prop:=
 ∃n last o w' t',runNT P (n+1) m t=(.ended o w',t')∧runN P n m= .next last∧step P last= .ended o w'∧Q last o w' t'
theorem Ends.next{m m':Machine}{ops:Array MemOp}(hs:stepT P m=(.next m',ops))(h:Ends P Q m' (t++ops)):Ends P Q m t:=by
 obtain⟨n,last,o,w,t',h1,h2,h3,h4⟩:=h
 exact⟨n+1,last,o,w,t',by rw[runNT_succ_next hs];exact h1,by rw[runN_succ_next hs];exact h2,h3,h4⟩
section
variable {L:Nat→Option Obj} {K:Nat→St} {w:World} {t:Trace}
theorem aS.at(h:aS s w)(d:Nat):aS s (w.at d):=⟨h.ro,h.rw,h.nodup,h.apart⟩
theorem Fit.at(h:Fit L K w t)(d:Nat):Fit L K (w.at d) t:=⟨h.E6,h.lG,fun i=>(h.jP i).at d,h.sep,h.perm,h.rK,h.old,h.clean,h.sync⟩
end
section
variable {ι:Type} {E:dW ι} {L:Nat→Option Obj} {K:Nat→St} {gs:Array Goroutine} {w:World} {t:Trace} {D:List (au ι)} {pend d0:Nat} {cl:AY} {main:Goroutine}
theorem Inv.at(h:Inv E L K gs w t D pend cl main d0)(d:Nat):Inv E L K gs (w.at d) t D pend cl main d0:=
 ⟨⟨h.base.fit.at d,h.base.size,h.base.ok,h.base.far,h.base.ops,h.base.same⟩,
  ⟨h.sy.kW,h.sy.kC,h.sy.lW,h.sy.lC,h.sy.ne,h.sy.norel,h.sy.plain,h.sy.said,h.sy.cells,h.sy.C2,h.sy.chan,h.sy.bal,h.sy.Fz⟩,h.main,h.deaf⟩
end
structure Lv(P:Program)(G:Trace→Nat→Prop)(L:Nat→Option Obj)(K:Nat→St)(gs:Array Goroutine)(w:World)(t:Trace)(q:List Nat):Prop where
 fit:Fit L K w t
 size:gs.size=q.length+1
 ok:∀i n,q[i]?=some n→∃g d,gs[i+1]?=some g∧QuitsD P n d g∧Deaf t (i+1)=d∧G t (i+1)
 none:∀i b,i≠0→¬(K i).knows b
 ops:∀op∈t,op.g <gs.size
structure Nj(G:Trace→Nat→Prop):Prop where
 other:∀t u i,G t i→(∀op∈u,op.g≠i)→G (t++u) i
 quiet:∀t u i,G t i→(∀op∈u,op.act.touch?=none)→G (t++u) i
theorem EE:Nj eF:=⟨fun _ _ _ h hu=>h.other hu,fun _ _ _ h hu=>h.quiet hu⟩
def jB(pc:Nat)(t:Trace)(i:Nat):Prop:=pc <t.size∧(eF t i∨∀p,t.g? p=some i→t.counts p→HappensBefore t p pc)
theorem jB.grow{pc:Nat}(h:jB pc t i)(hu:∀p op,t.size≤p→(t++u)[p]?=some op→op.g=i→¬(t++u).counts p) (hk:eF t i→eF (t++u) i):jB pc (t++u) i:=by
 refine⟨by rw[Array.size_append];have:=h.1;omega,h.2.imp hk fun h' p hp hc=>?_⟩
 obtain⟨op,ho,hg⟩:=Option.map_eq_some_iff.1 hp
 rcases Nat.lt_or_ge p t.size with cP|SF
 ·exact hb_app u (h' p (by rw[←g?_old (u:=u) cP];exact hp) ((counts_old cP).1 hc))
 exact absurd hc (hu p op SF ho hg)
theorem S2(pc:Nat):Nj (jB pc):=
 ⟨fun t u i h hu=>h.grow (fun p op hp ho hg=>by
  rcases getElem?_append_cases ho with ⟨h',_⟩| ⟨_,hm⟩
  ·omega
  ·exact absurd hg (hu op hm)) fun h'=>h'.other hu,
  fun t u i h hu=>h.grow (fun p op hp ho hg hc=>by
   obtain⟨x,hx,_⟩:=hc
   obtain⟨o',FV,lU⟩:=touch_of hx
   rw[ho] at FV;cases FV
   rcases getElem?_append_cases ho with ⟨h',_⟩| ⟨_,hm⟩
   ·omega
   rw[hu op hm] at lU;cases lU) fun h'=>h'.quiet hu⟩
section
variable {P:Program} {G:Trace→Nat→Prop} {L:Nat→Option Obj} {K:Nat→St} {gs:Array Goroutine} {w:World} {t:Trace} {q:List Nat} {sl:Option (Nat×Nat)}
theorem Lv.at(h:Lv P G L K gs w t q)(d:Nat):Lv P G L K gs (w.at d) t q:=⟨h.fit.at d,h.size,h.ok,h.none,h.ops⟩
theorem Lv.le(h:Lv P G L K gs w t q)(hl:s.le (K 0)):Lv P G L (fM K 0 s) gs w t q:=
 ⟨h.fit.le fun j=>by
  by_cases e:j=0
  ·subst e;rw[aC];exact hl
  rw[aI _ _ e];exact St.le_refl _,h.size,h.ok,fun i b hi hk=>by rw[aI _ _ hi] at hk;exact h.none i b hi hk,h.ops⟩
theorem Lv.leave(hG:Nj G)(h:Lv P G L K gs w t q){m:Goroutine}(hm:gs[0]?=some m) (AR:m.status= .running) (hg:gs[i+1]?=some g) (hs:g.status= .running):
 ∃lg u q',runT P (crowd gs w sl) (i+1)=(.next (crowd lg w sl),u)∧Lv P G L K lg w (t++u) q'∧lg[0]?=some m∧Deaf (t++u) 0=Deaf t 0∧q'.sum <q.sum∧∀op∈u,∀a,op.act≠ .mark (.release a):=by
 have cP:i <q.length:=by have:=lt_size hg;have:=h.size;omega
 have hq:=List.getElem?_eq_getElem cP
 obtain⟨e9,d,du,hqd,hd,hk⟩:=h.ok i _ hq
 obtain rfl:e9=g:=by rw[hg] at du;exact(Option.some.inj du).symm
 cases e:q[i] with
 |zero=>rw[e] at hqd;have:=hqd.1;rw[hs] at this;cases this
 |succ n=>
  rw[e] at hqd
  rcases hqd with ⟨h1,_⟩| ⟨_,g',es,T8,bW,FU⟩
  ·rw[hs] at h1;cases h1
  have hu:=Mo (i:=i+1) (fn:=e9.frame.fn) (pos:=e9.frame.place) T8
  have hgi:∀op∈MemOp.ofEvents (i+1) e9.frame.fn e9.frame.place es,op.g=i+1:=fun op az=>Go.ConcR.g_of_ofEvents op az
  have Ff:∀x:Goroutine,(x.status= .running∨x.status= .finished)→woken P e9 g' w x=x:=fun x hx=>by
   unfold Go.Conc.woken
   split
   ·exact again_running _ hx
   rfl
  refine⟨_,_,q.set i n,runT_crowd_go (P:=P) (sl:=sl) (i:=i+1) hg (by simpa using bW w),⟨?_,by simp[h.size],fun k n' jN=>?_,h.none,fun op az=>?_⟩,?_,?_,?_,fun op az a=>RQ T8 a op az⟩
  ·exact h.fit.quiet w.heap.size (fun j hj=>absurd (h.fit.Hy hj) (Nat.lt_irrefl _)) (by
    cases hL:L w.heap.size with
    |none=>rfl
    |some o=>exact absurd (lt_size (h.fit.E6 _ o hL)) (Nat.lt_irrefl _)) (Nat.le_refl _) (fun _ _ _=>rfl) hu
  ·by_cases hki:k=i
   ·subst hki
    have:n=n':=by simpa [List.getElem?_set,cP] using jN
    subst this
    exact⟨g',_,by simp[h.size,cP],FU,by rw[Deaf_own,hd],hG.quiet _ _ _ hk hu⟩
   rw[List.getElem?_set_ne (Ne.symm hki)] at jN
   obtain⟨x,dx,hx,hqx,hdx,Ck⟩:=h.ok k n' jN
   have dR:∀op∈MemOp.ofEvents (i+1) e9.frame.fn e9.frame.place es,op.g≠k+1:=fun op az=>by rw[hgi op az];omega
   exact⟨x,dx,by rw[fZ (by omega) hx,Ff x hqx.status],hqx,by rw[gR _ _ dR];exact hdx,hG.other _ _ _ Ck dR⟩
  ·rw[Array.size_setIfInBounds,Array.size_map]
   rcases Array.mem_append.1 az with h'|h'
   ·exact h.ops op h'
   rw[hgi op h',h.size];omega
  ·rw[fZ (by omega) hm,Ff m (.inl AR)]
  ·exact gR _ _ fun op az=>by rw[hgi op az];omega
  have key:∀(l:List Nat) (i:Nat) (x:Nat),l[i]?=some x→∀y,y <x→(l.set i y).sum <l.sum:=by
   intro l
   induction l with
   |nil=>intro i x h;simp at h
   |cons a l ih=>
    intro i x hx y hy
    cases i with
    |zero=>simp only[List.getElem?_cons_zero,Option.some.injEq] at hx;subst hx;simp only[List.set_cons_zero,List.sum_cons];omega
    |succ i=>have:=ih i x (by simpa using hx) y hy;simp only[List.set_cons_succ,List.sum_cons];omega
  exact key q i _ (by rw[hq,e]) n (Nat.lt_succ_self n)
theorem Lv.own(hG:Nj G)(h:Lv P G L K gs w t q){es:Array Event}(hm:gs[0]?=some g) (bW:stepG P true g w= .go g' w' es) (ht:Trans (K 0) w s' w' es):
 ∃lg u,runT P (crowd gs w sl) 0=(.next (crowd lg w' sl),u)∧Lv P G L (fM K 0 s') lg w' (t++u) q∧lg[0]?=some g'∧Deaf (t++u) 0=Deaf t 0∧∀op∈u,∀a,op.act≠ .mark (.release a):=by
 have hgi:∀op∈MemOp.ofEvents 0 g.frame.fn g.frame.place es,op.g=0:=fun op az=>Go.ConcR.g_of_ofEvents op az
 refine⟨_,_,runT_crowd_go (P:=P) (sl:=sl) (i:=0) hm (by simpa using bW),⟨h.fit.own ht _ _,by simp[h.size],fun k n hk=>?_,fun i b hi hk=>?_,fun op az=>?_⟩,?_,?_,fun op az a e=>?_⟩
 ·obtain⟨x,dx,hx,hqx,hdx,Ck⟩:=h.ok k n hk
  have dR:∀op∈MemOp.ofEvents 0 g.frame.fn g.frame.place es,op.g≠k+1:=fun op az=>by rw[hgi op az];omega
  exact⟨x,dx,by rw[fZ (by omega) hx,woken_quitsD hqx],hqx,by rw[gR _ _ dR];exact hdx,hG.other _ _ _ Ck dR⟩
 ·rw[aI _ _ hi] at hk;exact h.none i b hi hk
 ·rw[Array.size_setIfInBounds,Array.size_map]
  rcases Array.mem_append.1 az with h'|h'
  ·exact h.ops op h'
  rw[hgi op h',h.size];omega
 ·simp[h.size]
 ·rw[Deaf_own,ht.deaf]
 rw[ofEvents_eq] at az
 obtain⟨e',he,rfl⟩:=Array.mem_map.1 az
 have hl:=Go.ConcR.loc_of_ofEvent e
 have:=ht.vX e' he
 unfold Jz at this
 rw[hl] at this
 simp[CX] at this
structure aaH(I:(Nat→St)→World→Trace→Prop):Prop where
 grow:∀K w t u,I K w t→(∀op∈u,∀a,op.act≠ .mark (.release a))→I K w (t++u)
 drawn:∀K w t d,I K w t→I K (w.at d) t
 le:∀K w t s,I K w t→s.le (K 0)→I (fM K 0 s) w t
 own:∀K w t s' w' es u,I K w t→Trans (K 0) w s' w' es→(∀op∈u,∀a,op.act≠ .mark (.release a))→I (fM K 0 s') w' (t++u)
def Calm(os:Os)(out:Array (Nat×ByteArray)):(Nat→St)→World→Trace→Prop:=fun _ w t=>(∀a,NoRelease a t)∧w.os=os∧w.output=out
def TL(P:Program)(G:Trace→Nat→Prop)(L:Nat→Option Obj)(I:(Nat→St)→World→Trace→Prop)(Q:Machine→Outcome→World→Trace→Prop)(g:Goroutine)(s:St):Prop:=
 ∀K gs w t q sl,Lv P G L K gs w t q→gs[0]?=some g→s.le (K 0)→Deaf t 0=0→I K w t→Ends P Q (crowd gs w sl) t
theorem Nz(hG:Nj G)(hI:aaH I)(hs:g.status= .running)
 (h:∀K gs w t q sl m,Lv P G L K gs w t q→gs[0]?=some g→K 0=s→Deaf t 0=0→I K w t→stepT P m=runT P (crowd gs w sl) 0→(m.gs=gs∧m.rest.timers= #[])→Ends P Q m t):TL P G L I Q g s:=by
 intro K gs w t q sl hL h0 hle hd hi
 generalize hn:q.sum=n
 induction n using Nat.strongRecOn generalizing K gs w t q sl with
 |_ n ih=>
  have hL:=hL.le hle
  have hi:=hI.le _ _ _ _ hi hle
  obtain⟨i,e9,d,T1,du,HS,bW⟩:=crowd_pick (P:=P) (gs:=gs) (w:=w) (sl:=sl) (fun x hx=>by
   obtain⟨j,hj,rfl⟩:=Array.mem_iff_getElem.1 hx
   have hj':gs[j]?=some gs[j]:=Array.getElem?_eq_getElem hj
   intro k
   cases j with
   |zero=>rw[h0] at hj';rw[←Option.some.inj hj',hs];simp
   |succ j=>
    have cP:j <q.length:=by have:=hL.size;omega
    obtain⟨y,d,hy,hq,_⟩:=hL.ok j _ (List.getElem?_eq_getElem cP)
    rw[hj'] at hy
    rw[Option.some.inj hy]
    rcases hq.status with e|e<;>rw[e]<;>simp) ⟨0,g,h0,hs⟩
  cases i with
  |zero=>exact h _ gs (w.at d) t q T1 _ (hL.at d) h0 (aC _ _ _) hd (hI.drawn _ _ _ _ hi) bW ⟨rfl,rfl⟩
  |succ i=>
   obtain⟨lg,u,q',hr,hL',T9,F3,cP,hrl⟩:=(hL.at d).leave (sl:=T1) hG h0 hs du HS
   refine Ends.next (bW.trans hr) (ih q'.sum (hn▸cP) _ lg _ _ q' T1 hL' T9 ?_ (by rw[F3];exact hd) (hI.grow _ _ _ _ (hI.drawn _ _ _ _ hi) hrl) rfl)
   rw[aC];exact St.le_refl _
theorem KX(hG:Nj G)(hI:aaH I)(Q:Machine→Outcome→World→Trace→Prop):Closed P true (TL P G L I Q) where
 step:=fun g s hs h=>Nz hG hI hs fun K gs w t q sl m hL h0 hK hd hi bW _=>by
  subst hK
  obtain⟨g',w',es,s',hgo,_,ht,hT⟩:=h w (hL.fit.jP 0)
  obtain⟨lg,u,hr,hL',T9,F3,hrl⟩:=hL.own (sl:=sl) hG h0 hgo ht
  exact Ends.next (bW.trans hr) (hT _ lg w' _ q sl hL' T9 (by rw[aC];exact St.le_refl _) (by rw[F3];exact hd) (hI.own _ _ _ _ _ _ _ hi ht hrl))
 mono:=fun g s s' hl h K gs w t q sl hL h0 hle hd hi=>h K gs w t q sl hL h0 (hl.trans hle) hd hi
theorem TL.mono(hl:s.le s')(h:TL P G L I Q g s):TL P G L I Q g s':=
 fun K gs w t q sl hL h0 hle hd hi=>h K gs w t q sl hL h0 (hl.trans hle) hd hi
end
end Go.L
