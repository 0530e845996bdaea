/- Part 3 of the proof: a program logic, contracts, a theorem on goroutines. -/
import Derived.Test.YtjpghiajlddegaaGreatDoorL2
import Derived.Conc.CrowdBase
import Derived.Conc.CrowdComm
import Derived.Conc.CrowdTrace
import Derived.Conc.Know
import Derived.Conc.QuitsD
import Derived.Conc.WrBase2
import Derived.Conc.WrWorld
set_option maxRecDepth 100000
set_option linter.all false
namespace Go.L
open Go Go.Conc
variable {i n b p ic:Nat} {ι:Type} {s s':St} {g g':Goroutine} {main:Bool} {T:Goroutine→St→Prop} {w':World} {Stop:Goroutine→Prop} {cs:List Frame} {fn:FuncId} {P:Program} {gs:Array Goroutine} {ds:List Deferred} {t u:Trace} {pos:String} {ca:Array Value} {fr:Frame} {Q:Post}
section rounds
variable {P:Program} {C:Class} {s:St}
def dS(bd:Nat):Deferred:={target:= .collected bd,args:= #[]}
def gX(fn:FuncId)(tmps:Array Value)(params:Array Tmp)(assign body:Code)(bd:Nat):Loop:={state:= .ready,pending:=none,fn,tmps,params,assign,body,defers:=bd}
def YB(Q:Post)(a:Act)(l:Nat):Ending→St→Prop
 | .returned _,s=>B3 s l fun r up=>r.state≠ .busy∧(match r.pending with
  |none=>Q .normal a (up {r with state:= .exhausted})
  |some .ret=>Q .ret a (up {r with state:= .exhausted})
  |some (.exit id)=>Q (.exit id) a (up {r with state:= .exhausted})
  |_=>False)
 | .panicked ch,s=>Q (.panic ch) a s
 | .outgrown,_=>False
theorem yT(hC:∀main T,C main T→Closed P main T){x:Operand}{params:Array Tmp}{assign body:Code}{a:Act}{g:FuncId}{fi:Array Value}(hx:a.eval x= .func (.func g) fi ca)(ff:FF P g)
 (h:∀bd bl,¬s.knows bd→¬(⟨s.ro,(bd,.deferred (some []))::s.rw⟩:St).knows bl→
  Fn C P g (fi++ #[.func (.yield bl) #[] #[]]++ca) ⟨s.ro,(bl,.loop (gX fn a.tmps params assign body bd))::(bd,.deferred (some []))::s.rw⟩ (YB Q {a with defers:=dS bd::a.defers} bl)):
 Wp C fn none (.rangeFunc x params assign body) Q a s:=by
 intro main T hT b k cs h1 h2 h3 h4
 have ir:=hC main T hT
 have hk:(b.kind==CallKind.early)=false:=by simpa using h2
 have vk:bG P (Instr.enterLoop fn a.tmps params assign body none) s (fun r s'=>∃bd bl,¬s.knows bd∧¬(⟨s.ro,(bd,.deferred (some []))::s.rw⟩:St).knows bl∧r=(bl,[dS bd])∧s'=⟨s.ro,(bl,.loop (gX fn a.tmps params assign body bd))::(bd,.deferred (some []))::s.rw⟩) (fun _ _=>False):=by
  simp only[Instr.enterLoop,aa,nJ,ae]
  intro bd hbd
  intro bl Vr
  exact⟨bd,bl,hbd,Vr,rfl,rfl⟩
 refine ir.step _ _ rfl fun w oQ=>?_
 obtain⟨res,es,bN,hl⟩:=gz _ _ _ _ w #[] vk oQ
 rw[Array.empty_append] at bN
 cases res with
 |halt _ _=>obtain⟨_,_,hu⟩:=hl;exact hu.elim
 |ok r w1=>
  obtain⟨s1,ht1,bd,bl,hbd,Vr,rfl,rfl⟩:=hl
  have ayJ:bG P (callFunc g (fi++ #[.func (.yield bl) #[] #[]]++ca)) ⟨s.ro,(bl,.loop (gX fn a.tmps params assign body bd))::(bd,.deferred (some []))::s.rw⟩ (fun nx s2=>nx= .enter g (fi++ #[.func (.yield bl) #[] #[]]++ca)∧s2=⟨s.ro,(bl,.loop (gX fn a.tmps params assign body bd))::(bd,.deferred (some []))::s.rw⟩) (fun _ _=>False):=jL ff ⟨rfl,rfl⟩
  obtain⟨aKM,Dt,al9,qt⟩:=gz _ _ _ _ w1 #[] ayJ ht1.ju
  rw[Array.empty_append] at al9
  cases aKM with
  |halt _ _=>obtain⟨_,_,hu⟩:=qt;exact hu.elim
  |ok nx w2=>
   obtain⟨s2,ht2,rfl,rfl⟩:=qt
   let nj:Frame:=aH b {a with defers:=dS bd::a.defers} (.inRangeFunc bl::k)
   refine⟨G (Frame.enter P g (fi++ #[.func (.yield bl) #[] #[]]++ca) .normal) (nj::cs),w2,seen P b.fn es++seen P b.fn Dt,_,?_,rfl,(ht1.sub (gY _ _ _)).trans (ht2.sub (gY _ _ _)),?_⟩
   ·have P7:(aH b {a with defers:=dS bd::a.defers} (.inRangeFunc bl::k)).eval x= .func (.func g) fi ca:=by rw[Gm];exact hx
    have hdo:(do let d ←resolve (aH b {a with defers:=dS bd::a.defers} (.inRangeFunc bl::k)).eval {callee:= .value x,args:= #[.const (.func (.yield bl) #[] #[])],argTypes:= #[]} 0;invoke d.target d.args:Sem Next)=callFunc g (fi++ #[.func (.yield bl) #[] #[]]++ca):=by
     have hm:Array.map (aH b {a with defers:=dS bd::a.defers} (.inRangeFunc bl::k)).eval #[Operand.const (.func (.yield bl) #[] #[])]= #[.func (.yield bl) #[] #[]]:=by simp[Frame.eval]
     simp only[resolve,P7,Deferred.ofValue]
     rw[hm]
     rfl
    have bL:stepG P main (G (aH b a (.code (.rangeFunc x params assign body)::k)) cs) w=
     (let (r,es):=(Instr.enterLoop b.fn a.tmps params assign body b.roundOf).runT P w #[]
      GStep.after (seen P b.fn es)<|match r with
       | .ok (l,mark) w=>
        stepG.apply P true (aH b {a with defers:=mark++a.defers} (.inRangeFunc l::k)) cs none (do let d ←resolve (aH b {a with defers:=mark++a.defers} (.inRangeFunc l::k)).eval {callee:= .value x,args:= #[.const (.func (.yield l) #[] #[])],argTypes:= #[]} 0;invoke d.target d.args) w
       | .halt _ w=> .ended (.stuck "range over a function: no such loop" ((aH b a (.code (.rangeFunc x params assign body)::k)).pos P)) w):=rfl
    rw[bL,h1,h3,bN]
    simp only[List.singleton_append]
    rw[hdo]
    simp only[stepG.apply,if_true,al9]
    simp only[aH,hk,Bool.false_eq_true,if_false,GStep.after,h1]
    simp[G,nj,aH,h1]
   ·refine h bd bl hbd Vr main T hT nj cs (fun v s' hv=>?_) (fun ch s' hv=>h4 _ _ _ hv _)
    obtain⟨L,r,Rr,hs,FR,hq⟩:=hv
    have pY:∀(jump:Option Code),r.pending=jump→T (G (aH b {a with defers:=dS bd::a.defers} ((jump.map Item.code).toList++k)) cs) ⟨s'.ro,L++(bl,.loop {r with state:= .exhausted})::Rr⟩→T (G (nj.finish v) cs) s':=by
     intro jump hj hT'
     have ayI:bG P (Instr.endLoop bl) s' (fun j s2=>j=jump∧s2=⟨s'.ro,L++(bl,.loop {r with state:= .exhausted})::Rr⟩) (fun _ _=>False):=by
      simp only[Instr.endLoop]
      refine wu hs ?_
      have hbq:(r.state==LoopState.busy)=false:=by simpa using FR
      simp only[hbq,Bool.false_eq_true,if_false,aa,ae]
      exact dX rfl hs rfl ⟨hj,rfl⟩
     refine ir.step _ _ rfl fun w oQ=>?_
     obtain⟨res,es,bN,hl⟩:=gz _ _ _ _ w #[] ayI oQ
     rw[Array.empty_append] at bN
     cases res with
     |halt _ _=>obtain⟨_,_,hu⟩:=hl;exact hu.elim
     |ok j w'=>
      obtain⟨s2,ht,rfl,rfl⟩:=hl
      refine⟨_,w',seen P b.fn es,_,?_,rfl,ht.sub (gY _ _ _),hT'⟩
      have aNs:stepG P main (G (nj.finish v) cs) w=(let (r,es):=(Instr.endLoop bl).runT P w #[]
       GStep.after (seen P b.fn es)<|match r with
       | .ok jump w=> .go (G (aH b {a with defers:=dS bd::a.defers} ((jump.map Item.code).toList++k)) cs) w
       | .halt (.panic v) w=> .go (G ((aH b {a with defers:=dS bd::a.defers} (.endRangeFunc bl::k)).raise [{v,recovered:=false}]) cs) w
       | .halt _ w=> .ended (.stuck "range over a function: no such loop" ((aH b {a with defers:=dS bd::a.defers} (.endRangeFunc bl::k)).pos P)) w):=rfl
      rw[aNs,bN]
      simp[GStep.after]
    split at hq
    ·rename_i hp;exact pY none hp (h4 _ _ _ hq)
    ·rename_i hp;exact pY _ hp (h4 _ _ _ hq k)
    ·rename_i id hp
     refine pY _ hp ?_
     have h':=h4 _ _ _ hq
     simp only[jA] at h'
     cases iT:exitTo id k with
     |some k'=>
      rw[iT] at h'
      exact ir.go rfl rfl (g':=G (aH b {a with defers:=dS bd::a.defers} k') cs) (fun w=>by simp[G,stepG,stepG.exec,aH,iT]) h'
     |none=>rw[iT] at h';exact h' k iT
    ·exact hq.elim
end rounds
section marks
variable {P:Program} {C:Class} {s:St}
theorem unwind_mark(hC:∀main T,C main T→Closed P main T)(hT:C main T)(hm:fr.mode= .returning∨∃ch,fr.mode= .panicking ch){bd:Nat}(hd:fr.defers=dS bd::ds)
 {L Rr:List (Nat×Obj)}(hs:s.rw=L++(bd,.deferred (some []))::Rr)(h:T (G {fr with defers:=ds} cs) ⟨s.ro,L++(bd,.deferred none)::Rr⟩):T (G fr cs) s:=by
 have vk:bG P (Instr.takeDeferred bd) s (fun c s2=>c=[]∧s2=⟨s.ro,L++(bd,.deferred none)::Rr⟩) (fun _ _=>False):=by
  simp only[Instr.takeDeferred]
  refine cq (o:= .deferred (some [])) (.inr (by rw[hs];exact e9)) rfl rfl ?_
  exact dX rfl hs rfl ⟨rfl,rfl⟩
 refine(hC main T hT).step _ _ rfl fun w oQ=>?_
 obtain⟨res,es,bN,hl⟩:=gz _ _ _ _ w #[] vk oQ
 rw[Array.empty_append] at bN
 cases res with
 |halt _ _=>obtain⟨_,_,hu⟩:=hl;exact hu.elim
 |ok c w'=>
  obtain⟨s2,ht,rfl,rfl⟩:=hl
  refine⟨_,w',seen P fr.fn es,_,?_,rfl,ht.sub (gY _ _ _),h⟩
  rcases fr with ⟨fn',tmps,todo,defers,mode,kind,ro⟩
  simp only at hm hd
  subst hd
  rcases hm with rfl| ⟨ch,rfl⟩
  ·simp only[G,stepG,unwind,dS,bN,GStep.after,Array.append_empty,List.nil_append]
  ·simp only[G,stepG,unwind,dS,bN,GStep.after,Array.append_empty,List.nil_append]
end marks
section code
variable {P:Program} {C:Class} {fn:FuncId} {ay:Option Nat} {n LF:Nat} {F:Nat×Obj→Prop} {R:Nat→Option Obj} {call:bU}
theorem My{a:Act}(hC:∀main T,C main T→Closed P main T){c:Code}(h:Wp C fn ay c Q a s):Wp C fn ay (.scope c) Q a s:=by
 intro main T hT b k cs h1 h2 h3 h4
 refine(hC main T hT).go rfl rfl (g':=G (aH b a (.code c:: .inScope c::k)) cs) (fun w=>by simp[G,stepG,stepG.exec,aH]) ?_
 refine h main T hT b (.inScope c::k) cs h1 h2 h3 fun e a' s' q=>?_
 cases e with
 |normal=>exact(hC main T hT).go rfl rfl (g':=G (aH b a' k) cs) (fun w=>by simp[G,stepG,stepG.exec,aH]) (h4 _ _ _ q)
 |exit id=>
  have hh:exitTo id (.inScope c::k)=exitTo id k:=rfl
  have:=h4 _ _ _ q
  simp only[jA,hh] at this ⊢
  exact this
 |ret=>exact h4 _ _ _ q
 |panic ch=>exact h4 _ _ _ q
 |goto l=>exact(h4 _ _ _ q).elim
 |outgrown=>exact(h4 _ _ _ q).elim
theorem wp_label{a:Act}(hC:∀main T,C main T→Closed P main T){l:Nat}(h:Q .normal a s):Wp C fn ay (.label l) Q a s:=
 fun main T hT b k cs _ _ _ h4=>(hC main T hT).go rfl rfl (g':=G (aH b a k) cs) (fun w=>by simp[G,stepG,stepG.exec,aH]) (h4 _ _ _ h)
end code
section code
variable {P:Program} {C:Class} {fn:FuncId} {ay:Option Nat} {n LF:Nat} {D:List Deferred} {F:Nat×Obj→Prop} {R:Nat→Option Obj} {call:bU}
theorem rV(P:Program)(f:FuncId):seen P f #[]= #[]:=by
 apply Array.eq_empty_of_size_eq_zero
 rcases Nat.eq_zero_or_pos (seen P f #[]).size with h|h
 ·exact h
 ·have:=gY P f #[] (seen P f #[])[0] (Array.getElem_mem h)
  simp at this
def Hs(P:Program)(f:FuncId):Option (Func×Tmp×Code):=
 match P.funcs[f]? with
 |some fn=>match fn.body with
  |some (.seq (.region _ ops false) rest)=>match ops.toList with
   | [o]=>match o.dst,o.op,o.guard with
    |some t,.call ⟨.builtin .recover,xs,_⟩,none=>bif xs.isEmpty&&(fn.results.isEmpty&& !(fn.name== "runtime.NumGoroutine")) then some (fn,t,rest) else none
    |_,_,_=>none
   |_=>none
  |_=>none
 |none=>none
structure aEN(P:Program)(f:FuncId)(fn:Func)(t:Tmp)(rest:Code):Prop where
 ex:P.funcs[f]?=some fn∧fn.results= #[]∧(fn.name== "runtime.NumGoroutine")=false∧∃id o at_,fn.body=some (.seq (.region id #[o] false) rest)∧o.dst=some t∧o.op= .call ⟨.builtin .recover,#[],at_⟩∧o.guard=none
theorem Ue{f:FuncId}{fn:Func}{t:Tmp}{rest:Code}(h:Hs P f=some (fn,t,rest)):aEN P f fn t rest:=by
 unfold Hs at h
 split at h<;>try (cases h;done)
 rename_i fn0 uA
 split at h<;>try (cases h;done)
 rename_i id ops aUI hb
 split at h<;>try (cases h;done)
 rename_i o ho
 split at h<;>try (cases h;done)
 rename_i t0 xs at_ h1 h2 h3
 cases hc:(xs.isEmpty&&(fn0.results.isEmpty&& !(fn0.name== "runtime.NumGoroutine"))) with
 |false=>rw[hc] at h;cases h
 |true=>
  rw[hc] at h;simp only[cond_true,Option.some.injEq,Prod.mk.injEq] at h
  obtain⟨rfl,rfl,rfl⟩:=h
  simp only[Bool.and_eq_true,Bool.not_eq_true',Array.isEmpty_iff] at hc
  obtain⟨rfl,c2,c3⟩:=hc
  refine⟨uA,c2,c3,id,o,at_,?_,h1,h2,h3⟩
  rw[hb]
  have:ops= #[o]:=by apply Array.ext';simpa using ho
  rw[this]
inductive UM where
 |ret
 |panic (v:Value)
inductive MR(ρ:aR):UM→FrameMode→Prop
 |ret:MR ρ .ret .returning
 |panic (v v':Value):VR ρ v v'→MR ρ (.panic v) (.panicking [{v:=v',recovered:=false}])
def ah6:UM→Value
 | .ret=> .nilIface
 | .panic v=>v
theorem iU(hC:∀main T,C main T→Closed P main T)(hT:C main T)(hm:fr.mode= .returning∨∃ch,fr.mode= .panicking ch){f:FuncId}(ff:FF P f){a:Array Value} 
 (hd:fr.defers={target:= .fn (.func f) ca,args:=a}::ds)(h:T (G (Frame.enter P f (a++ca) .deferred) ({fr with defers:=ds}::cs)) s):T (G fr cs) s:=by
 have vk:bG P (invoke (.fn (.func f) ca) a) s (fun nx s2=>nx= .enter f (a++ca)∧s2=s) (fun _ _=>False):=by
  simp only[invoke]
  exact jL ff ⟨rfl,rfl⟩
 refine(hC main T hT).step _ _ rfl fun w oQ=>?_
 obtain⟨res,es,bN,hl⟩:=gz _ _ _ _ w #[] vk oQ
 rw[Array.empty_append] at bN
 cases res with
 |halt _ _=>obtain⟨_,_,hu⟩:=hl;exact hu.elim
 |ok c w'=>
  obtain⟨s2,ht,rfl,rfl⟩:=hl
  refine⟨_,w',seen P fr.fn es,_,?_,rfl,ht.sub (gY _ _ _),h⟩
  rcases fr with ⟨fn',tmps,todo,defers,mode,kind,ro⟩
  simp only at hm hd
  subst hd
  rcases hm with rfl| ⟨ch,rfl⟩
  ·simp only[G,stepG,unwind,callDeferred,bN,GStep.after,Array.append_empty]
   rfl
  ·simp only[G,stepG,unwind,callDeferred,bN,GStep.after,Array.append_empty]
   rfl
theorem zb(hC:∀main T,C main T→Closed P main T)(hT:C main T){b:Frame}{a:Act}{o:Oper}{t:Tmp}{at_:Array TypeId}{k:List Item}{ρ:aR}{u:UM}(rB:b.kind= .deferred)(qu:b.roundOf=none)
 (h1:o.dst=some t)(h2:o.op= .call ⟨.builtin .recover,#[],at_⟩)(h3:o.guard=none)(hu:MR ρ u fr.mode)
 (h:∀v' mJ,VR ρ (ah6 u) v'∨(u= .ret∧v'= .nilIface)→(mJ= .returning∨∃v,mJ= .panicking [{v:=v,recovered:=true}])→T (G (aH b (a.put (some t) v') (.inRegion #[o] []::k)) ({fr with mode:=mJ}::cs)) s):
 T (G (aH b a (.inRegion #[o] [0]::k)) (fr::cs)) s:=by
 have hw:Region.wanted o (yielded #[o] a.tmps)=true:=by unfold Region.wanted;rw[h3]
 have hex:∀aI,execOp aI o=pure .recover:=by
  intro aI
  simp only[execOp,h2,resolve]
  rfl
 have lT:∀v,(aH b a (.inRegion #[o] [0]::k)).finish v=aH b (a.put (some t) v) (.inRegion #[o] []::k):=by
  intro v
  rw[fB]
  have:((#[o]:Array Oper)[0]?).bind (·.dst)=some t:=by simpa using h1
  rw[this]
 have gq:∀w,stepG P main (G (aH b a (.inRegion #[o] [0]::k)) (fr::cs)) w=stepG.apply P true (aH b a (.inRegion #[o] [0]::k)) (fr::cs) none (pure .recover) w:=by
  intro w
  have he:=j9 b a (.inRegion #[o] [0]::k)
  simp only[aH] at he
  have ho:(#[o]:Array Oper)[0]?=some o:=by simp
  simp only[G,stepG,stepG.exec,aH,ho,Option.map_some,Option.getD_some,hw,if_true,stepG.oper,Frame.oper?,he,qu,hex]
 rcases Oq:fr.mode with _|_|ch
 ·rw[Oq] at hu;cases hu
 ·rw[Oq] at hu
  cases hu
  have:=h .nilIface .returning (.inr ⟨rfl,rfl⟩) (.inl rfl)
  rw[←lT] at this
  refine(hC main T hT).go rfl rfl (fun w=>?_) this
  rw[gq]
  have XP: {fr with mode:=FrameMode.returning}=fr:=by rw[←Oq]
  rw[XP]
  simp only[stepG.apply,if_true]
  show GStep.after (seen P _ _) _=_
  simp[Sem.runT,pure,GStep.after,aH,rB,qu,tryRecover,Oq,G]
  exact rV P b.fn
 ·rw[Oq] at hu
  cases hu
  rename_i v v' hv
  have:=h v' (.panicking [{v:=v',recovered:=true}]) (.inl hv) (.inr ⟨v',rfl⟩)
  rw[←lT] at this
  refine(hC main T hT).go rfl rfl (fun w=>?_) this
  rw[gq]
  simp only[stepG.apply,if_true]
  show GStep.after (seen P _ _) _=_
  simp[Sem.runT,pure,GStep.after,aH,rB,qu,tryRecover,Oq,G]
  exact rV P b.fn
end code
def iy:Code→List Code
 | .seq a b=>iy a++iy b
 |c=>[c]
def fD(K:Nat→St)(i:Nat)(s:St):Nat→St:=fun j=>if j=i then s else K j
theorem aB(K:Nat→St)(i:Nat)(s:St):fD K i s i=s:=by simp[fD]
theorem aD(K:Nat→St){j:Nat}(s:St)(h:j≠i):fD K i s j=K j:=by simp[fD,h]
structure Fit(L:Nat→Option Obj)(K:Nat→St)(w:World)(t:Trace):Prop where
 C8:∀b o,L b=some o→w.heap[b]?=some o
 kU:∀i b,(K i).iC b→L b=none
 ju:∀i,aP (K i) w
 sep:∀i j b,i≠j→(K i).iC b→¬(K j).knows b
 perm:∀i b,(K i).iC b→∀p x,touchAt t p=some x→blk x.loc=some b→Knows t i p
 qF:∀i b,(K i).ro b≠none→∀p x,touchAt t p=some x→blk x.loc=some b→x.write=true→Knows t i p
 old:∀p x b,touchAt t p=some x→blk x.loc=some b→b <w.heap.size
 clean:∀said,¬Race said t
 sync:∀p x b,touchAt t p=some x→x.kind≠ .plain→blk x.loc=some b→L b=none∧∀i,¬(K i).knows b
theorem lt_size{α:Type}{a:Array α}{x:α}(h:a[i]?=some x):i <a.size:=by
 rcases Nat.lt_or_ge i a.size with h'|h'
 ·exact h'
 ·rw[Array.getElem?_eq_none h'] at h;cases h
theorem bw{x:Touch}(h:touchAt (t++u) p=some x):(p <t.size∧touchAt t p=some x)∨(t.size≤p∧∃op∈u,(t++u)[p]?=some op∧op.act.touch?=some x):=by
 rcases Nat.lt_or_ge p t.size with hp|hp
 ·exact .inl ⟨hp,by rw[←touchAt_old (u:=u) hp];exact h⟩
 ·obtain⟨op,ho,hx⟩:=touch_of h
  rcases getElem?_append_cases ho with ⟨h',_⟩| ⟨_,hm⟩
  ·omega
  ·exact .inr ⟨hp,op,hm,ho,hx⟩
theorem Ca{es:Array Event}(h:∀e∈es,G1 s n e){op:MemOp}(ho:op∈MemOp.ofEvents i fn pos es):
 op.g=i∧∀x,op.act.touch?=some x→x.kind= .plain∧∃b,blk x.loc=some b∧(n≤b∨s.iC b∨(x.write=false∧s.ro b≠none))∧∃e∈es,blk e.loc=some b:=by
 rw[ofEvents_eq] at ho
 obtain⟨e,he,rfl⟩:=Array.mem_map.1 ho
 refine⟨rfl,fun x hx=>?_⟩
 have hk:=h e he
 obtain⟨loc,wr,sy⟩:=e
 cases loc with
 |cell a=>
  obtain⟨h1,h2⟩:=hk
  simp only at h1 h2
  subst h1
  cases wr<;>(simp only[MemAct.ofEvent,MemAct.touch?,Option.some.injEq] at hx;subst hx;exact⟨rfl,_,rfl,h2,_,he,rfl⟩)
 |obj r=>
  obtain⟨h1,h2⟩:=hk
  simp only at h1 h2
  subst h1
  cases wr<;>(simp only[MemAct.ofEvent,MemAct.touch?,Option.some.injEq] at hx;subst hx;exact⟨rfl,_,rfl,h2,_,he,rfl⟩)
 |mark m=>
  cases m<;>simp only[G1,Bg,Bool.false_eq_true] at hk<;>(cases hx)
 |_=>exact hk.elim
theorem Bw(hu:∀op∈u,op.g=i)(hp:t.size≤p){op:MemOp}(ho:(t++u)[p]?=some op):Knows (t++u) i p:=by
 rcases getElem?_append_cases ho with ⟨h',_⟩| ⟨_,hm⟩
 ·omega
 ·have:=knows_own ho
  rwa[hu op hm] at this
theorem Fit.own{L:Nat→Option Obj}{K:Nat→St}{w:World}(h:Fit L K w t){es:Array Event}(ht:Trans (K i) w s' w' es)(fn:FuncId)(pos:String):
 Fit L (fD K i s') w' (t++MemOp.ofEvents i fn pos es):=by
 have hu:=fun op (ho:op∈MemOp.ofEvents i fn pos es)=>Ca ht.uO ho
 have hg:∀op∈MemOp.ofEvents i fn pos es,op.g=i:=fun op ho=>(hu op ho).1
 have other:∀j b,j≠i→(K j).knows b→b <w.heap.size∧¬(K i).iC b:=fun j b hj hk=>by
  refine⟨?_,fun ho=>h.sep i j b (Ne.symm hj) ho hk⟩
  rcases hk with hk| ⟨o,hk⟩
  ·cases hr:(K j).ro b with
   |none=>exact absurd hr hk
   |some o=>exact(h.ju j).lt (.inl hr)
  ·exact(h.ju j).lt (.inr hk)
 have UI:∀b o,L b=some o→b <w.heap.size:=fun b o hl=>lt_size (h.C8 b o hl)
 refine⟨fun b o hl=>?_,fun j b ho=>?_,fun j=>?_,fun j k b Mn ho hk=>?_,fun j b ho p x hx hb=>?_,fun j b ho p x hx hb hw=>?_,fun p x b hx hb=>?_,fun said=>?_,fun p x b hx hk hb=>?_⟩
 ·rw[ht.frame b (UI b o hl) (fun ho=>by have:=h.kU i b ho;rw[hl] at this;cases this)];exact h.C8 b o hl
 ·by_cases hj:j=i
  ·subst hj
   rw[aB] at ho
   rcases ht.own b ho with h1|h1
   ·cases hl:L b with
    |none=>rfl
    |some o=>have:=UI b o hl;omega
   ·exact h.kU j b h1
  ·rw[aD K s' hj] at ho;exact h.kU j b ho
 ·by_cases hj:j=i
  ·subst hj;rw[aB];exact ht.ju
  ·rw[aD K s' hj]
   have a:=h.ju j
   refine⟨fun b o hb=>?_,fun b o hb=>?_,a.nodup,a.apart⟩
   ·have:=other j b hj (.inl (by rw[hb];simp))
    rw[ht.frame b this.1 this.2];exact a.ro b o hb
   ·have:=other j b hj (.inr ⟨o,hb⟩)
    rw[ht.frame b this.1 this.2];exact a.rw b o hb
 ·by_cases hj:j=i
  ·subst hj
   rw[aB] at ho
   rw[aD K s' (Ne.symm Mn)] at hk
   have:=other k b (Ne.symm Mn) hk
   rcases ht.own b ho with h1|h1
   ·omega
   ·exact this.2 h1
  ·rw[aD K s' hj] at ho
   by_cases jh:k=i
   ·subst jh
    rw[aB] at hk
    have:=other j b hj (.inr ho)
    rcases hk with hk|hk
    ·rcases ht.JJ b hk with h1|h1|h1
     ·omega
     ·exact h.sep j k b hj ho (.inl h1)
     ·exact this.2 h1
    ·rcases ht.own b hk with h1|h1
     ·omega
     ·exact this.2 h1
   ·rw[aD K s' jh] at hk
    exact h.sep j k b Mn ho hk
 ·rcases bw hx with ⟨hp,kJ⟩| ⟨hp,op,hm,ax,xy⟩
  ·by_cases hj:j=i
   ·subst hj
    rw[aB] at ho
    rcases ht.own b ho with h1|h1
    ·exact absurd (h.old p x b kJ hb) (by omega)
    ·exact(h.perm j b h1 p x kJ hb).app _
   ·rw[aD K s' hj] at ho
    exact(h.perm j b ho p x kJ hb).app _
  ·by_cases hj:j=i
   ·subst hj;exact Bw hg hp ax
   ·rw[aD K s' hj] at ho
    obtain⟨_,b',lU,hc,e',yO,Dm⟩:=(hu op hm).2 x xy
    obtain rfl:b'=b:=by rw[hb] at lU;exact(Option.some.inj lU).symm
    have:=other j b' hj (.inr ho)
    rcases hc with h1|h1|h1
    ·omega
    ·exact absurd h1 this.2
    ·exact absurd (.inl h1.2) (h.sep j i b' hj ho)
 ·rcases bw hx with ⟨hp,kJ⟩| ⟨hp,op,hm,ax,xy⟩
  ·by_cases hj:j=i
   ·subst hj
    rw[aB] at ho
    rcases ht.JJ b ho with h1|h1|h1
    ·exact absurd (h.old p x b kJ hb) (by omega)
    ·exact(h.qF j b h1 p x kJ hb hw).app _
    ·exact(h.perm j b h1 p x kJ hb).app _
   ·rw[aD K s' hj] at ho
    exact(h.qF j b ho p x kJ hb hw).app _
  ·by_cases hj:j=i
   ·subst hj;exact Bw hg hp ax
   ·rw[aD K s' hj] at ho
    obtain⟨_,b',lU,hc,e',yO,Dm⟩:=(hu op hm).2 x xy
    obtain rfl:b'=b:=by rw[hb] at lU;exact(Option.some.inj lU).symm
    have:=other j b' hj (.inl ho)
    rcases hc with h1|h1|h1
    ·omega
    ·exact absurd h1 this.2
    ·rw[h1.1] at hw;cases hw
 ·rcases bw hx with ⟨hp,kJ⟩| ⟨hp,op,hm,ax,xy⟩
  ·exact Nat.lt_of_lt_of_le (h.old p x b kJ hb) ht.size
  ·obtain⟨_,b',lU,hc,e',yO,Dm⟩:=(hu op hm).2 x xy
   obtain rfl:b'=b:=by rw[hb] at lU;exact(Option.some.inj lU).symm
   exact ht.low e' yO b' Dm
 case refine_9=>
  rcases bw hx with ⟨hp,kJ⟩| ⟨hp,op,hm,ax,xy⟩
  ·have hs:=h.sync p x b kJ hk hb
   refine⟨hs.1,fun j hj=>?_⟩
   by_cases e:j=i
   ·subst e
    rw[aB] at hj
    have cz:=h.old p x b kJ hb
    rcases hj with hj|hj
    ·rcases ht.JJ b hj with h1|h1|h1
     ·omega
     ·exact hs.2 j (.inl h1)
     ·exact hs.2 j (.inr h1)
    ·rcases ht.own b hj with h1|h1
     ·omega
     ·exact hs.2 j (.inr h1)
   ·rw[aD K s' e] at hj;exact hs.2 j hj
  ·exact absurd ((hu op hm).2 x xy).1 hk
 case refine_8=>
  refine noRace_append (h.clean said) hg fun p a ha op hm b hb hc=>?_
  obtain⟨hk,c,hbc,uj,_⟩:=(hu op hm).2 b hb
  have aq6:blk a.loc=some c:=by rw[hc.1];exact hbc
  rcases uj with h1|h1|h1
  ·exact absurd (h.old p a c ha aq6) (by omega)
  ·exact h.perm i c h1 p a ha aq6
  ·refine h.qF i c h1.2 p a ha aq6 ?_
   rcases hc.2.2.1 with hw|hw
   ·exact hw
   ·rw[h1.1] at hw;cases hw
theorem Kk{said:Bool}(h:¬Race said t)(hu:∀op∈u,op.act.touch?=none):¬Race said (t++u):=by
 rintro⟨i,j,G9,⟨a,b,ha,hb,hc⟩,n1,n2⟩
 obtain⟨y,hy,hyb⟩:=touch_of hb
 rcases getElem?_append_cases hy with ⟨hj,_⟩| ⟨_,hyu⟩
 ·have hi:i <t.size:=Nat.lt_trans G9 hj
  exact h ⟨i,j,G9,⟨a,b,by rw[←act?_old (u:=u) hi];exact ha,by rw[←act?_old (u:=u) hj];exact hb,hc⟩,fun e=>n1 (hb_app u e),fun e=>n2 (hb_app u e)⟩
 ·rw[hu y hyu] at hyb;cases hyb
section
variable {L:Nat→Option Obj} {K:Nat→St} {w w':World} {t u:Trace}
theorem Fit.Fv(h:Fit L K w t)(hk:(K i).knows b):b <w.heap.size:=by
 rcases hk with hk| ⟨o,hk⟩
 ·cases hr:(K i).ro b with
  |none=>exact absurd hr hk
  |some o=>exact(h.ju i).lt (.inl hr)
 ·exact(h.ju i).lt (.inr hk)
theorem aP.congr(h:aP s w)(hf:∀b,s.knows b→w'.heap[b]?=w.heap[b]?):aP s w':=
 ⟨fun b o hb=>by rw[hf b (.inl (by rw[hb];simp))];exact h.ro b o hb,fun b o hb=>by rw[hf b (.inr ⟨o,hb⟩)];exact h.rw b o hb,h.nodup,h.apart⟩
theorem Fit.quiet(h:Fit L K w t)(B:Nat)(hB:∀j,¬(K j).knows B)(hBL:L B=none)(hs:w.heap.size≤w'.heap.size)(hf:∀b,b≠B→b <w.heap.size→w'.heap[b]?=w.heap[b]?)
 (hu:∀op∈u,op.act.touch?=none):Fit L K w' (t++u):=by
 have old:∀p x,touchAt (t++u) p=some x→touchAt t p=some x:=fun p x hx=>by
  rcases bw hx with ⟨_,h'⟩| ⟨_,op,hm,_,xy⟩
  ·exact h'
  ·rw[hu op hm] at xy;cases xy
 refine⟨fun b o hl=>?_,h.kU,fun i=>?_,h.sep,fun i b ho p x hx hb=>(h.perm i b ho p x (old p x hx) hb).app u,fun i b ho p x hx hb hw=>(h.qF i b ho p x (old p x hx) hb hw).app u,
  fun p x b hx hb=>Nat.lt_of_lt_of_le (h.old p x b (old p x hx) hb) hs,fun said=>Kk (h.clean said) hu,fun p x b hx hk hb=>h.sync p x b (old p x hx) hk hb⟩
 ·rw[hf b (fun e=>by rw[e,hBL] at hl;cases hl) (lt_size (h.C8 b o hl))];exact h.C8 b o hl
 ·exact(h.ju i).congr fun b hb=>hf b (fun e=>hB i (e▸hb)) (h.Fv hb)
theorem Fit.beside(h:Fit L K w t)(B i:Nat)(hB:∀j,¬(K j).knows B)(hBL:L B=none)(hBw:B <w.heap.size)(hs:w.heap.size≤w'.heap.size)(hf:∀b,b≠B→b <w.heap.size→w'.heap[b]?=w.heap[b]?)
 (hg:∀op∈u,op.g=i) (hu:∀op∈u,∀x,op.act.touch?=some x→blk x.loc=some B∧∀said p a,touchAt t p=some a→a.conflicts said x→Knows t i p):Fit L K w' (t++u):=by
 have old:∀b,b≠B→∀p x,touchAt (t++u) p=some x→blk x.loc=some b→touchAt t p=some x:=fun b dP p x hx hb=>by
  rcases bw hx with ⟨_,h'⟩| ⟨_,op,hm,_,xy⟩
  ·exact h'
  ·have:=(hu op hm x xy).1
   rw[hb] at this;exact absurd (Option.some.inj this) dP
 have ne:∀j b,(K j).knows b→b≠B:=fun j b hk e=>hB j (e▸hk)
 refine⟨fun b o hl=>?_,h.kU,fun i=>?_,h.sep,fun j b ho p x hx hb=>(h.perm j b ho p x (old b (ne j b (.inr ho)) p x hx hb) hb).app u,
  fun j b ho p x hx hb hw=>(h.qF j b ho p x (old b (ne j b (.inl ho)) p x hx hb) hb hw).app u,
  fun p x b hx hb=>?_,fun said=>noRace_append (h.clean said) hg fun p a ha op hm b hb hc=>(hu op hm b hb).2 said p a ha hc,fun p x b hx hk hb=>?_⟩
 ·rw[hf b (fun e=>by rw[e,hBL] at hl;cases hl) (lt_size (h.C8 b o hl))];exact h.C8 b o hl
 ·exact(h.ju i).congr fun b hb=>hf b (fun e=>hB i (e▸hb)) (h.Fv hb)
 ·by_cases e:b=B
  ·subst e;omega
  ·exact Nat.lt_of_lt_of_le (h.old p x b (old b e p x hx hb) hb) hs
 ·by_cases e:b=B
  ·subst e;exact⟨hBL,hB⟩
  ·exact h.sync p x b (old b e p x hx hb) hk hb
theorem St.le.iC(h:s.le s')(hb:s.iC b):s'.iC b:=by
 obtain⟨R,h1,_⟩:=h
 obtain⟨o,ho⟩:=hb
 exact⟨o,h1.mem_iff.2 (by simp[ho])⟩
theorem St.le.ro(h:s.le s')(hb:s.ro b≠none):s'.ro b≠none∨s'.iC b:=by
 obtain⟨R,h1,h2⟩:=h
 cases hr:s.ro b with
 |none=>exact absurd hr hb
 |some o=>
  rcases h2 b o hr with h3|h3
  ·exact .inl (by rw[h3];simp)
  ·exact .inr ⟨o,h1.mem_iff.2 (by simp[h3])⟩
theorem St.le.knows(h:s.le s')(hb:s.knows b):s'.knows b:=hb.elim (fun hr=>(h.ro hr).elim .inl .inr) fun ho=> .inr (h.iC ho)
theorem Fit.le{K':Nat→St}(h:Fit L K w t)(hK:∀i,(K' i).le (K i)):Fit L K' w t:=
 ⟨h.C8,fun i b ho=>h.kU i b ((hK i).iC ho),fun i=>(h.ju i).of_le (hK i),fun i j b G9 ho hk=>h.sep i j b G9 ((hK i).iC ho) ((hK j).knows hk),
  fun i b ho p x hx hb=>h.perm i b ((hK i).iC ho) p x hx hb,
  fun i b ho p x hx hb hw=>((hK i).ro ho).elim (fun hr=>h.qF i b hr p x hx hb hw) fun hr=>h.perm i b hr p x hx hb,h.old,h.clean,
  fun p x b hx hk hb=>⟨(h.sync p x b hx hk hb).1,fun i hi=>(h.sync p x b hx hk hb).2 i ((hK i).knows hi)⟩⟩
theorem Fit.hand(h:Fit L K w t){j:Nat}(G9:i≠j)(X Y:List (Nat×Obj))(hX:(K j).rw.Perm (X++Y))
 (hk:∀b o,(b,o)∈X→∀p x,touchAt t p=some x→blk x.loc=some b→Knows t i p):
 Fit L (fD (fD K j ⟨(K j).ro,Y⟩) i ⟨(K i).ro,X++(K i).rw⟩) w t:=by
 have iE:∀x,x∈X→x∈(K j).rw:=fun x hx=>hX.mem_iff.2 (by simp[hx])
 have adn:∀x,x∈Y→x∈(K j).rw:=fun x hx=>hX.mem_iff.2 (by simp[hx])
 have lI:(X.map (·.1)).Nodup∧(Y.map (·.1)).Nodup∧∀b o o',(b,o)∈X→(b,o')∈Y→False:=by
  have:=(hX.map (·.1)).nodup_iff.1 (h.ju j).nodup
  rw[List.map_append,List.nodup_append] at this
  exact⟨this.1,this.2.1,fun b o o' h1 h2=>this.2.2 b (List.mem_map.2 ⟨_,h1,rfl⟩) b (List.mem_map.2 ⟨_,h2,rfl⟩) rfl⟩
 have e1:fD (fD K j ⟨(K j).ro,Y⟩) i ⟨(K i).ro,X++(K i).rw⟩ i=⟨(K i).ro,X++(K i).rw⟩:=aB _ _ _
 have e2:fD (fD K j ⟨(K j).ro,Y⟩) i ⟨(K i).ro,X++(K i).rw⟩ j=⟨(K j).ro,Y⟩:=by rw[aD _ _ (Ne.symm G9),aB]
 have e3:∀k,k≠i→k≠j→fD (fD K j ⟨(K j).ro,Y⟩) i ⟨(K i).ro,X++(K i).rw⟩ k=K k:=fun k h1 h2=>by rw[aD _ _ h1,aD _ _ h2]
 have Nv:∀b,(⟨(K i).ro,X++(K i).rw⟩:St).iC b→(∃o,(b,o)∈X)∨(K i).iC b:=fun b ⟨o,ho⟩=>(List.mem_append.1 ho).elim (fun h'=> .inl ⟨o,h'⟩) fun h'=> .inr ⟨o,h'⟩
 have IC:∀b,(⟨(K j).ro,Y⟩:St).iC b→(K j).iC b∧¬ ∃o,(b,o)∈X:=fun b ⟨o,ho⟩=>⟨⟨o,adn _ ho⟩,fun⟨o',h'⟩=>lI.2.2 b o' o h' ho⟩
 have jX:∀b,(∃o,(b,o)∈X)→(K j).iC b:=fun b ⟨o,ho⟩=>⟨o,iE _ ho⟩
 have Kv:∀k b,k≠i→(fD (fD K j ⟨(K j).ro,Y⟩) i ⟨(K i).ro,X++(K i).rw⟩ k).knows b→(K k).knows b∧(k=j→¬ ∃o,(b,o)∈X):=fun k b jh hb=>by
  by_cases e:k=j
  ·subst e
   rw[e2] at hb
   rcases hb with hb|hb
   ·refine⟨.inl hb,fun _ ⟨o,ho⟩=>hb ((h.ju k).apart b o (iE _ ho))⟩
   ·exact⟨.inr (IC b hb).1,fun _=>(IC b hb).2⟩
  ·rw[e3 k jh e] at hb;exact⟨hb,fun e'=>absurd e' e⟩
 refine⟨h.C8,fun k b ho=>?_,fun k=>?_,fun k l b P3 ho hb=>?_,fun k b ho p x hx hb=>?_,fun k b ho p x hx hb hw=>?_,h.old,h.clean,fun p x b hx jh hb=>⟨(h.sync p x b hx jh hb).1,fun k bP=>?_⟩⟩
 case refine_6=>
  have hs:=(h.sync p x b hx jh hb).2
  by_cases a:k=i
  ·subst a;rw[e1] at bP
   rcases bP with h'|h'
   ·exact hs k (.inl h')
   ·exact(Nv b h').elim (fun h'=>hs j (.inr (jX b h'))) fun h'=>hs k (.inr h')
  ·exact hs k (Kv k b a bP).1
 ·by_cases a:k=i
  ·subst a;rw[e1] at ho
   exact(Nv b ho).elim (fun h'=>h.kU j b (jX b h')) (h.kU k b)
  ·by_cases c:k=j
   ·subst c;rw[e2] at ho;exact h.kU k b (IC b ho).1
   ·rw[e3 k a c] at ho;exact h.kU k b ho
 ·by_cases a:k=i
  ·subst a;rw[e1]
   refine⟨(h.ju k).ro,fun b o hb=>(List.mem_append.1 hb).elim (fun h'=>(h.ju j).rw b o (iE _ h')) ((h.ju k).rw b o),?_,fun b o hb=>?_⟩
   ·rw[List.map_append,List.nodup_append]
    refine⟨lI.1,(h.ju k).nodup,?_⟩
    rintro b h1 _ h2 rfl
    obtain⟨⟨b1,o1⟩,m1,rfl⟩:=List.mem_map.1 h1
    obtain⟨⟨b2,o2⟩,m2,he⟩:=List.mem_map.1 h2
    simp only at he;subst he
    exact h.sep j k b2 (Ne.symm G9) (jX b2 ⟨o1,m1⟩) (.inr ⟨o2,m2⟩)
   ·rcases List.mem_append.1 hb with h'|h'
    ·cases hr:(K k).ro b with
     |none=>rfl
     |some y=>exact absurd (.inl (by rw[hr];simp)) (h.sep j k b (Ne.symm G9) (jX b ⟨o,h'⟩))
    ·exact(h.ju k).apart b o h'
  ·by_cases c:k=j
   ·subst c;rw[e2]
    exact⟨(h.ju k).ro,fun b o hb=>(h.ju k).rw b o (adn _ hb),lI.2.1,fun b o hb=>(h.ju k).apart b o (adn _ hb)⟩
   ·rw[e3 k a c];exact h.ju k
 ·by_cases a:k=i
  ·subst a
   rw[e1] at ho
   have jh:=Kv l b (Ne.symm P3) hb
   rcases Nv b ho with h'|h'
   ·by_cases c:l=j
    ·exact jh.2 c h'
    ·exact h.sep j l b (Ne.symm c) (jX b h') jh.1
   ·exact h.sep k l b P3 h' jh.1
  ·have DZ:(K k).iC b∧(k=j→¬ ∃o,(b,o)∈X):=by
    by_cases c:k=j
    ·subst c;rw[e2] at ho;exact⟨(IC b ho).1,fun _=>(IC b ho).2⟩
    ·rw[e3 k a c] at ho;exact⟨ho,fun e=>absurd e c⟩
   by_cases c:l=i
   ·subst c
    rw[e1] at hb
    rcases hb with hb|hb
    ·exact h.sep k l b P3 DZ.1 (.inl hb)
    ·rcases Nv b hb with h'|h'
     ·by_cases d:k=j
      ·exact DZ.2 d h'
      ·exact h.sep k j b d DZ.1 (.inr (jX b h'))
     ·exact h.sep k l b P3 DZ.1 (.inr h')
   ·exact h.sep k l b P3 DZ.1 (Kv l b c hb).1
 ·by_cases a:k=i
  ·subst a;rw[e1] at ho
   exact(Nv b ho).elim (fun⟨o,h'⟩=>hk b o h' p x hx hb) fun h'=>h.perm k b h' p x hx hb
  ·by_cases c:k=j
   ·subst c;rw[e2] at ho;exact h.perm k b (IC b ho).1 p x hx hb
   ·rw[e3 k a c] at ho;exact h.perm k b ho p x hx hb
 ·by_cases a:k=i
  ·subst a;rw[e1] at ho;exact h.qF k b ho p x hx hb hw
  ·by_cases c:k=j
   ·subst c;rw[e2] at ho;exact h.qF k b ho p x hx hb hw
   ·rw[e3 k a c] at ho;exact h.qF k b ho p x hx hb hw
theorem Fit.share(h:Fit L K w t)(yN:i≠n)(s:St)(hrw:s.rw=[])(zr:∀b o,s.ro b=some o→(K i).ro b=some o)
 (hk:∀b,s.ro b≠none→∀p x,touchAt t p=some x→blk x.loc=some b→x.write=true→Knows t n p):Fit L (fD K n s) w t:=by
 have no:∀b,¬s.iC b:=fun b ⟨o,ho⟩=>by rw[hrw] at ho;cases ho
 have kn:∀b,s.ro b≠none→(K i).ro b≠none:=fun b hb=>by
  cases hr:s.ro b with
  |none=>exact absurd hr hb
  |some o=>rw[zr b o hr];simp
 refine⟨h.C8,fun k b ho=>?_,fun k=>?_,fun k l b P3 ho hb=>?_,fun k b ho p x hx hb=>?_,fun k b ho p x hx hb hw=>?_,h.old,h.clean,fun p x b hx jh hb=>⟨(h.sync p x b hx jh hb).1,fun k bP=>?_⟩⟩
 case refine_6=>
  have hs:=(h.sync p x b hx jh hb).2
  by_cases a:k=n
  ·subst a;rw[aB] at bP;exact hs i (.inl (kn b (bP.resolve_right (no b))))
  ·rw[aD _ _ a] at bP;exact hs k bP
 ·by_cases a:k=n
  ·subst a;rw[aB] at ho;exact absurd ho (no b)
  ·rw[aD _ _ a] at ho;exact h.kU k b ho
 ·by_cases a:k=n
  ·subst a;rw[aB];exact⟨fun b o hb=>(h.ju i).ro b o (zr b o hb),fun b o hb=>absurd ⟨o,hb⟩ (no b),by rw[hrw];simp,fun b o hb=>absurd ⟨o,hb⟩ (no b)⟩
  ·rw[aD _ _ a];exact h.ju k
 ·by_cases a:k=n
  ·subst a;rw[aB] at ho;exact no b ho
  ·rw[aD _ _ a] at ho
   by_cases c:l=n
   ·subst c;rw[aB] at hb
    have hr:=kn b (hb.resolve_right (no b))
    by_cases d:k=i
    ·subst d
     obtain⟨o,ho⟩:=ho
     exact hr ((h.ju k).apart b o ho)
    ·exact h.sep k i b d ho (.inl hr)
   ·rw[aD _ _ c] at hb;exact h.sep k l b P3 ho hb
 ·by_cases a:k=n
  ·subst a;rw[aB] at ho;exact absurd ho (no b)
  ·rw[aD _ _ a] at ho;exact h.perm k b ho p x hx hb
 ·by_cases a:k=n
  ·subst a;rw[aB] at ho;exact hk b ho p x hx hb hw
  ·rw[aD _ _ a] at ho;exact h.qF k b ho p x hx hb hw
theorem Fit.alone(h:Fit L K w t)(hK:∀j,j≠i→∀b,¬(K j).knows b)(s:St)(ha:aP s w)
 (yN:∀b,s.knows b→L b≠none∨(K i).knows b)(jh:∀b,s.knows b→∀p x,touchAt t p=some x→x.kind= .plain→blk x.loc=some b→Knows t i p):
 Fit (fun _=>none) (fD K i s) w t:=by
 have axK:∀b,s.knows b→∀p x,touchAt t p=some x→blk x.loc=some b→x.kind= .plain:=fun b hb p x hx YR=>by
  by_cases e:x.kind= .plain
  ·exact e
  ·have hs:=h.sync p x b hx e YR
   exact((yN b hb).elim (fun h'=>h' hs.1) fun h'=>hs.2 i h').elim
 have hk:∀b,s.knows b→∀p x,touchAt t p=some x→blk x.loc=some b→Knows t i p:=fun b hb p x hx YR=>jh b hb p x hx (axK b hb p x hx YR) YR
 refine⟨fun b o hl=>((by cases hl)),fun _ _ _=>rfl,fun k=>?_,fun k l b P3 ho hb=>?_,fun k b ho p x hx hb=>?_,fun k b ho p x hx hb hw=>?_,h.old,h.clean,fun p x b hx hkd hb=>⟨rfl,fun k bP=>?_⟩⟩
 case refine_5=>
  by_cases a:k=i
  ·subst a;rw[aB] at bP;exact hkd (axK b bP p x hx hb)
  ·rw[aD _ _ a] at bP;exact hK k a b bP
 ·by_cases a:k=i
  ·subst a;rw[aB];exact ha
  ·rw[aD _ _ a];exact h.ju k
 ·by_cases a:k=i
  ·rw[aD _ _ (fun e=>P3 (a.trans e.symm))] at hb;exact hK l (fun e=>P3 (a.trans e.symm)) b hb
  ·rw[aD _ _ a] at ho;exact hK k a b (.inr ho)
 ·by_cases a:k=i
  ·subst a;rw[aB] at ho;exact hk b (.inr ho) p x hx hb
  ·rw[aD _ _ a] at ho;exact absurd (.inr ho) (hK k a b)
 ·by_cases a:k=i
  ·subst a;rw[aB] at ho;exact hk b (.inl ho) p x hx hb
  ·rw[aD _ _ a] at ho;exact absurd (.inl ho) (hK k a b)
end
inductive Tree:Type
 |leaf
 |node (f:World→Tree)
inductive Tree.Lt:Tree→Tree→Prop
 |mk (f:World→Tree) (w:World):Tree.Lt (f w) (.node f)
theorem Tree.wf:WellFounded Tree.Lt:=by
 refine⟨fun t=>?_⟩
 induction t with
 |leaf=>exact⟨_,fun y h=>(by cases h)⟩
 |node f ih=>exact⟨_,fun y h=>by cases h;exact ih _⟩
def n8(P:Program)(main:Bool)(Stop:Goroutine→St→Prop):Tree→Goroutine→St→Prop
 | .leaf,g,s=>Stop g s
 | .node f,g,s=>g.status= .running∧∀w,aP s w→∃g' w' es s',stepG P main g w= .go g' w' es∧g'.status= .running∧Trans s w s' w' es∧n8 P main Stop (f w) g' s'
theorem St.le.trans{a b c:St}(h:a.le b)(k:b.le c):a.le c:=by
 obtain⟨R,h1,h2⟩:=h
 obtain⟨R',k1,k2⟩:=k
 refine⟨R++R',?_,fun x o hx=>?_⟩
 ·rw[←List.append_assoc];exact k1.trans (h1.append_right R')
 ·rcases h2 x o hx with h3|h3
  ·exact(k2 x o h3).imp id fun h'=>by simp[h']
  ·exact .inr (by simp[h3])
theorem Trans.le{gP:St}{w:World}{es:Array Event}(h:Trans s w s' w' es)(hl:gP.le s'):Trans s w gP w' es:=
 ⟨h.ju.of_le hl,h.size,h.frame,fun b hb=>h.own b (hl.iC hb),fun b hb=>(hl.ro hb).elim (h.JJ b) fun ho=>(h.own b ho).imp id .inr,h.os,h.output,h.tape,h.uO,h.low⟩
def eG(P:Program)(main:Bool)(Stop:Goroutine→St→Prop)(g:Goroutine)(s:St):Prop:=∃tr gP,gP.le s∧n8 P main Stop tr g gP
theorem dM(P:Program)(main:Bool)(Stop:Goroutine→St→Prop):Closed P main (eG P main Stop) where
 step:=fun g s hs h=>by
  have key:∀w,∃tr,aP s w→∃g' w' es s',stepG P main g w= .go g' w' es∧g'.status= .running∧Trans s w s' w' es∧n8 P main Stop tr g' s':=fun w=>by
   by_cases ha:aP s w
   ·obtain⟨g',w',es,s',h1,h2,h3,tr,gP,hl,h4⟩:=h w ha
    exact⟨tr,fun _=>⟨g',w',es,gP,h1,h2,h3.le hl,h4⟩⟩
   ·exact⟨.leaf,fun uk=>absurd uk ha⟩
  refine⟨.node fun w=>(key w).choose,s,St.le_refl s,hs,fun w ha=>(key w).choose_spec ha⟩
 mono:=fun g s s' hl ⟨tr,gP,h,ht⟩=>⟨tr,gP,h.trans hl,ht⟩
theorem eG.stop{Stop:Goroutine→St→Prop}(h:Stop g s):eG P main Stop g s:=⟨.leaf,s,St.le_refl s,h⟩
section
variable {α:Type}
inductive One(r:α→α→Prop):List α→List α→Prop
 |mk (a:List α) (x y:α) (b:List α):r y x→One r (a++y::b) (a++x::b)
theorem One.cons_inv{r:α→α→Prop}{x:α}{l m:List α}(h:One r m (x::l)):(∃y,m=y::l∧r y x)∨∃l',m=x::l'∧One r l' l:=by
 generalize hk:x::l=k at h
 obtain⟨a,u,v,b,hr⟩:=h
 cases a with
 |nil=>simp only[List.nil_append,List.cons.injEq] at hk;obtain⟨rfl,rfl⟩:=hk;exact .inl ⟨v,rfl,hr⟩
 |cons c a=>simp only[List.cons_append,List.cons.injEq] at hk;obtain⟨rfl,rfl⟩:=hk;exact .inr ⟨_,rfl,.mk a u v b hr⟩
theorem One.acc{r:α→α→Prop}:∀l:List α,(∀x∈l,Acc r x)→Acc (One r) l
 | [],_=>⟨_,fun m h=>by
  generalize hk:([]:List α)=k at h
  obtain⟨a,u,v,b,hr⟩:=h
  cases a<;>simp at hk⟩
 |x::l,h=>by
  have hl:=One.acc l fun y hy=>h y (List.mem_cons_of_mem _ hy)
  have hx:=h x (List.mem_cons_self ..)
  clear h
  induction hx generalizing l with
  |intro x hx ihx=>
   clear hx
   induction hl with
   |intro l hl ihl=>
    refine⟨_,fun m hm=>?_⟩
    rcases hm.cons_inv with ⟨y,rfl,hr⟩| ⟨l',rfl,hr⟩
    ·exact ihx y hr l ⟨_,hl⟩
    ·exact ihl l' hr
theorem One.wf{r:α→α→Prop}(h:WellFounded r):WellFounded (One r):=⟨fun l=>One.acc l fun x _=>h.apply x⟩
theorem One.set{r:α→α→Prop}{l:List α}{x y:α}(h:l[i]?=some x) (hr:r y x):One r (l.set i y) l:=by
 obtain⟨hi,rfl⟩:=List.getElem?_eq_some_iff.1 h
 have e1:l=l.take i++l[i]::l.drop (i+1):=by
  rw[List.getElem_cons_drop,List.take_append_drop]
 have e2:l.set i y=l.take i++y::l.drop (i+1):=by
  rw[List.set_eq_take_append_cons_drop,if_pos hi]
 rw[e2]
 conv=>rhs;rw[e1]
 exact .mk _ _ _ _ hr
end
open Go.ConcR (KK wgBlock WgAt stA smA rd wr)
abbrev said(m:Mark):Event:=Go.ConcR.mk m
def Pure(P:Program)(main:Bool)(Live:World→Prop)(Stop:Goroutine→Prop):Nat→Goroutine→Prop
 |0,g=>Stop g
 |n+1,g=>g.status= .running∧∃g',(∀w,Live w→stepG P main g w= .go g' w #[])∧Pure P main Live Stop n g'
structure dK(ι:Type) where
 P:Program
 ty:TypeId
 Wg:Nat
 Ch:Nat
 max:Nat
 z:Value
 os:Os
 out:Array (Nat×ByteArray)
 To:ι→Value→List (Nat×Obj)→Prop
section
variable {ι:Type} (E:dK ι)
def dK.live(w:World):Prop:=∃st sm,WgAt E.ty E.Wg w st sm
def dK.pure(main:Bool)(Stop:Goroutine→Prop)(g:Goroutine):Prop:=∃n,Pure E.P main E.live Stop n g
def dK.D4(g:Goroutine):Prop:=g.status= .running∧mayWake E.P g=true∧∃g',(∀w,WgAt E.ty E.Wg w 0 0→stepG E.P false g w= .go g' (w.setCell (smA E.Wg) (.int .u32 1)) (semEvents (smA E.Wg)))∧∃q,QuitsD E.P q 1 g'
def dK.D3(g:Goroutine):Prop:=g.status= .running∧∃g',(∀w,WgAt E.ty E.Wg w 1 0→stepG E.P false g w= .go g' (w.setCell (stA E.Wg) (.int .u64 0)) #[wr (stA E.Wg)])∧E.pure false E.D4 g'
def dK.D2(g:Goroutine):Prop:=g.status= .running∧∃g',(∀w,WgAt E.ty E.Wg w 1 0→stepG E.P false g w= .go g' w #[rd (stA E.Wg)])∧E.pure false E.D3 g'
def dK.D1(g:Goroutine):Prop:=g.status= .running∧∀v wt:Nat,wt≤1→v <E.max→
 ∃g',(∀w,WgAt E.ty E.Wg w (((v+1:Nat):Int)*KK+(wt:Int)) 0→stepG E.P false g w= .go g' (w.setCell (stA E.Wg) (.int .u64 ((v:Int)*KK+(wt:Int)))) #[rd (stA E.Wg),wr (stA E.Wg)])∧
  ((v=0∧wt=1)→E.pure false E.D2 g')∧(¬(v=0∧wt=1)→∃q,QuitsD E.P q 1 g')
def dK.K1(g:Goroutine):Prop:=g.status= .running∧∃g',(∀w,stepG E.P false g w= .go g' w #[said .disable])∧E.pure false E.D1 g'
def dK.R0(g:Goroutine):Prop:=g.status= .running∧∃g',(∀w,stepG E.P false g w= .go g' w #[said (.releaseMerge (stA E.Wg))])∧E.pure false E.K1 g'
def dK.G2(g:Goroutine)(_:St):Prop:=E.pure false E.R0 g
def dK.HX(o:ι)(g:Goroutine)(s:St):Prop:=g.status= .running∧∃p5 v zs X Y,s.rw.Perm (X++Y)∧E.To o v X∧
 (∀w,aP s w→stepG E.P false g w= .comm p5 #[scase E.Ch v zs] true .send w #[])∧∃tr gP,gP.le ⟨s.ro,Y⟩∧n8 E.P false E.G2 tr (Conc.served p5 undef) gP
def dK.HW(g:Goroutine)(_:St):Prop:=g.status= .running∧mayWake E.P g=true∧
 ∃g',(∀w s r tm,w.heap[E.Ch]?=some (.chan 0 #[] false s r tm)→stepG E.P false g w= .go g' {w with heap:=w.heap.setIfInBounds E.Ch (.chan 0 #[] true s r tm)} #[⟨.obj E.Ch,false,true⟩,⟨.obj E.Ch,true,true⟩])∧∃q,QuitsD E.P q 0 g'
def dK.Aq(s:St)(g:Goroutine):Prop:=g.status= .running∧∃g',(∀w,stepG E.P false g w= .go g' w #[said (.acquire (stA E.Wg))])∧∃tr gP,gP.le s∧n8 E.P false E.HW tr g' gP
def dK.Ke(s:St)(g:Goroutine):Prop:=g.status= .running∧∃g',(∀w,stepG E.P false g w= .go g' w #[said .enable])∧E.pure false (E.Aq s) g'
def dK.W4(s:St)(g:Goroutine):Prop:=g.status= .running∧∃g',(∀w,WgAt E.ty E.Wg w 0 0→stepG E.P false g w= .go g' w #[rd (stA E.Wg)])∧E.pure false (E.Ke s) g'
def dK.W3(s:St)(g:Goroutine):Prop:=g.status= .running∧g.offers=none∧(∀w st,WgAt E.ty E.Wg w st 0→stepG E.P false g w= .go {g with status:= .blocked} w #[])∧
 ∃g',(∀w,WgAt E.ty E.Wg w 0 1→stepG E.P false g w= .go g' (w.setCell (smA E.Wg) (.int .u32 0)) (semEvents (smA E.Wg)))∧E.pure false (E.W4 s) g'
def dK.Wr(s:St)(g:Goroutine):Prop:=g.status= .running∧∃g',(∀w,stepG E.P false g w= .go g' w #[said (.write (smA E.Wg))])∧E.pure false (E.W3 s) g'
def dK.W2(agh:Goroutine→Prop)(s:St)(vs:Nat)(g:Goroutine):Prop:=g.status= .running∧
 (∃g',(∀w,WgAt E.ty E.Wg w ((vs:Int)*KK) 0→stepG E.P false g w= .go g' (w.setCell (stA E.Wg) (.int .u64 ((vs:Int)*KK+1))) #[rd (stA E.Wg),wr (stA E.Wg)])∧E.pure false (E.Wr s) g')∧
 ∀v:Nat,v <vs→∃g',(∀w,WgAt E.ty E.Wg w ((v:Int)*KK) 0→stepG E.P false g w= .go g' w #[rd (stA E.Wg)])∧agh g'
def dK.W1(E:dK ι)(s:St):Nat→Goroutine→Prop
 |0,g=>g.status= .running∧∃g',(∀w,WgAt E.ty E.Wg w 0 0→stepG E.P false g w= .go g' w #[rd (stA E.Wg)])∧E.pure false (E.Ke s) g'
 |b+1,g=>g.status= .running∧(∃g',(∀w,WgAt E.ty E.Wg w 0 0→stepG E.P false g w= .go g' w #[rd (stA E.Wg)])∧E.pure false (E.Ke s) g')∧
  ∀v,1≤v→v≤b+1→∃g',(∀w,WgAt E.ty E.Wg w ((v:Int)*KK) 0→stepG E.P false g w= .go g' w #[rd (stA E.Wg)])∧E.pure false (E.W2 (E.pure false (E.W1 s b)) s v) g'
def dK.Kd(s:St)(g:Goroutine):Prop:=g.status= .running∧∃g',(∀w,stepG E.P false g w= .go g' w #[said .disable])∧E.pure false (E.W1 s E.max) g'
def dK.closes(s:St)(g:Goroutine):Prop:=E.pure false (E.Kd s) g
inductive WK where
 |r0|k1|d1|d2|d3|d4
inductive ak(ι:Type) where
 |leave (q d:Nat) (cur:Bool)
 |work (o:ι) (tr:Tree)
 |gp (o:ι)
 |back (tr:Tree)
 |st (k:WK) (n:Nat)
 |closer
def WK.stop:WK→Goroutine→Prop
 | .r0=>E.R0| .k1=>E.K1| .d1=>E.D1| .d2=>E.D2| .d3=>E.D3| .d4=>E.D4
def WK.deaf:WK→Nat
 | .r0| .k1=>0
 |_=>1
def WK.said:WK→Bool
 | .r0=>false
 |_=>true
def WK.JQ:WK→Nat
 | .r0=>6| .k1=>5| .d1=>4| .d2=>3| .d3=>2| .d4=>1
inductive CK where
 |kd|w1 (b:Nat)|w2 (b vs:Nat)|wr|w3|blk|w4|ke|aq|run (tr:Tree)
def CK.deaf:CK→Nat
 | .kd| .aq| .run _=>0
 |_=>1
def eg(t:Trace)(i:Nat):Prop:=∀p,t.g? p=some i→t.counts p→∃j,t.g? j=some 0∧HappensBefore t p j
def nv(t:Trace)(i:Nat)(s:St)(g:Goroutine):ak ι→Prop
 | .leave q d cur=>s=⟨fun _=>none,[]⟩∧QuitsD E.P q d g∧Deaf t i=d∧(cur=true→∃r,ConcN.RelBy (stA E.Wg) t i r)∧(cur=false→eg t i)
 | .work o tr=>Deaf t i=0∧n8 E.P false (E.HX o) tr g s
 | .gp o=>Deaf t i=0∧∃uC p5 v zs X Y,g=parked p5 #[scase E.Ch v zs] .send∧s.rw.Perm (X++Y)∧E.To o v X∧uC=p5∧∃tr gP,gP.le ⟨s.ro,Y⟩∧n8 E.P false E.G2 tr (Conc.served p5 undef) gP
 | .back tr=>Deaf t i=0∧n8 E.P false E.G2 tr g s
 | .st k n=>s=⟨fun _=>none,[]⟩∧Deaf t i=k.deaf∧Pure E.P false E.live (k.stop E) n g∧(k.said=true→∃r,ConcN.RelBy (stA E.Wg) t i r)
 | .closer=>True
def CK.at(s:St)(g:Goroutine)(n:Nat):CK→Prop
 | .kd=>Pure E.P false E.live (E.Kd s) n g
 | .w1 b=>Pure E.P false E.live (E.W1 s b) n g
 | .w2 b vs=>Pure E.P false E.live (E.W2 (E.pure false (E.W1 s b)) s vs) n g
 | .wr=>Pure E.P false E.live (E.Wr s) n g
 | .w3=>∃m,n=m+1∧Pure E.P false E.live (E.W3 s) m g
 | .blk=>n=0∧∃uC,E.W3 s uC∧g={uC with status:= .blocked}
 | .w4=>Pure E.P false E.live (E.W4 s) n g
 | .ke=>Pure E.P false E.live (E.Ke s) n g
 | .aq=>Pure E.P false E.live (E.Aq s) n g
 | .run tr=>n=0∧n8 E.P false E.HW tr g s
end
section
variable {ι:Type} {E:dK ι} {t u:Trace} {i j:Nat} {s:St} {g:Goroutine}
theorem Pure.running{Live:World→Prop}(hS:∀g,Stop g→g.status= .running):∀ {n:Nat} {g:Goroutine},Pure P main Live Stop n g→g.status= .running
 |0,_,h=>hS _ h
 |_+1,_,h=>h.1
theorem dK.pure.running(hS:∀g,Stop g→g.status= .running)(h:E.pure main Stop g):g.status= .running:=Pure.running hS h.choose_spec
theorem WK.running:∀(k:WK) (g:Goroutine),k.stop E g→g.status= .running
 | .r0,_,h=>h.1
 | .k1,_,h=>h.1
 | .d1,_,h=>h.1
 | .d2,_,h=>h.1
 | .d3,_,h=>h.1
 | .d4,_,h=>h.1
theorem n8.running{Stop:Goroutine→St→Prop}(hS:∀g s,Stop g s→g.status= .running):∀ {tr:Tree} {g:Goroutine} {s:St},n8 P main Stop tr g s→g.status= .running
 | .leaf,_,_,h=>hS _ _ h
 | .node _,_,_,h=>h.1
theorem eg.other(h:eg t j)(hu:∀op∈u,op.g≠j):eg (t++u) j:=by
 intro p hp hc
 obtain⟨op,ho,hg⟩:=Option.map_eq_some_iff.1 hp
 rcases getElem?_append_cases ho with ⟨cz,_⟩| ⟨_,hm⟩
 ·obtain⟨q,h1,h2⟩:=h p (by rw[←g?_old (u:=u) cz];exact hp) ((counts_old cz).1 hc)
  have hq:q <t.size:=by
   obtain⟨o,ho,_⟩:=Option.map_eq_some_iff.1 h1
   exact lt_size_of_getElem? ho
  exact⟨q,by rw[g?_old hq];exact h1,hb_app u h2⟩
 ·exact absurd hg (hu op hm)
theorem RelBy.other{a:Addr}{r:Nat}(h:ConcN.RelBy a t j r)(hu:∀op∈u,op.g≠j):ConcN.RelBy a (t++u) j r:=by
 refine h.app fun p hp hg=>?_
 obtain⟨op,ho,hgo⟩:=Option.map_eq_some_iff.1 hg
 rcases getElem?_append_cases ho with ⟨cz,_⟩| ⟨_,hm⟩
 ·omega
 ·exact absurd hgo (hu op hm)
theorem gG(t:Trace){g:Nat}(u:Trace)(hu:∀op∈u,op.g≠g):Deaf (t++u) g=Deaf t g:=by
 obtain⟨l⟩:=u
 rw[Deaf_append]
 induction l generalizing t with
 |nil=>rfl
 |cons y l ih=>
  have hy:y.g≠g:=hu y (by simp)
  have e1:deafStep g (Deaf t g) y=Deaf t g:=by
   unfold deafStep
   split<;>simp[hy]
  rw[List.foldl_cons,e1]
  exact ih t (fun op ax=>hu op (by simp at ax ⊢;exact .inr ax))
theorem nv.other{r:ak ι}(h:nv E t j s g r)(hu:∀op∈u,op.g≠j):nv E (t++u) j s g r:=by
 have hd:=gG t u hu
 cases r with
 |leave q d cur=>exact⟨h.1,h.2.1,by rw[hd];exact h.2.2.1,fun hc=>let ⟨r,hr⟩:=h.2.2.2.1 hc;⟨r,RelBy.other hr hu⟩,fun hc=>(h.2.2.2.2 hc).other hu⟩
 |work o tr=>exact⟨by rw[hd];exact h.1,h.2⟩
 |gp o=>exact⟨by rw[hd];exact h.1,h.2⟩
 |back tr=>exact⟨by rw[hd];exact h.1,h.2⟩
 |st k n=>exact⟨h.1,by rw[hd];exact h.2.1,h.2.2.1,fun hc=>let ⟨r,hr⟩:=h.2.2.2 hc;⟨r,RelBy.other hr hu⟩⟩
 |closer=>trivial
theorem nv.running{r:ak ι}(h:nv E t j s g r)(h1:∀o,r≠ .gp o)(h2:r≠ .closer):g.status= .running∨g.status= .finished:=by
 cases r with
 |leave q d cur=>exact h.2.1.status
 |work o tr=>exact .inl (n8.running (fun _ _ x=>x.1) h.2)
 |gp o=>exact absurd rfl (h1 o)
 |back tr=>exact .inl (n8.running (fun _ _ x=>dK.pure.running (fun _ y=>y.1) x) h.2)
 |st k n=>exact .inl (Pure.running (WK.running k) h.2.2.1)
 |closer=>exact absurd rfl h2
theorem nv.woken{r:ak ι}(h:nv E t j s g r)(h2:r≠ .closer){a a':Goroutine}(ho:(∃o,r= .gp o)→∃sn rc tm,w'.heap[E.Ch]?=some (.chan 0 #[] false sn rc tm)):
 woken E.P a a' w' g=g:=by
 by_cases hb:∃o,r= .gp o
 ·obtain⟨sn,rc,tm,hc⟩:=ho hb
  obtain⟨o,rfl⟩:=hb
  obtain⟨_,uC,p5,v,zs,X,Y,rfl,_⟩:=h
  exact woken_send_open a a' hc
 ·have:=h.running (fun o e=>hb ⟨o,e⟩) h2
  unfold Go.Conc.woken
  split
  ·exact again_running _ this
  ·rfl
def Tp(w w':World):Prop:=w'.os=w.os∧w'.output=w.output
structure Base(E:dK ι)(L:Nat→Option Obj)(K:Nat→St)(gs:Array Goroutine)(w:World)(t:Trace)(D:List (ak ι)):Prop where
 fit:Fit L K w t
 size:gs.size=D.length+1
 ok:∀i r,D[i]?=some r→∃g,gs[i+1]?=some g∧nv E t (i+1) (K (i+1)) g r
 far:∀i,gs.size≤i→∀b,¬(K i).knows b
 ops:∀op∈t,op.g <gs.size
 same:w.os=E.os∧w.output=E.out
theorem fQ{k:Nat}{x:Goroutine}(hki:k≠i)(hk:gs[k]?=some x):((gs.map (woken P g g' w')).setIfInBounds i g')[k]?=some (woken P g g' w' x):=by
 rw[Array.getElem?_setIfInBounds_ne (Ne.symm hki)];simp[hk]
theorem Base.step{L:Nat→Option Obj}{K:Nat→St}{w:World}{D:List (ak ι)}(h:Base E L K gs w t D){r':ak ι}(hi:i <D.length) 
 (hu:∀op∈u,op.g=i+1)(Oa:Tp w w')(oP:Fit L (fD K (i+1) s') w' (t++u))(hr:nv E (t++u) (i+1) s' g' r')
 (ho:∀(k:Nat) (o:ι),k≠i→D[k]?=some (.gp o)→∃sn rc tm,w'.heap[E.Ch]?=some (.chan 0 #[] false sn rc tm)):
 Base E L (fD K (i+1) s') ((gs.map (woken E.P g g' w')).setIfInBounds (i+1) g') w' (t++u) (D.set i r'):=by
 refine⟨oP,by simp[h.size],fun k r hk=>?_,fun k hk=>?_,fun op ax=>?_,⟨Oa.1.trans h.same.1,Oa.2.trans h.same.2⟩⟩
 ·by_cases e:k=i
  ·subst e
   have lh:r=r':=by simpa [List.getElem?_set,hi] using hk.symm
   subst lh
   exact⟨g',by simp[h.size,hi],by rw[aB];exact hr⟩
  ·rw[List.getElem?_set_ne (Ne.symm e)] at hk
   obtain⟨x,hx,eZ⟩:=h.ok k r hk
   have dP:k+1≠i+1:=by omega
   rw[aD K s' dP]
   have XF:=eZ.other (u:=u) fun op ax=>by rw[hu op ax];omega
   by_cases hc:r= .closer
   ·subst hc;exact⟨_,fQ dP hx,trivial⟩
   ·refine⟨x,?_,XF⟩
    rw[fQ dP hx,eZ.woken hc fun⟨o,e'⟩=>ho k o e (e'▸hk)]
 ·rw[Array.size_setIfInBounds,Array.size_map] at hk
  rw[aD K s' (by have:=h.size;omega)]
  exact h.far k hk
 ·rw[Array.size_setIfInBounds,Array.size_map]
  rcases Array.mem_append.1 ax with h'|h'
  ·exact h.ops op h'
  ·rw[hu op h',h.size];omega
end
def ak.cnt:ak ι→Nat
 | .work .. | .gp _| .back _| .st .r0 _| .st .k1 _| .st .d1 _=>1
 |_=>0
def ak.c4:ak ι→Nat
 | .st .d2 _=>1
 |_=>0
def ak.c3:ak ι→Nat
 | .st .d3 _=>1
 |_=>0
def ak.c2:ak ι→Nat
 | .st .d4 _=>1
 |_=>0
def ak.Us:ak ι→Option ι
 | .work o _| .gp o=>some o
 |_=>none
def ak.early:ak ι→Prop
 | .leave _ _ c=>c=false
 | .work .. | .gp _=>True
 |_=>False
def ak.cur:ak ι→Bool
 | .leave _ _ c=>c
 |_=>false
def ak.left:ak ι→Bool
 | .leave .. =>true
 |_=>false
def e8(f:ak ι→Nat)(D:List (ak ι)):Nat:=(D.map f).sum
theorem iZ(f:ak ι→Nat){x y:ak ι}:∀ {D:List (ak ι)} {i:Nat},D[i]?=some x→e8 f (D.set i y)+f x=e8 f D+f y
 | [],i,h=>by simp at h
 |a::D,0,h=>by simp only[List.getElem?_cons_zero,Option.some.injEq] at h;subst h;simp[e8];omega
 |a::D,i+1,h=>by
  have:=iZ f (y:=y) (D:=D) (i:=i) (by simpa using h)
  simp only[e8,List.set_cons_succ,List.map_cons,List.sum_cons] at this ⊢;omega
def CK.early:CK→Prop
 | .kd| .w1 _| .w2 .. | .wr=>True
 |_=>False
def CK.waits:CK→Prop
 | .wr| .w3| .blk=>True
 |_=>False
def CK.over:CK→Prop
 | .w4| .ke| .aq| .run _=>True
 |_=>False
inductive Md(mx:Nat):(n n4 n3 n2:Nat)→Option CK→Int→Int→Prop
 |start {n:Nat}:Md mx n 0 0 0 none ((n:Int)*KK) 0
 |kd {n:Nat}:Md mx n 0 0 0 (some .kd) ((n:Int)*KK) 0
 |w1 {n b:Nat}:n≤b→Md mx n 0 0 0 (some (.w1 b)) ((n:Int)*KK) 0
 |w2 {n b v:Nat}:n≤v→1≤v→v≤b+1→Md mx n 0 0 0 (some (.w2 b v)) ((n:Int)*KK) 0
 |reg {n:Nat} {c:CK}:c.waits→1≤n→Md mx n 0 0 0 (some c) ((n:Int)*KK+1) 0
 |l4 {c:CK}:c.waits→Md mx 0 1 0 0 (some c) 1 0
 |l3 {c:CK}:c.waits→Md mx 0 0 1 0 (some c) 1 0
 |l2 {c:CK}:c.waits→Md mx 0 0 0 1 (some c) 0 0
 |sema {c:CK}:c.waits→c≠ .blk→Md mx 0 0 0 0 (some c) 0 1
 |over {c:CK}:c.over→Md mx 0 0 0 0 (some c) 0 0
section
variable {ι:Type} (E:dK ι)
def AcqAll(t:Trace)(D:List (ak ι))(ic:Nat):Prop:=
 ∃q,t.act? q=some (.mark (.acquire (stA E.Wg)))∧t.g? q=some (ic+1)∧t.heard q∧∀(i:Nat) (r:ak ι),D[i]?=some r→r.cur=true→∃p,ConcN.RelBy (stA E.Wg) t (i+1) p∧p <q
def dK.At(x:Touch):Prop:=blk x.loc=some E.Wg∨blk x.loc=some E.Ch
abbrev yQ:=Option (Nat×CK×Nat)
def agq(K:Nat→St)(gs:Array Goroutine)(t:Trace)(D:List (ak ι)):yQ→Prop
 |none=>∀r∈D,r.early
 |some (ic,c,n)=>D[ic]?=some .closer∧(∀k,D[k]?=some .closer→k=ic)∧Deaf t (ic+1)=c.deaf∧(∃gc,gs[ic+1]?=some gc∧c.at E (K (ic+1)) gc n)∧((∃tr,c= .run tr)→AcqAll E t D ic)
def aSV(t:Trace):yQ→Prop
 |none=>∀p x,touchAt t p=some x→blk x.loc=some E.Wg→x.kind= .said→Knows t 0 p
 |some (ic,c,_)=>c.early→∀p x,touchAt t p=some x→blk x.loc=some E.Wg→x.kind= .said→Knows t (ic+1) p
structure Sy(L:Nat→Option Obj)(K:Nat→St)(gs:Array Goroutine)(w:World)(t:Trace)(D:List (ak ι))(pend:Nat)(cl:yQ):Prop where
 kW:∀i,¬(K i).knows E.Wg
 kC:∀i,¬(K i).knows E.Ch
 lW:L E.Wg=none
 lC:L E.Ch=none
 ne:E.Wg≠E.Ch
 norel:∀a,NoRelease a t
 plain:∀i,(i=0∨∃k r,i=k+1∧D[k]?=some r∧r.left=false)→∀p x,touchAt t p=some x→E.At x→x.kind= .plain→Knows t i p
 said:aSV E t cl
 cells:∃st sm,WgAt E.ty E.Wg w st sm∧Md E.max (e8 ak.cnt D+pend) (e8 ak.c4 D) (e8 ak.c3 D) (e8 ak.c2 D) (cl.map (·.2.1)) st sm
 Bm:e8 ak.cnt D+pend≤E.max
 chan:∃sn rc tm,w.heap[E.Ch]?=some (.chan 0 #[] false sn rc tm)
 bal:∀sn rc tm,w.heap[E.Ch]?=some (.chan 0 #[] false sn rc tm)→sn=rc
 Dw:agq E K gs t D cl
end
inductive yE:yQ→yQ→Prop
 |same (c:yQ):yE c c
 |up (ic:Nat):yE (some (ic,.blk,0)) (some (ic,.w3,1))
section
variable {ι:Type} {E:dK ι}
theorem CK.tV:∀ {c:CK},c.at E s g n→c≠ .blk→g.status= .running
 | .kd,h,_=>Pure.running (fun _ x=>x.1) h
 | .w1 b,h,_=>Pure.running (fun _ x=>by cases b<;>exact x.1) h
 | .w2 _ _,h,_=>Pure.running (fun _ x=>x.1) h
 | .wr,h,_=>Pure.running (fun _ x=>x.1) h
 | .w3,⟨_,_,h⟩,_=>Pure.running (fun _ x=>x.1) h
 | .blk,_,h=>absurd rfl h
 | .w4,h,_=>Pure.running (fun _ x=>x.1) h
 | .ke,h,_=>Pure.running (fun _ x=>x.1) h
 | .aq,h,_=>Pure.running (fun _ x=>x.1) h
 | .run _,⟨_,h⟩,_=>n8.running (fun _ _ x=>x.1) h
theorem CK.tries{c:CK}{gc:Goroutine}(h:c.at E s gc n)(a a':Goroutine)(w':World):
 ∃c' n',yE (some (ic,c,n)) (some (ic,c',n'))∧c'.at E s (woken E.P a a' w' gc) n'∧(mayWake E.P a=true→(a'.status= .running∨a'.status= .finished)→c'≠ .blk)∧c'.deaf=c.deaf:=by
 by_cases hb:c= .blk
 ·subst hb
  obtain⟨rfl,uC,hg,rfl⟩:=h
  by_cases hw:(mayWake E.P a&&a'.status != .blocked&&a'.status != .waiting)=true
  ·refine⟨.w3,1,.up ic,⟨0,rfl,?_⟩,fun _ _=>by simp,rfl⟩
   have:woken E.P a a' w' {uC with status:= .blocked}=uC:=by
    have h1:=hg.1;have h2:=hg.2.1
    obtain⟨f,cs,stt,dy,of⟩:=uC
    simp only at h1 h2
    subst h1 h2
    simp[Go.Conc.woken,hw,Goroutine.again]
   rw[this];exact hg
  ·refine⟨.blk,0,.same _,⟨rfl,uC,hg,by simp[Go.Conc.woken,hw]⟩,fun h1 h2=>absurd ?_ hw,rfl⟩
   rcases h2 with h2|h2<;>simp[h1,h2]
 ·refine⟨c,n,.same _,?_,fun _ _=>hb,rfl⟩
  have:woken E.P a a' w' gc=gc:=by
   unfold Go.Conc.woken
   split
   ·exact again_running _ (.inl (CK.tV h hb))
   ·rfl
  rw[this];exact h
end
section
variable {ι:Type} {E:dK ι} {L:Nat→Option Obj} {K:Nat→St} {gs:Array Goroutine} {w w':World} {t u:Trace} {D:List (ak ι)} {pend:Nat} {cl:yQ}
theorem AcqAll.step{r r':ak ι}(h:AcqAll E t D ic)(hi:D[i]?=some r) (hu:∀op∈u,op.g=i+1) (FY:r'.cur=true→r.cur=true)
 (gN:r'.cur=true→∀p,ConcN.RelBy (stA E.Wg) t (i+1) p→ConcN.RelBy (stA E.Wg) (t++u) (i+1) p):AcqAll E (t++u) (D.set i r') ic:=by
 obtain⟨q,h1,h2,h3,h4⟩:=h
 have hq:=lt_of_act? h1
 refine⟨q,by rw[act?_old hq];exact h1,by rw[g?_old hq];exact h2,(heard_old hq).2 h3,fun k x hk hc=>?_⟩
 by_cases e:k=i
 ·subst e
  have cz:=(List.getElem?_eq_some_iff.1 hi).1
  have:r'=x:=by simpa [List.getElem?_set,cz] using hk
  subst this
  obtain⟨p,hp,Vb⟩:=h4 k r hi (FY hc)
  exact⟨p,gN hc p hp,Vb⟩
 ·rw[List.getElem?_set_ne (Ne.symm e)] at hk
  obtain⟨p,hp,Vb⟩:=h4 k x hk hc
  exact⟨p,RelBy.other hp (fun op ax=>by rw[hu op ax];omega),Vb⟩
theorem Qj(kB:∀op∈u,∀x,op.act.touch?=some x→E.At x→x.kind= .atomic){x:Touch}(hx:touchAt (t++u) p=some x)(hb:E.At x)(hk:x.kind≠ .atomic):
 touchAt t p=some x:=by
 rcases bw hx with ⟨_,h'⟩| ⟨_,op,hm,_,xy⟩
 ·exact h'
 ·exact absurd (kB op hm x xy hb) hk
theorem Sy.step(h:Sy E L K gs w t D pend cl)(uz:gs.size=D.length+1){r r':ak ι}(hi:D[i]?=some r) (Cq:r≠ .closer) (R7:r'≠ .closer)
 (hu:∀op∈u,op.g=i+1) (bV:¬s'.knows E.Wg) (oB:¬s'.knows E.Ch) (uM:w'.heap[E.Ch]?=w.heap[E.Ch]?)
 (kB:∀op∈u,∀x,op.act.touch?=some x→E.At x→x.kind= .atomic) (gT:∀op∈u,∀a,op.act≠ .mark (.release a))
 (xz:r'.left=false→r.left=false) (yp:r.early→r'.early) (FY:(∃ic tr n,cl=some (ic,.run tr,n))→r'.cur=true→r.cur=true)
 (gN:r.cur=true→∀p,ConcN.RelBy (stA E.Wg) t (i+1) p→ConcN.RelBy (stA E.Wg) (t++u) (i+1) p)
 (Oo:e8 ak.cnt (D.set i r')≤e8 ak.cnt D)
 (m9:∀cl',yE cl cl'→(mayWake E.P g=true→(g'.status= .running∨g'.status= .finished)→∀ic n,cl'≠some (ic,.blk,n))→
  ∃st sm,WgAt E.ty E.Wg w' st sm∧Md E.max (e8 ak.cnt (D.set i r')+pend) (e8 ak.c4 (D.set i r')) (e8 ak.c3 (D.set i r')) (e8 ak.c2 (D.set i r')) (cl'.map (·.2.1)) st sm):
 ∃cl',yE cl cl'∧Sy E L (fD K (i+1) s') ((gs.map (woken E.P g g' w')).setIfInBounds (i+1) g') w' (t++u) (D.set i r') pend cl':=by
 have cz:=(List.getElem?_eq_some_iff.1 hi).1
 have oA:∀ {k x},(D.set i r')[k]?=some x→(k=i∧x=r')∨(k≠i∧D[k]?=some x):=fun {k x} hk=>by
  by_cases e:k=i
  ·subst e
   exact .inl ⟨rfl,by simpa [List.getElem?_set,cz] using hk.symm⟩
  ·rw[List.getElem?_set_ne (Ne.symm e)] at hk;exact .inr ⟨e,hk⟩
 have Ha:∀b,¬s'.knows b→(∀j,¬(K j).knows b)→∀j,¬(fD K (i+1) s' j).knows b:=fun b h1 h2 j=>by
  by_cases e:j=i+1
  ·subst e;rw[aB];exact h1
  ·rw[aD _ _ e];exact h2 j
 have yq:∀ic,ic≠i→Deaf (t++u) (ic+1)=Deaf t (ic+1):=fun ic dP=>gG t u fun op ax=>by rw[hu op ax];omega
 obtain⟨cl',Df,aOh,iF⟩:∃cl',yE cl cl'∧(mayWake E.P g=true→(g'.status= .running∨g'.status= .finished)→∀ic n,cl'≠some (ic,.blk,n))∧
  agq E (fD K (i+1) s') ((gs.map (woken E.P g g' w')).setIfInBounds (i+1) g') (t++u) (D.set i r') cl':=by
  have hc:=h.Dw
  match cl,hc,FY with
  |none,hc,_=>
   refine⟨none,.same _,fun _ _ _ _=>by simp,fun x hx=>?_⟩
   obtain⟨k,hk⟩:=List.getElem?_of_mem hx
   rcases oA hk with ⟨_,rfl⟩| ⟨_,jh⟩
   ·exact yp (hc r (List.mem_of_getElem? hi))
   ·exact hc x (List.mem_of_getElem? jh)
  |some (ic,c,n),⟨h1,h2,h3,⟨gc,hg,pf⟩,h5⟩,FY=>
   have dP:ic≠i:=fun e=>by subst e;rw[hi] at h1;exact Cq (Option.some.inj h1)
   obtain⟨c',n',hw,ar8,hm,hdc⟩:=CK.tries (ic:=ic) pf g g' w'
   refine⟨some (ic,c',n'),hw,fun a b ic' n'' e=>hm a b (by cases e;rfl),by rw[List.getElem?_set_ne (Ne.symm dP)];exact h1,fun k hk=>?_,by rw[yq ic dP,hdc];exact h3,⟨_,fQ (by omega) hg,by rw[aD _ _ (by omega)];exact ar8⟩,fun⟨tr,htr⟩=>?_⟩
   ·rcases oA hk with ⟨_,e⟩| ⟨_,jh⟩
    ·exact absurd e.symm R7
    ·exact h2 k jh
   ·subst htr
    cases hw with
    |same=>
     have P8:=FY ⟨_,_,_,rfl⟩
     exact(h5 ⟨tr,rfl⟩).step hi hu P8 fun hc p hp=>gN (P8 hc) p hp
 refine⟨cl',Df,⟨Ha _ bV h.kW,Ha _ oB h.kC,h.lW,h.lC,h.ne,fun a=>(h.norel a).app fun op ax=>gT op ax a,fun j hj p x hx hb hk=>?_,?_,m9 cl' Df aOh,Nat.le_trans (Nat.add_le_add_right Oo _) h.Bm,?_,fun sn rc tm hc=>h.bal sn rc tm (by rw[←uM];exact hc),iF⟩⟩
 ·refine(h.plain j ?_ p x (Qj kB hx hb (by rw[hk];simp)) hb hk).app u
  rcases hj with hj| ⟨k,y,rfl,jh,hl⟩
  ·exact .inl hj
  ·rcases oA jh with ⟨rfl,rfl⟩| ⟨_,aru⟩
   ·exact .inr ⟨_,r,rfl,hi,xz hl⟩
   ·exact .inr ⟨k,y,rfl,aru,hl⟩
 ·have hs:=h.said
  match cl,cl',Df,hs with
  |none,_,.same _,hs=>exact fun p x hx hb hk=>(hs p x (Qj kB hx (.inl hb) (by rw[hk];simp)) hb hk).app u
  |some (ic,c,n),_,.same _,hs=>exact fun he p x hx hb hk=>(hs he p x (Qj kB hx (.inl hb) (by rw[hk];simp)) hb hk).app u
  |_,_,.up ic,_=>exact fun he=>he.elim
 ·obtain⟨sn,rc,tm,hc⟩:=h.chan
  exact⟨sn,rc,tm,by rw[uM];exact hc⟩
end
def ak.mu:ak ι→Nat×Tree×Nat
 | .closer=>(10,.leaf,0)
 | .work _ tr=>(9,tr,0)
 | .gp _=>(8,.leaf,0)
 | .back tr=>(7,tr,0)
 | .st k n=>(k.JQ,.leaf,n)
 | .leave q _ _=>(0,.leaf,q)
abbrev DC:Nat×Tree×Nat→Nat×Tree×Nat→Prop:=Prod.Lex (· < ·) (Prod.Lex Tree.Lt (· < ·))
theorem DC.wf:WellFounded DC:=(Prod.lex ⟨_,Nat.lt_wfRel.wf⟩ (Prod.lex ⟨_,Tree.wf⟩ ⟨_,Nat.lt_wfRel.wf⟩)).wf
def tW(a b:ak ι):Prop:=DC a.mu b.mu
theorem tW.wf:WellFounded (tW (ι:=ι)):=InvImage.wf ak.mu DC.wf
theorem fL{a b:Nat×Tree×Nat}(h:a.1 <b.1):DC a b:=by
 obtain⟨a1,a2⟩:=a;obtain⟨b1,b2⟩:=b
 exact Prod.Lex.left _ _ h
theorem Fg{a b:Tree}{x y:Nat}(h:Tree.Lt a b):DC (n,a,x) (n,b,y):=Prod.Lex.right _ (Prod.Lex.left _ _ h)
theorem DU{a:Tree}{x y:Nat}(h:x <y):DC (n,a,x) (n,a,y):=Prod.Lex.right _ (Prod.Lex.right _ h)
section
variable {ι:Type} {E:dK ι}
def ig(E:dK ι)(e:Event):Prop:=e=said .disable∨e=said .enable∨e=said (.releaseMerge (stA E.Wg))∨e=said (.acquire (stA E.Wg))∨∃a wr,e=⟨.cell a,wr,true⟩∧a.block=E.Wg
theorem ig.ops{es:Array Event}(h:∀e∈es,ig E e)(i:Nat)(fn:FuncId)(pos:String):∀op∈MemOp.ofEvents i fn pos es,
 op.g=i∧(∀a,op.act≠ .mark (.release a))∧∀x,op.act.touch?=some x→blk x.loc=some E.Wg∧x.kind= .atomic:=by
 intro op ax
 rw[ofEvents_eq] at ax
 obtain⟨e,he,rfl⟩:=Array.mem_map.1 ax
 rcases h e he with rfl|rfl|rfl|rfl| ⟨a,wr,rfl,ha⟩
 ·exact⟨rfl,fun a=>by simp[said,Go.ConcR.mk,MemAct.ofEvent],fun x hx=>by cases hx⟩
 ·exact⟨rfl,fun a=>by simp[said,Go.ConcR.mk,MemAct.ofEvent],fun x hx=>by cases hx⟩
 ·exact⟨rfl,fun a=>by simp[said,Go.ConcR.mk,MemAct.ofEvent],fun x hx=>by cases hx⟩
 ·exact⟨rfl,fun a=>by simp[said,Go.ConcR.mk,MemAct.ofEvent],fun x hx=>by cases hx⟩
 ·refine⟨rfl,fun a=>by cases wr<;>simp[MemAct.ofEvent],fun x hx=>?_⟩
  cases wr<;>(simp only[MemAct.ofEvent,MemAct.touch?,Option.some.injEq] at hx;subst hx;exact⟨by simp[blk,ha],rfl⟩)
theorem IE{es:Array Event}(h:∀e∈es,Event.mute e=true):∀op∈MemOp.ofEvents i fn pos es,op.act.touch?=none:=by
 intro op ax
 rw[ofEvents_eq] at ax
 obtain⟨e,he,rfl⟩:=Array.mem_map.1 ax
 have:=h e he
 obtain⟨loc,wr,sy⟩:=e
 cases loc with
 |mark m=>cases m<;>first|rfl| (simp[Event.mute] at this)
 |_=>simp[Event.mute] at this
theorem NP{es:Array Event}(h:∀e∈es,Event.mute e=true)(a:Addr):∀op∈MemOp.ofEvents i fn pos es,op.act≠ .mark (.release a):=by
 intro op ax
 rw[ofEvents_eq] at ax
 obtain⟨e,he,rfl⟩:=Array.mem_map.1 ax
 have:=h e he
 obtain⟨loc,wr,sy⟩:=e
 cases loc with
 |mark m=>cases m<;>first| (simp[MemAct.ofEvent];done)| (simp[Event.mute] at this)
 |_=>simp[Event.mute] at this
variable {L:Nat→Option Obj} {K:Nat→St} {gs:Array Goroutine} {w w':World} {t:Trace} {D:List (ak ι)} {pend d0:Nat} {cl:yQ} {main:Goroutine} {sl:Option (Nat×Nat)}
structure Inv(E:dK ι)(L:Nat→Option Obj)(K:Nat→St)(gs:Array Goroutine)(w:World)(t:Trace)(D:List (ak ι))(pend:Nat)(cl:yQ)(main:Goroutine)(d0:Nat):Prop where
 base:Base E L K gs w t D
 sy:Sy E L K gs w t D pend cl
 main:gs[0]?=some main
 deaf:Deaf t 0=d0
def gx(E:dK ι)(main:Goroutine):Prop:=main.status= .running∨∃m z,main=parked m #[rcase E.Ch z] (.recv true)
theorem gx.woken{main:Goroutine}(h:gx E main)(a a':Goroutine){sn rc:Nat}{tm:Bool}(hc:w'.heap[E.Ch]?=some (.chan 0 #[] false sn rc tm)):woken E.P a a' w' main=main:=by
 rcases h with h| ⟨m,z,rfl⟩
 ·unfold Go.Conc.woken
  split
  ·exact again_running _ (.inl h)
  ·rfl
 ·exact woken_recv_open a a' hc
def j5(D:List (ak ι)):List ι:=D.filterMap ak.Us
theorem E4{r r':ak ι}(ho:r'.Us=r.Us):∀ {D:List (ak ι)} {i:Nat},D[i]?=some r→j5 (D.set i r')=j5 D
 | [],i,h=>by simp at h
 |a::D,0,h=>by simp only[List.getElem?_cons_zero,Option.some.injEq] at h;subst h;simp[j5,List.filterMap_cons,ho]
 |a::D,i+1,h=>by
  have:=E4 ho (D:=D) (i:=i) (by simpa using h)
  simp only[j5,List.set_cons_succ,List.filterMap_cons] at this ⊢
  rw[this]
def ql(E:dK ι)(L:Nat→Option Obj)(K:Nat→St)(D:List (ak ι))(pend:Nat)(cl:yQ)(main:Goroutine)(d0:Nat)(m:Machine)(sl:Option (Nat×Nat))(t:Trace)(i:Nat):Prop:=
 ∃K' kK w' u D' cl',runT E.P m i=(.next (crowd kK w' sl),u)∧Inv E L K' kK w' (t++u) D' pend cl' main d0∧K' 0=K 0∧j5 D'=j5 D∧One tW D' D∧(cl=none→cl'=none)∧(cl≠none→cl'≠none)∧(∀o,ak.gp o∈D'→ak.gp o∈D∨main.status= .running)
theorem Inv.go'(h:Inv E L K gs w t D pend cl main d0)(hm:gx E main){r r':ak ι}(hi:D[i]?=some r) (Cq:r≠ .closer) (R7:r'≠ .closer)
 (hg:gs[i+1]?=some g) (hu:∀op∈u,op.g=i+1)
 (bN:runT E.P (crowd gs w sl) (i+1)=(.next (crowd ((gs.map (woken E.P g g' w')).setIfInBounds (i+1) g') w' sl),u)) (Oa:Tp w w')
 (bV:¬s'.knows E.Wg) (oB:¬s'.knows E.Ch) (uM:w'.heap[E.Ch]?=w.heap[E.Ch]?)
 (oP:Fit L (fD K (i+1) s') w' (t++u)) (hr:nv E (t++u) (i+1) s' g' r')
 (kB:∀op∈u,∀x,op.act.touch?=some x→E.At x→x.kind= .atomic)
 (gT:∀op∈u,∀a,op.act≠ .mark (.release a))
 (xz:r'.left=false→r.left=false) (yp:r.early→r'.early) (FY:(∃ic tr n,cl=some (ic,.run tr,n))→r'.cur=true→r.cur=true)
 (gN:r.cur=true→∀p,ConcN.RelBy (stA E.Wg) t (i+1) p→ConcN.RelBy (stA E.Wg) (t++u) (i+1) p)
 (HJ:r'.cnt≤r.cnt) (ac9:r'.Us=r.Us) (P1:tW r' r)
 (m9:∀cl',yE cl cl'→(mayWake E.P g=true→(g'.status= .running∨g'.status= .finished)→∀ic n,cl'≠some (ic,.blk,n))→
  ∃st sm,WgAt E.ty E.Wg w' st sm∧Md E.max (e8 ak.cnt (D.set i r')+pend) (e8 ak.c4 (D.set i r')) (e8 ak.c3 (D.set i r')) (e8 ak.c2 (D.set i r')) (cl'.map (·.2.1)) st sm)
 (Xy:(∃o,r'= .gp o)→main.status= .running:=by rintro⟨o,e⟩;cases e):
 ql E L K D pend cl main d0 (crowd gs w sl) sl t (i+1):=by
 have cz:=(List.getElem?_eq_some_iff.1 hi).1
 obtain⟨sn,rc,tm,hc⟩:=h.sy.chan
 have sA:w'.heap[E.Ch]?=some (.chan 0 #[] false sn rc tm):=by rw[uM];exact hc
 have Vs:=h.base.step (g:=g) cz hu Oa oP hr fun _ _ _ _=>⟨sn,rc,tm,sA⟩
 have Oo:e8 ak.cnt (D.set i r')≤e8 ak.cnt D:=by have:=iZ ak.cnt (y:=r') hi;omega
 obtain⟨cl',Df,hsy⟩:=h.sy.step h.base.size hi Cq R7 hu bV oB uM kB gT xz yp FY gN Oo m9
 refine⟨_,_,w',_,_,cl',bN,⟨Vs,hsy,?_,?_⟩,aD _ _ (by omega),E4 ac9 hi,One.set hi P1,fun e=>?_,fun e=>?_,fun o ho=>?_⟩
 ·rw[fQ (by omega) h.main,hm.woken _ _ sA]
 ·rw[gG _ _ fun op ax=>by rw[hu op ax];omega];exact h.deaf
 ·subst e;cases Df;rfl
 ·cases Df with
  |same=>exact e
  |up ic=>simp
 ·rcases List.mem_or_eq_of_mem_set ho with h'|h'
  ·exact .inl h'
  ·exact .inr (Xy ⟨o,h'.symm⟩)
theorem Inv.go(h:Inv E L K gs w t D pend cl main d0)(hm:gx E main){r r':ak ι}{es:Array Event}(hi:D[i]?=some r) (Cq:r≠ .closer) (R7:r'≠ .closer)
 (hg:gs[i+1]?=some g) (hgo:stepG E.P false g w= .go g' w' es) (Oa:Tp w w')
 (bV:¬s'.knows E.Wg) (oB:¬s'.knows E.Ch) (uM:w'.heap[E.Ch]?=w.heap[E.Ch]?)
 (oP:Fit L (fD K (i+1) s') w' (t++MemOp.ofEvents (i+1) g.frame.fn g.frame.place es)) (hr:nv E (t++MemOp.ofEvents (i+1) g.frame.fn g.frame.place es) (i+1) s' g' r')
 (kB:∀op∈MemOp.ofEvents (i+1) g.frame.fn g.frame.place es,∀x,op.act.touch?=some x→E.At x→x.kind= .atomic)
 (gT:∀op∈MemOp.ofEvents (i+1) g.frame.fn g.frame.place es,∀a,op.act≠ .mark (.release a))
 (xz:r'.left=false→r.left=false) (yp:r.early→r'.early) (FY:(∃ic tr n,cl=some (ic,.run tr,n))→r'.cur=true→r.cur=true)
 (gN:r.cur=true→∀p,ConcN.RelBy (stA E.Wg) t (i+1) p→ConcN.RelBy (stA E.Wg) (t++MemOp.ofEvents (i+1) g.frame.fn g.frame.place es) (i+1) p)
 (HJ:r'.cnt≤r.cnt) (ac9:r'.Us=r.Us) (P1:tW r' r)
 (m9:∀cl',yE cl cl'→(mayWake E.P g=true→(g'.status= .running∨g'.status= .finished)→∀ic n,cl'≠some (ic,.blk,n))→
  ∃st sm,WgAt E.ty E.Wg w' st sm∧Md E.max (e8 ak.cnt (D.set i r')+pend) (e8 ak.c4 (D.set i r')) (e8 ak.c3 (D.set i r')) (e8 ak.c2 (D.set i r')) (cl'.map (·.2.1)) st sm)
 (Xy:(∃o,r'= .gp o)→main.status= .running:=by rintro⟨o,e⟩;cases e):
 ql E L K D pend cl main d0 (crowd gs w sl) sl t (i+1):=
 h.go' hm hi Cq R7 hg (fun op ax=>Go.ConcR.g_of_ofEvents op ax) (runT_crowd_go (P:=E.P) (sl:=sl) (i:=i+1) hg (by simpa using hgo)) Oa bV oB uM oP hr kB gT xz yp FY gN HJ ac9 P1 m9 Xy
end
end Go.L
