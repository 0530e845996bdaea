/- Part 3 of the proof: a program logic, contracts, a theorem on goroutines. -/
import Derived.Test.YtjpghiajlddegaaGreatDoorA2
import Derived.Conc.CrowdBase
import Derived.Conc.CrowdComm
import Derived.Conc.CrowdTrace
import Derived.Conc.Know
import Derived.Conc.QuitsD
import Derived.Conc.WrBase2
import Derived.Conc.WrWorld
set_option maxRecDepth 100000
set_option linter.all false
namespace Go.L
open Go Go.Conc
variable {i n b p ic:Nat} {ι:Type} {s s':St} {g g':Goroutine} {main:Bool} {T:Goroutine→St→Prop} {w':World} {Stop:Goroutine→Prop} {cs:List Frame} {fn:FuncId} {P:Program} {gs:Array Goroutine} {ds:List Deferred} {t u:Trace} {pos:String} {ca:Array Value} {fr:Frame} {Q:Post}
section rounds
variable {P:Program} {C:Class} {s:St}
def ez(bd:Nat):Deferred:={target:= .collected bd,args:= #[]}
def iu(fn:FuncId)(tmps:Array Value)(params:Array Tmp)(assign body:Code)(bd:Nat):Loop:={state:= .ready,pending:=none,fn,tmps,params,assign,body,defers:=bd}
def Zu(Q:Post)(a:Act)(l:Nat):Ending→St→Prop
 | .returned _,s=>Cd s l fun r up=>r.state≠ .busy∧(match r.pending with
  |none=>Q .normal a (up {r with state:= .exhausted})
  |some .ret=>Q .ret a (up {r with state:= .exhausted})
  |some (.exit id)=>Q (.exit id) a (up {r with state:= .exhausted})
  |_=>False)
 | .panicked ch,s=>Q (.panic ch) a s
 | .outgrown,_=>False
theorem y4(hC:∀main T,C main T→Closed P main T){x:Operand}{params:Array Tmp}{assign body:Code}{a:Act}{g:FuncId}{fi:Array Value}(hx:a.eval x= .func (.func g) fi ca)(ff:FF P g)
 (h:∀bd bl,¬s.knows bd→¬(⟨s.ro,(bd,.deferred (some []))::s.rw⟩:St).knows bl→
  Fn C P g (fi++ #[.func (.yield bl) #[] #[]]++ca) ⟨s.ro,(bl,.loop (iu fn a.tmps params assign body bd))::(bd,.deferred (some []))::s.rw⟩ (Zu Q {a with defers:=ez bd::a.defers} bl)):
 Wp C fn none (.rangeFunc x params assign body) Q a s:=by
 intro main T hT b k cs h1 h2 h3 h4
 have iG:=hC main T hT
 have hk:(b.kind==CallKind.early)=false:=by simpa using h2
 have vk:bN P (Instr.enterLoop fn a.tmps params assign body none) s (fun r s'=>∃bd bl,¬s.knows bd∧¬(⟨s.ro,(bd,.deferred (some []))::s.rw⟩:St).knows bl∧r=(bl,[ez bd])∧s'=⟨s.ro,(bl,.loop (iu fn a.tmps params assign body bd))::(bd,.deferred (some []))::s.rw⟩) (fun _ _=>False):=by
  simp only[Instr.enterLoop,aa,nW,af]
  intro bd hbd
  intro bl V8
  exact⟨bd,bl,hbd,V8,rfl,rfl⟩
 refine iG.step _ _ rfl fun w oY=>?_
 obtain⟨res,es,bV,hl⟩:=gH _ _ _ _ w #[] vk oY
 rw[Array.empty_append] at bV
 cases res with
 |halt _ _=>obtain⟨_,_,hu⟩:=hl;exact hu.elim
 |ok r w1=>
  obtain⟨s1,ht1,bd,bl,hbd,V8,rfl,rfl⟩:=hl
  have az3:bN P (callFunc g (fi++ #[.func (.yield bl) #[] #[]]++ca)) ⟨s.ro,(bl,.loop (iu fn a.tmps params assign body bd))::(bd,.deferred (some []))::s.rw⟩ (fun nx s2=>nx= .enter g (fi++ #[.func (.yield bl) #[] #[]]++ca)∧s2=⟨s.ro,(bl,.loop (iu fn a.tmps params assign body bd))::(bd,.deferred (some []))::s.rw⟩) (fun _ _=>False):=jU ff ⟨rfl,rfl⟩
  obtain⟨aLU,DC,anB,qp⟩:=gH _ _ _ _ w1 #[] az3 ht1.jI
  rw[Array.empty_append] at anB
  cases aLU with
  |halt _ _=>obtain⟨_,_,hu⟩:=qp;exact hu.elim
  |ok nx w2=>
   obtain⟨s2,ht2,rfl,rfl⟩:=qp
   let nD:Frame:=aM b {a with defers:=ez bd::a.defers} (.inRangeFunc bl::k)
   refine⟨G (Frame.enter P g (fi++ #[.func (.yield bl) #[] #[]]++ca) .normal) (nD::cs),w2,seen P b.fn es++seen P b.fn DC,_,?_,rfl,(ht1.sub (iv _ _ _)).trans (ht2.sub (iv _ _ _)),?_⟩
   ·have QS:(aM b {a with defers:=ez bd::a.defers} (.inRangeFunc bl::k)).eval x= .func (.func g) fi ca:=by rw[GG];exact hx
    have hdo:(do let d ←resolve (aM b {a with defers:=ez bd::a.defers} (.inRangeFunc bl::k)).eval {callee:= .value x,args:= #[.const (.func (.yield bl) #[] #[])],argTypes:= #[]} 0;invoke d.target d.args:Sem Next)=callFunc g (fi++ #[.func (.yield bl) #[] #[]]++ca):=by
     have hm:Array.map (aM b {a with defers:=ez bd::a.defers} (.inRangeFunc bl::k)).eval #[Operand.const (.func (.yield bl) #[] #[])]= #[.func (.yield bl) #[] #[]]:=by simp[Frame.eval]
     simp only[resolve,QS,Deferred.ofValue]
     rw[hm]
     rfl
    have bS:stepG P main (G (aM b a (.code (.rangeFunc x params assign body)::k)) cs) w=
     (let (r,es):=(Instr.enterLoop b.fn a.tmps params assign body b.roundOf).runT P w #[]
      GStep.after (seen P b.fn es)<|match r with
       | .ok (l,mark) w=>
        stepG.apply P true (aM b {a with defers:=mark++a.defers} (.inRangeFunc l::k)) cs none (do let d ←resolve (aM b {a with defers:=mark++a.defers} (.inRangeFunc l::k)).eval {callee:= .value x,args:= #[.const (.func (.yield l) #[] #[])],argTypes:= #[]} 0;invoke d.target d.args) w
       | .halt _ w=> .ended (.stuck "range over a function: no such loop" ((aM b a (.code (.rangeFunc x params assign body)::k)).pos P)) w):=rfl
    rw[bS,h1,h3,bV]
    simp only[List.singleton_append]
    rw[hdo]
    simp only[stepG.apply,if_true,anB]
    simp only[aM,hk,Bool.false_eq_true,if_false,GStep.after,h1]
    simp[G,nD,aM,h1]
   ·refine h bd bl hbd V8 main T hT nD cs (fun v s' hv=>?_) (fun ch s' hv=>h4 _ _ _ hv _)
    obtain⟨L,r,Rr,hs,F8,hq⟩:=hv
    have oX:∀(jump:Option Code),r.pending=jump→T (G (aM b {a with defers:=ez bd::a.defers} ((jump.map Item.code).toList++k)) cs) ⟨s'.ro,L++(bl,.loop {r with state:= .exhausted})::Rr⟩→T (G (nD.finish v) cs) s':=by
     intro jump hj hT'
     have az2:bN P (Instr.endLoop bl) s' (fun j s2=>j=jump∧s2=⟨s'.ro,L++(bl,.loop {r with state:= .exhausted})::Rr⟩) (fun _ _=>False):=by
      simp only[Instr.endLoop]
      refine wq hs ?_
      have hbq:(r.state==LoopState.busy)=false:=by simpa using F8
      simp only[hbq,Bool.false_eq_true,if_false,aa,af]
      exact eC rfl hs rfl ⟨hj,rfl⟩
     refine iG.step _ _ rfl fun w oY=>?_
     obtain⟨res,es,bV,hl⟩:=gH _ _ _ _ w #[] az2 oY
     rw[Array.empty_append] at bV
     cases res with
     |halt _ _=>obtain⟨_,_,hu⟩:=hl;exact hu.elim
     |ok j w'=>
      obtain⟨s2,ht,rfl,rfl⟩:=hl
      refine⟨_,w',seen P b.fn es,_,?_,rfl,ht.sub (iv _ _ _),hT'⟩
      have aOw:stepG P main (G (nD.finish v) cs) w=(let (r,es):=(Instr.endLoop bl).runT P w #[]
       GStep.after (seen P b.fn es)<|match r with
       | .ok jump w=> .go (G (aM b {a with defers:=ez bd::a.defers} ((jump.map Item.code).toList++k)) cs) w
       | .halt (.panic v) w=> .go (G ((aM b {a with defers:=ez bd::a.defers} (.endRangeFunc bl::k)).raise [{v,recovered:=false}]) cs) w
       | .halt _ w=> .ended (.stuck "range over a function: no such loop" ((aM b {a with defers:=ez bd::a.defers} (.endRangeFunc bl::k)).pos P)) w):=rfl
      rw[aOw,bV]
      simp[GStep.after]
    split at hq
    ·rename_i hp;exact oX none hp (h4 _ _ _ hq)
    ·rename_i hp;exact oX _ hp (h4 _ _ _ hq k)
    ·rename_i id hp
     refine oX _ hp ?_
     have h':=h4 _ _ _ hq
     simp only[jK] at h'
     cases ju:exitTo id k with
     |some k'=>
      rw[ju] at h'
      exact iG.go rfl rfl (g':=G (aM b {a with defers:=ez bd::a.defers} k') cs) (fun w=>by simp[G,stepG,stepG.exec,aM,ju]) h'
     |none=>rw[ju] at h';exact h' k ju
    ·exact hq.elim
end rounds
section marks
variable {P:Program} {C:Class} {s:St}
theorem unwind_mark(hC:∀main T,C main T→Closed P main T)(hT:C main T)(hm:fr.mode= .returning∨∃ch,fr.mode= .panicking ch){bd:Nat}(hd:fr.defers=ez bd::ds)
 {L Rr:List (Nat×Obj)}(hs:s.rw=L++(bd,.deferred (some []))::Rr)(h:T (G {fr with defers:=ds} cs) ⟨s.ro,L++(bd,.deferred none)::Rr⟩):T (G fr cs) s:=by
 have vk:bN P (Instr.takeDeferred bd) s (fun c s2=>c=[]∧s2=⟨s.ro,L++(bd,.deferred none)::Rr⟩) (fun _ _=>False):=by
  simp only[Instr.takeDeferred]
  refine cE (o:= .deferred (some [])) (.inr (by rw[hs];exact fy)) rfl rfl ?_
  exact eC rfl hs rfl ⟨rfl,rfl⟩
 refine(hC main T hT).step _ _ rfl fun w oY=>?_
 obtain⟨res,es,bV,hl⟩:=gH _ _ _ _ w #[] vk oY
 rw[Array.empty_append] at bV
 cases res with
 |halt _ _=>obtain⟨_,_,hu⟩:=hl;exact hu.elim
 |ok c w'=>
  obtain⟨s2,ht,rfl,rfl⟩:=hl
  refine⟨_,w',seen P fr.fn es,_,?_,rfl,ht.sub (iv _ _ _),h⟩
  rcases fr with ⟨fn',tmps,todo,defers,mode,kind,ro⟩
  simp only at hm hd
  subst hd
  rcases hm with rfl| ⟨ch,rfl⟩
  ·simp only[G,stepG,unwind,ez,bV,GStep.after,Array.append_empty,List.nil_append]
  ·simp only[G,stepG,unwind,ez,bV,GStep.after,Array.append_empty,List.nil_append]
end marks
section code
variable {P:Program} {C:Class} {fn:FuncId} {aC:Option Nat} {n LF:Nat} {F:Nat×Obj→Prop} {R:Nat→Option Obj} {call:cd}
theorem Nr{a:Act}(hC:∀main T,C main T→Closed P main T){c:Code}(h:Wp C fn aC c Q a s):Wp C fn aC (.scope c) Q a s:=by
 intro main T hT b k cs h1 h2 h3 h4
 refine(hC main T hT).go rfl rfl (g':=G (aM b a (.code c:: .inScope c::k)) cs) (fun w=>by simp[G,stepG,stepG.exec,aM]) ?_
 refine h main T hT b (.inScope c::k) cs h1 h2 h3 fun e a' s' q=>?_
 cases e with
 |normal=>exact(hC main T hT).go rfl rfl (g':=G (aM b a' k) cs) (fun w=>by simp[G,stepG,stepG.exec,aM]) (h4 _ _ _ q)
 |exit id=>
  have hh:exitTo id (.inScope c::k)=exitTo id k:=rfl
  have:=h4 _ _ _ q
  simp only[jK,hh] at this ⊢
  exact this
 |ret=>exact h4 _ _ _ q
 |panic ch=>exact h4 _ _ _ q
 |goto l=>exact(h4 _ _ _ q).elim
 |outgrown=>exact(h4 _ _ _ q).elim
theorem wp_label{a:Act}(hC:∀main T,C main T→Closed P main T){l:Nat}(h:Q .normal a s):Wp C fn aC (.label l) Q a s:=
 fun main T hT b k cs _ _ _ h4=>(hC main T hT).go rfl rfl (g':=G (aM b a k) cs) (fun w=>by simp[G,stepG,stepG.exec,aM]) (h4 _ _ _ h)
end code
section code
variable {P:Program} {C:Class} {fn:FuncId} {aC:Option Nat} {n LF:Nat} {D:List Deferred} {F:Nat×Obj→Prop} {R:Nat→Option Obj} {call:cd}
theorem rZ(P:Program)(f:FuncId):seen P f #[]= #[]:=by
 apply Array.eq_empty_of_size_eq_zero
 rcases Nat.eq_zero_or_pos (seen P f #[]).size with h|h
 ·exact h
 ·have:=iv P f #[] (seen P f #[])[0] (Array.getElem_mem h)
  simp at this
def HU(P:Program)(f:FuncId):Option (Func×Tmp×Code):=
 match P.funcs[f]? with
 |some fn=>match fn.body with
  |some (.seq (.region _ ops false) rest)=>match ops.toList with
   | [o]=>match o.dst,o.op,o.guard with
    |some t,.call ⟨.builtin .recover,xs,_⟩,none=>bif xs.isEmpty&&(fn.results.isEmpty&& !(fn.name== "runtime.NumGoroutine")) then some (fn,t,rest) else none
    |_,_,_=>none
   |_=>none
  |_=>none
 |none=>none
structure aFY(P:Program)(f:FuncId)(fn:Func)(t:Tmp)(rest:Code):Prop where
 ex:P.funcs[f]?=some fn∧fn.results= #[]∧(fn.name== "runtime.NumGoroutine")=false∧∃id o at_,fn.body=some (.seq (.region id #[o] false) rest)∧o.dst=some t∧o.op= .call ⟨.builtin .recover,#[],at_⟩∧o.guard=none
theorem U3{f:FuncId}{fn:Func}{t:Tmp}{rest:Code}(h:HU P f=some (fn,t,rest)):aFY P f fn t rest:=by
 unfold HU at h
 split at h<;>try (cases h;done)
 rename_i fn0 ui
 split at h<;>try (cases h;done)
 rename_i id ops aVh hb
 split at h<;>try (cases h;done)
 rename_i o ho
 split at h<;>try (cases h;done)
 rename_i t0 xs at_ h1 h2 h3
 cases hc:(xs.isEmpty&&(fn0.results.isEmpty&& !(fn0.name== "runtime.NumGoroutine"))) with
 |false=>rw[hc] at h;cases h
 |true=>
  rw[hc] at h;simp only[cond_true,Option.some.injEq,Prod.mk.injEq] at h
  obtain⟨rfl,rfl,rfl⟩:=h
  simp only[Bool.and_eq_true,Bool.not_eq_true',Array.isEmpty_iff] at hc
  obtain⟨rfl,c2,c3⟩:=hc
  refine⟨ui,c2,c3,id,o,at_,?_,h1,h2,h3⟩
  rw[hb]
  have:ops= #[o]:=by apply Array.ext';simpa using ho
  rw[this]
inductive UM where
 |ret
 |panic (v:Value)
inductive MR(ρ:aW):UM→FrameMode→Prop
 |ret:MR ρ .ret .returning
 |panic (v v':Value):VR ρ v v'→MR ρ (.panic v) (.panicking [{v:=v',recovered:=false}])
def ajc:UM→Value
 | .ret=> .nilIface
 | .panic v=>v
theorem jv(hC:∀main T,C main T→Closed P main T)(hT:C main T)(hm:fr.mode= .returning∨∃ch,fr.mode= .panicking ch){f:FuncId}(ff:FF P f){a:Array Value} 
 (hd:fr.defers={target:= .fn (.func f) ca,args:=a}::ds)(h:T (G (Frame.enter P f (a++ca) .deferred) ({fr with defers:=ds}::cs)) s):T (G fr cs) s:=by
 have vk:bN P (invoke (.fn (.func f) ca) a) s (fun nx s2=>nx= .enter f (a++ca)∧s2=s) (fun _ _=>False):=by
  simp only[invoke]
  exact jU ff ⟨rfl,rfl⟩
 refine(hC main T hT).step _ _ rfl fun w oY=>?_
 obtain⟨res,es,bV,hl⟩:=gH _ _ _ _ w #[] vk oY
 rw[Array.empty_append] at bV
 cases res with
 |halt _ _=>obtain⟨_,_,hu⟩:=hl;exact hu.elim
 |ok c w'=>
  obtain⟨s2,ht,rfl,rfl⟩:=hl
  refine⟨_,w',seen P fr.fn es,_,?_,rfl,ht.sub (iv _ _ _),h⟩
  rcases fr with ⟨fn',tmps,todo,defers,mode,kind,ro⟩
  simp only at hm hd
  subst hd
  rcases hm with rfl| ⟨ch,rfl⟩
  ·simp only[G,stepG,unwind,callDeferred,bV,GStep.after,Array.append_empty]
   rfl
  ·simp only[G,stepG,unwind,callDeferred,bV,GStep.after,Array.append_empty]
   rfl
theorem ze(hC:∀main T,C main T→Closed P main T)(hT:C main T){b:Frame}{a:Act}{o:Oper}{t:Tmp}{at_:Array TypeId}{k:List Item}{ρ:aW}{u:UM}(rC:b.kind= .deferred)(qy:b.roundOf=none)
 (h1:o.dst=some t)(h2:o.op= .call ⟨.builtin .recover,#[],at_⟩)(h3:o.guard=none)(hu:MR ρ u fr.mode)
 (h:∀v' mW,VR ρ (ajc u) v'∨(u= .ret∧v'= .nilIface)→(mW= .returning∨∃v,mW= .panicking [{v:=v,recovered:=true}])→T (G (aM b (a.put (some t) v') (.inRegion #[o] []::k)) ({fr with mode:=mW}::cs)) s):
 T (G (aM b a (.inRegion #[o] [0]::k)) (fr::cs)) s:=by
 have hw:Region.wanted o (yielded #[o] a.tmps)=true:=by unfold Region.wanted;rw[h3]
 have hex:∀aP,execOp aP o=pure .recover:=by
  intro aP
  simp only[execOp,h2,resolve]
  rfl
 have mj:∀v,(aM b a (.inRegion #[o] [0]::k)).finish v=aM b (a.put (some t) v) (.inRegion #[o] []::k):=by
  intro v
  rw[fJ]
  have:((#[o]:Array Oper)[0]?).bind (·.dst)=some t:=by simpa using h1
  rw[this]
 have gB:∀w,stepG P main (G (aM b a (.inRegion #[o] [0]::k)) (fr::cs)) w=stepG.apply P true (aM b a (.inRegion #[o] [0]::k)) (fr::cs) none (pure .recover) w:=by
  intro w
  have he:=kz b a (.inRegion #[o] [0]::k)
  simp only[aM] at he
  have ho:(#[o]:Array Oper)[0]?=some o:=by simp
  simp only[G,stepG,stepG.exec,aM,ho,Option.map_some,Option.getD_some,hw,if_true,stepG.oper,Frame.oper?,he,qy,hex]
 rcases Pp:fr.mode with _|_|ch
 ·rw[Pp] at hu;cases hu
 ·rw[Pp] at hu
  cases hu
  have:=h .nilIface .returning (.inr ⟨rfl,rfl⟩) (.inl rfl)
  rw[←mj] at this
  refine(hC main T hT).go rfl rfl (fun w=>?_) this
  rw[gB]
  have YG: {fr with mode:=FrameMode.returning}=fr:=by rw[←Pp]
  rw[YG]
  simp only[stepG.apply,if_true]
  show GStep.after (seen P _ _) _=_
  simp[Sem.runT,pure,GStep.after,aM,rC,qy,tryRecover,Pp,G]
  exact rZ P b.fn
 ·rw[Pp] at hu
  cases hu
  rename_i v v' hv
  have:=h v' (.panicking [{v:=v',recovered:=true}]) (.inl hv) (.inr ⟨v',rfl⟩)
  rw[←mj] at this
  refine(hC main T hT).go rfl rfl (fun w=>?_) this
  rw[gB]
  simp only[stepG.apply,if_true]
  show GStep.after (seen P _ _) _=_
  simp[Sem.runT,pure,GStep.after,aM,rC,qy,tryRecover,Pp,G]
  exact rZ P b.fn
end code
def iL:Code→List Code
 | .seq a b=>iL a++iL b
 |c=>[c]
def fL(K:Nat→St)(i:Nat)(s:St):Nat→St:=fun j=>if j=i then s else K j
theorem aF(K:Nat→St)(i:Nat)(s:St):fL K i s i=s:=by simp[fL]
theorem aH(K:Nat→St){j:Nat}(s:St)(h:j≠i):fL K i s j=K j:=by simp[fL,h]
structure Fit(L:Nat→Option Obj)(K:Nat→St)(w:World)(t:Trace):Prop where
 De:∀b o,L b=some o→w.heap[b]?=some o
 k9:∀i b,(K i).iQ b→L b=none
 jI:∀i,aU (K i) w
 sep:∀i j b,i≠j→(K i).iQ b→¬(K j).knows b
 perm:∀i b,(K i).iQ b→∀p x,touchAt t p=some x→blk x.loc=some b→Knows t i p
 qF:∀i b,(K i).ro b≠none→∀p x,touchAt t p=some x→blk x.loc=some b→x.write=true→Knows t i p
 old:∀p x b,touchAt t p=some x→blk x.loc=some b→b <w.heap.size
 clean:∀said,¬Race said t
 sync:∀p x b,touchAt t p=some x→x.kind≠ .plain→blk x.loc=some b→L b=none∧∀i,¬(K i).knows b
theorem lt_size{α:Type}{a:Array α}{x:α}(h:a[i]?=some x):i <a.size:=by
 rcases Nat.lt_or_ge i a.size with h'|h'
 ·exact h'
 ·rw[Array.getElem?_eq_none h'] at h;cases h
theorem bF{x:Touch}(h:touchAt (t++u) p=some x):(p <t.size∧touchAt t p=some x)∨(t.size≤p∧∃op∈u,(t++u)[p]?=some op∧op.act.touch?=some x):=by
 rcases Nat.lt_or_ge p t.size with hp|hp
 ·exact .inl ⟨hp,by rw[←touchAt_old (u:=u) hp];exact h⟩
 ·obtain⟨op,ho,hx⟩:=touch_of h
  rcases getElem?_append_cases ho with ⟨h',_⟩| ⟨_,hm⟩
  ·omega
  ·exact .inr ⟨hp,op,hm,ho,hx⟩
theorem Ck{es:Array Event}(h:∀e∈es,Hn s n e){op:MemOp}(ho:op∈MemOp.ofEvents i fn pos es):
 op.g=i∧∀x,op.act.touch?=some x→x.kind= .plain∧∃b,blk x.loc=some b∧(n≤b∨s.iQ b∨(x.write=false∧s.ro b≠none))∧∃e∈es,blk e.loc=some b:=by
 rw[ofEvents_eq] at ho
 obtain⟨e,he,rfl⟩:=Array.mem_map.1 ho
 refine⟨rfl,fun x hx=>?_⟩
 have hk:=h e he
 obtain⟨loc,wr,sy⟩:=e
 cases loc with
 |cell a=>
  obtain⟨h1,h2⟩:=hk
  simp only at h1 h2
  subst h1
  cases wr<;>(simp only[MemAct.ofEvent,MemAct.touch?,Option.some.injEq] at hx;subst hx;exact⟨rfl,_,rfl,h2,_,he,rfl⟩)
 |obj r=>
  obtain⟨h1,h2⟩:=hk
  simp only at h1 h2
  subst h1
  cases wr<;>(simp only[MemAct.ofEvent,MemAct.touch?,Option.some.injEq] at hx;subst hx;exact⟨rfl,_,rfl,h2,_,he,rfl⟩)
 |mark m=>
  cases m<;>simp only[Hn,Bs,Bool.false_eq_true] at hk<;>(cases hx)
 |_=>exact hk.elim
theorem BF(hu:∀op∈u,op.g=i)(hp:t.size≤p){op:MemOp}(ho:(t++u)[p]?=some op):Knows (t++u) i p:=by
 rcases getElem?_append_cases ho with ⟨h',_⟩| ⟨_,hm⟩
 ·omega
 ·have:=knows_own ho
  rwa[hu op hm] at this
theorem Fit.own{L:Nat→Option Obj}{K:Nat→St}{w:World}(h:Fit L K w t){es:Array Event}(ht:Trans (K i) w s' w' es)(fn:FuncId)(pos:String):
 Fit L (fL K i s') w' (t++MemOp.ofEvents i fn pos es):=by
 have hu:=fun op (ho:op∈MemOp.ofEvents i fn pos es)=>Ck ht.uM ho
 have hg:∀op∈MemOp.ofEvents i fn pos es,op.g=i:=fun op ho=>(hu op ho).1
 have other:∀j b,j≠i→(K j).knows b→b <w.heap.size∧¬(K i).iQ b:=fun j b hj hk=>by
  refine⟨?_,fun ho=>h.sep i j b (Ne.symm hj) ho hk⟩
  rcases hk with hk| ⟨o,hk⟩
  ·cases hr:(K j).ro b with
   |none=>exact absurd hr hk
   |some o=>exact(h.jI j).lt (.inl hr)
  ·exact(h.jI j).lt (.inr hk)
 have Vq:∀b o,L b=some o→b <w.heap.size:=fun b o hl=>lt_size (h.De b o hl)
 refine⟨fun b o hl=>?_,fun j b ho=>?_,fun j=>?_,fun j k b Ng ho hk=>?_,fun j b ho p x hx hb=>?_,fun j b ho p x hx hb hw=>?_,fun p x b hx hb=>?_,fun said=>?_,fun p x b hx hk hb=>?_⟩
 ·rw[ht.frame b (Vq b o hl) (fun ho=>by have:=h.k9 i b ho;rw[hl] at this;cases this)];exact h.De b o hl
 ·by_cases hj:j=i
  ·subst hj
   rw[aF] at ho
   rcases ht.own b ho with h1|h1
   ·cases hl:L b with
    |none=>rfl
    |some o=>have:=Vq b o hl;omega
   ·exact h.k9 j b h1
  ·rw[aH K s' hj] at ho;exact h.k9 j b ho
 ·by_cases hj:j=i
  ·subst hj;rw[aF];exact ht.jI
  ·rw[aH K s' hj]
   have a:=h.jI j
   refine⟨fun b o hb=>?_,fun b o hb=>?_,a.nodup,a.apart⟩
   ·have:=other j b hj (.inl (by rw[hb];simp))
    rw[ht.frame b this.1 this.2];exact a.ro b o hb
   ·have:=other j b hj (.inr ⟨o,hb⟩)
    rw[ht.frame b this.1 this.2];exact a.rw b o hb
 ·by_cases hj:j=i
  ·subst hj
   rw[aF] at ho
   rw[aH K s' (Ne.symm Ng)] at hk
   have:=other k b (Ne.symm Ng) hk
   rcases ht.own b ho with h1|h1
   ·omega
   ·exact this.2 h1
  ·rw[aH K s' hj] at ho
   by_cases jD:k=i
   ·subst jD
    rw[aF] at hk
    have:=other j b hj (.inr ho)
    rcases hk with hk|hk
    ·rcases ht.Kh b hk with h1|h1|h1
     ·omega
     ·exact h.sep j k b hj ho (.inl h1)
     ·exact this.2 h1
    ·rcases ht.own b hk with h1|h1
     ·omega
     ·exact this.2 h1
   ·rw[aH K s' jD] at hk
    exact h.sep j k b Ng ho hk
 ·rcases bF hx with ⟨hp,lH⟩| ⟨hp,op,hm,aB,xp⟩
  ·by_cases hj:j=i
   ·subst hj
    rw[aF] at ho
    rcases ht.own b ho with h1|h1
    ·exact absurd (h.old p x b lH hb) (by omega)
    ·exact(h.perm j b h1 p x lH hb).app _
   ·rw[aH K s' hj] at ho
    exact(h.perm j b ho p x lH hb).app _
  ·by_cases hj:j=i
   ·subst hj;exact BF hg hp aB
   ·rw[aH K s' hj] at ho
    obtain⟨_,b',mo,hc,e',yV,Dv⟩:=(hu op hm).2 x xp
    obtain rfl:b'=b:=by rw[hb] at mo;exact(Option.some.inj mo).symm
    have:=other j b' hj (.inr ho)
    rcases hc with h1|h1|h1
    ·omega
    ·exact absurd h1 this.2
    ·exact absurd (.inl h1.2) (h.sep j i b' hj ho)
 ·rcases bF hx with ⟨hp,lH⟩| ⟨hp,op,hm,aB,xp⟩
  ·by_cases hj:j=i
   ·subst hj
    rw[aF] at ho
    rcases ht.Kh b ho with h1|h1|h1
    ·exact absurd (h.old p x b lH hb) (by omega)
    ·exact(h.qF j b h1 p x lH hb hw).app _
    ·exact(h.perm j b h1 p x lH hb).app _
   ·rw[aH K s' hj] at ho
    exact(h.qF j b ho p x lH hb hw).app _
  ·by_cases hj:j=i
   ·subst hj;exact BF hg hp aB
   ·rw[aH K s' hj] at ho
    obtain⟨_,b',mo,hc,e',yV,Dv⟩:=(hu op hm).2 x xp
    obtain rfl:b'=b:=by rw[hb] at mo;exact(Option.some.inj mo).symm
    have:=other j b' hj (.inl ho)
    rcases hc with h1|h1|h1
    ·omega
    ·exact absurd h1 this.2
    ·rw[h1.1] at hw;cases hw
 ·rcases bF hx with ⟨hp,lH⟩| ⟨hp,op,hm,aB,xp⟩
  ·exact Nat.lt_of_lt_of_le (h.old p x b lH hb) ht.size
  ·obtain⟨_,b',mo,hc,e',yV,Dv⟩:=(hu op hm).2 x xp
   obtain rfl:b'=b:=by rw[hb] at mo;exact(Option.some.inj mo).symm
   exact ht.low e' yV b' Dv
 case refine_9=>
  rcases bF hx with ⟨hp,lH⟩| ⟨hp,op,hm,aB,xp⟩
  ·have hs:=h.sync p x b lH hk hb
   refine⟨hs.1,fun j hj=>?_⟩
   by_cases e:j=i
   ·subst e
    rw[aF] at hj
    have cK:=h.old p x b lH hb
    rcases hj with hj|hj
    ·rcases ht.Kh b hj with h1|h1|h1
     ·omega
     ·exact hs.2 j (.inl h1)
     ·exact hs.2 j (.inr h1)
    ·rcases ht.own b hj with h1|h1
     ·omega
     ·exact hs.2 j (.inr h1)
   ·rw[aH K s' e] at hj;exact hs.2 j hj
  ·exact absurd ((hu op hm).2 x xp).1 hk
 case refine_8=>
  refine noRace_append (h.clean said) hg fun p a ha op hm b hb hc=>?_
  obtain⟨hk,c,hbc,uj,_⟩:=(hu op hm).2 b hb
  have asH:blk a.loc=some c:=by rw[hc.1];exact hbc
  rcases uj with h1|h1|h1
  ·exact absurd (h.old p a c ha asH) (by omega)
  ·exact h.perm i c h1 p a ha asH
  ·refine h.qF i c h1.2 p a ha asH ?_
   rcases hc.2.2.1 with hw|hw
   ·exact hw
   ·rw[h1.1] at hw;cases hw
theorem KW{said:Bool}(h:¬Race said t)(hu:∀op∈u,op.act.touch?=none):¬Race said (t++u):=by
 rintro⟨i,j,HA,⟨a,b,ha,hb,hc⟩,n1,n2⟩
 obtain⟨y,hy,hyb⟩:=touch_of hb
 rcases getElem?_append_cases hy with ⟨hj,_⟩| ⟨_,hyu⟩
 ·have hi:i <t.size:=Nat.lt_trans HA hj
  exact h ⟨i,j,HA,⟨a,b,by rw[←act?_old (u:=u) hi];exact ha,by rw[←act?_old (u:=u) hj];exact hb,hc⟩,fun e=>n1 (hb_app u e),fun e=>n2 (hb_app u e)⟩
 ·rw[hu y hyu] at hyb;cases hyb
section
variable {L:Nat→Option Obj} {K:Nat→St} {w w':World} {t u:Trace}
theorem Fit.FG(h:Fit L K w t)(hk:(K i).knows b):b <w.heap.size:=by
 rcases hk with hk| ⟨o,hk⟩
 ·cases hr:(K i).ro b with
  |none=>exact absurd hr hk
  |some o=>exact(h.jI i).lt (.inl hr)
 ·exact(h.jI i).lt (.inr hk)
theorem aU.congr(h:aU s w)(hf:∀b,s.knows b→w'.heap[b]?=w.heap[b]?):aU s w':=
 ⟨fun b o hb=>by rw[hf b (.inl (by rw[hb];simp))];exact h.ro b o hb,fun b o hb=>by rw[hf b (.inr ⟨o,hb⟩)];exact h.rw b o hb,h.nodup,h.apart⟩
theorem Fit.quiet(h:Fit L K w t)(B:Nat)(hB:∀j,¬(K j).knows B)(hBL:L B=none)(hs:w.heap.size≤w'.heap.size)(hf:∀b,b≠B→b <w.heap.size→w'.heap[b]?=w.heap[b]?)
 (hu:∀op∈u,op.act.touch?=none):Fit L K w' (t++u):=by
 have old:∀p x,touchAt (t++u) p=some x→touchAt t p=some x:=fun p x hx=>by
  rcases bF hx with ⟨_,h'⟩| ⟨_,op,hm,_,xp⟩
  ·exact h'
  ·rw[hu op hm] at xp;cases xp
 refine⟨fun b o hl=>?_,h.k9,fun i=>?_,h.sep,fun i b ho p x hx hb=>(h.perm i b ho p x (old p x hx) hb).app u,fun i b ho p x hx hb hw=>(h.qF i b ho p x (old p x hx) hb hw).app u,
  fun p x b hx hb=>Nat.lt_of_lt_of_le (h.old p x b (old p x hx) hb) hs,fun said=>KW (h.clean said) hu,fun p x b hx hk hb=>h.sync p x b (old p x hx) hk hb⟩
 ·rw[hf b (fun e=>by rw[e,hBL] at hl;cases hl) (lt_size (h.De b o hl))];exact h.De b o hl
 ·exact(h.jI i).congr fun b hb=>hf b (fun e=>hB i (e▸hb)) (h.FG hb)
theorem Fit.beside(h:Fit L K w t)(B i:Nat)(hB:∀j,¬(K j).knows B)(hBL:L B=none)(hBw:B <w.heap.size)(hs:w.heap.size≤w'.heap.size)(hf:∀b,b≠B→b <w.heap.size→w'.heap[b]?=w.heap[b]?)
 (hg:∀op∈u,op.g=i) (hu:∀op∈u,∀x,op.act.touch?=some x→blk x.loc=some B∧∀said p a,touchAt t p=some a→a.conflicts said x→Knows t i p):Fit L K w' (t++u):=by
 have old:∀b,b≠B→∀p x,touchAt (t++u) p=some x→blk x.loc=some b→touchAt t p=some x:=fun b eg p x hx hb=>by
  rcases bF hx with ⟨_,h'⟩| ⟨_,op,hm,_,xp⟩
  ·exact h'
  ·have:=(hu op hm x xp).1
   rw[hb] at this;exact absurd (Option.some.inj this) eg
 have ne:∀j b,(K j).knows b→b≠B:=fun j b hk e=>hB j (e▸hk)
 refine⟨fun b o hl=>?_,h.k9,fun i=>?_,h.sep,fun j b ho p x hx hb=>(h.perm j b ho p x (old b (ne j b (.inr ho)) p x hx hb) hb).app u,
  fun j b ho p x hx hb hw=>(h.qF j b ho p x (old b (ne j b (.inl ho)) p x hx hb) hb hw).app u,
  fun p x b hx hb=>?_,fun said=>noRace_append (h.clean said) hg fun p a ha op hm b hb hc=>(hu op hm b hb).2 said p a ha hc,fun p x b hx hk hb=>?_⟩
 ·rw[hf b (fun e=>by rw[e,hBL] at hl;cases hl) (lt_size (h.De b o hl))];exact h.De b o hl
 ·exact(h.jI i).congr fun b hb=>hf b (fun e=>hB i (e▸hb)) (h.FG hb)
 ·by_cases e:b=B
  ·subst e;omega
  ·exact Nat.lt_of_lt_of_le (h.old p x b (old b e p x hx hb) hb) hs
 ·by_cases e:b=B
  ·subst e;exact⟨hBL,hB⟩
  ·exact h.sync p x b (old b e p x hx hb) hk hb
theorem St.le.iQ(h:s.le s')(hb:s.iQ b):s'.iQ b:=by
 obtain⟨R,h1,_⟩:=h
 obtain⟨o,ho⟩:=hb
 exact⟨o,h1.mem_iff.2 (by simp[ho])⟩
theorem St.le.ro(h:s.le s')(hb:s.ro b≠none):s'.ro b≠none∨s'.iQ b:=by
 obtain⟨R,h1,h2⟩:=h
 cases hr:s.ro b with
 |none=>exact absurd hr hb
 |some o=>
  rcases h2 b o hr with h3|h3
  ·exact .inl (by rw[h3];simp)
  ·exact .inr ⟨o,h1.mem_iff.2 (by simp[h3])⟩
theorem St.le.knows(h:s.le s')(hb:s.knows b):s'.knows b:=hb.elim (fun hr=>(h.ro hr).elim .inl .inr) fun ho=> .inr (h.iQ ho)
theorem Fit.le{K':Nat→St}(h:Fit L K w t)(hK:∀i,(K' i).le (K i)):Fit L K' w t:=
 ⟨h.De,fun i b ho=>h.k9 i b ((hK i).iQ ho),fun i=>(h.jI i).of_le (hK i),fun i j b HA ho hk=>h.sep i j b HA ((hK i).iQ ho) ((hK j).knows hk),
  fun i b ho p x hx hb=>h.perm i b ((hK i).iQ ho) p x hx hb,
  fun i b ho p x hx hb hw=>((hK i).ro ho).elim (fun hr=>h.qF i b hr p x hx hb hw) fun hr=>h.perm i b hr p x hx hb,h.old,h.clean,
  fun p x b hx hk hb=>⟨(h.sync p x b hx hk hb).1,fun i hi=>(h.sync p x b hx hk hb).2 i ((hK i).knows hi)⟩⟩
theorem Fit.hand(h:Fit L K w t){j:Nat}(HA:i≠j)(X Y:List (Nat×Obj))(hX:(K j).rw.Perm (X++Y))
 (hk:∀b o,(b,o)∈X→∀p x,touchAt t p=some x→blk x.loc=some b→Knows t i p):
 Fit L (fL (fL K j ⟨(K j).ro,Y⟩) i ⟨(K i).ro,X++(K i).rw⟩) w t:=by
 have iS:∀x,x∈X→x∈(K j).rw:=fun x hx=>hX.mem_iff.2 (by simp[hx])
 have aeu:∀x,x∈Y→x∈(K j).rw:=fun x hx=>hX.mem_iff.2 (by simp[hx])
 have lX:(X.map (·.1)).Nodup∧(Y.map (·.1)).Nodup∧∀b o o',(b,o)∈X→(b,o')∈Y→False:=by
  have:=(hX.map (·.1)).nodup_iff.1 (h.jI j).nodup
  rw[List.map_append,List.nodup_append] at this
  exact⟨this.1,this.2.1,fun b o o' h1 h2=>this.2.2 b (List.mem_map.2 ⟨_,h1,rfl⟩) b (List.mem_map.2 ⟨_,h2,rfl⟩) rfl⟩
 have e1:fL (fL K j ⟨(K j).ro,Y⟩) i ⟨(K i).ro,X++(K i).rw⟩ i=⟨(K i).ro,X++(K i).rw⟩:=aF _ _ _
 have e2:fL (fL K j ⟨(K j).ro,Y⟩) i ⟨(K i).ro,X++(K i).rw⟩ j=⟨(K j).ro,Y⟩:=by rw[aH _ _ (Ne.symm HA),aF]
 have e3:∀k,k≠i→k≠j→fL (fL K j ⟨(K j).ro,Y⟩) i ⟨(K i).ro,X++(K i).rw⟩ k=K k:=fun k h1 h2=>by rw[aH _ _ h1,aH _ _ h2]
 have Oq:∀b,(⟨(K i).ro,X++(K i).rw⟩:St).iQ b→(∃o,(b,o)∈X)∨(K i).iQ b:=fun b ⟨o,ho⟩=>(List.mem_append.1 ho).elim (fun h'=> .inl ⟨o,h'⟩) fun h'=> .inr ⟨o,h'⟩
 have I8:∀b,(⟨(K j).ro,Y⟩:St).iQ b→(K j).iQ b∧¬ ∃o,(b,o)∈X:=fun b ⟨o,ho⟩=>⟨⟨o,aeu _ ho⟩,fun⟨o',h'⟩=>lX.2.2 b o' o h' ho⟩
 have jX:∀b,(∃o,(b,o)∈X)→(K j).iQ b:=fun b ⟨o,ho⟩=>⟨o,iS _ ho⟩
 have Lg:∀k b,k≠i→(fL (fL K j ⟨(K j).ro,Y⟩) i ⟨(K i).ro,X++(K i).rw⟩ k).knows b→(K k).knows b∧(k=j→¬ ∃o,(b,o)∈X):=fun k b jD hb=>by
  by_cases e:k=j
  ·subst e
   rw[e2] at hb
   rcases hb with hb|hb
   ·refine⟨.inl hb,fun _ ⟨o,ho⟩=>hb ((h.jI k).apart b o (iS _ ho))⟩
   ·exact⟨.inr (I8 b hb).1,fun _=>(I8 b hb).2⟩
  ·rw[e3 k jD e] at hb;exact⟨hb,fun e'=>absurd e' e⟩
 refine⟨h.De,fun k b ho=>?_,fun k=>?_,fun k l b QP ho hb=>?_,fun k b ho p x hx hb=>?_,fun k b ho p x hx hb hw=>?_,h.old,h.clean,fun p x b hx jD hb=>⟨(h.sync p x b hx jD hb).1,fun k bW=>?_⟩⟩
 case refine_6=>
  have hs:=(h.sync p x b hx jD hb).2
  by_cases a:k=i
  ·subst a;rw[e1] at bW
   rcases bW with h'|h'
   ·exact hs k (.inl h')
   ·exact(Oq b h').elim (fun h'=>hs j (.inr (jX b h'))) fun h'=>hs k (.inr h')
  ·exact hs k (Lg k b a bW).1
 ·by_cases a:k=i
  ·subst a;rw[e1] at ho
   exact(Oq b ho).elim (fun h'=>h.k9 j b (jX b h')) (h.k9 k b)
  ·by_cases c:k=j
   ·subst c;rw[e2] at ho;exact h.k9 k b (I8 b ho).1
   ·rw[e3 k a c] at ho;exact h.k9 k b ho
 ·by_cases a:k=i
  ·subst a;rw[e1]
   refine⟨(h.jI k).ro,fun b o hb=>(List.mem_append.1 hb).elim (fun h'=>(h.jI j).rw b o (iS _ h')) ((h.jI k).rw b o),?_,fun b o hb=>?_⟩
   ·rw[List.map_append,List.nodup_append]
    refine⟨lX.1,(h.jI k).nodup,?_⟩
    rintro b h1 _ h2 rfl
    obtain⟨⟨b1,o1⟩,m1,rfl⟩:=List.mem_map.1 h1
    obtain⟨⟨b2,o2⟩,m2,he⟩:=List.mem_map.1 h2
    simp only at he;subst he
    exact h.sep j k b2 (Ne.symm HA) (jX b2 ⟨o1,m1⟩) (.inr ⟨o2,m2⟩)
   ·rcases List.mem_append.1 hb with h'|h'
    ·cases hr:(K k).ro b with
     |none=>rfl
     |some y=>exact absurd (.inl (by rw[hr];simp)) (h.sep j k b (Ne.symm HA) (jX b ⟨o,h'⟩))
    ·exact(h.jI k).apart b o h'
  ·by_cases c:k=j
   ·subst c;rw[e2]
    exact⟨(h.jI k).ro,fun b o hb=>(h.jI k).rw b o (aeu _ hb),lX.2.1,fun b o hb=>(h.jI k).apart b o (aeu _ hb)⟩
   ·rw[e3 k a c];exact h.jI k
 ·by_cases a:k=i
  ·subst a
   rw[e1] at ho
   have jD:=Lg l b (Ne.symm QP) hb
   rcases Oq b ho with h'|h'
   ·by_cases c:l=j
    ·exact jD.2 c h'
    ·exact h.sep j l b (Ne.symm c) (jX b h') jD.1
   ·exact h.sep k l b QP h' jD.1
  ·have D9:(K k).iQ b∧(k=j→¬ ∃o,(b,o)∈X):=by
    by_cases c:k=j
    ·subst c;rw[e2] at ho;exact⟨(I8 b ho).1,fun _=>(I8 b ho).2⟩
    ·rw[e3 k a c] at ho;exact⟨ho,fun e=>absurd e c⟩
   by_cases c:l=i
   ·subst c
    rw[e1] at hb
    rcases hb with hb|hb
    ·exact h.sep k l b QP D9.1 (.inl hb)
    ·rcases Oq b hb with h'|h'
     ·by_cases d:k=j
      ·exact D9.2 d h'
      ·exact h.sep k j b d D9.1 (.inr (jX b h'))
     ·exact h.sep k l b QP D9.1 (.inr h')
   ·exact h.sep k l b QP D9.1 (Lg l b c hb).1
 ·by_cases a:k=i
  ·subst a;rw[e1] at ho
   exact(Oq b ho).elim (fun⟨o,h'⟩=>hk b o h' p x hx hb) fun h'=>h.perm k b h' p x hx hb
  ·by_cases c:k=j
   ·subst c;rw[e2] at ho;exact h.perm k b (I8 b ho).1 p x hx hb
   ·rw[e3 k a c] at ho;exact h.perm k b ho p x hx hb
 ·by_cases a:k=i
  ·subst a;rw[e1] at ho;exact h.qF k b ho p x hx hb hw
  ·by_cases c:k=j
   ·subst c;rw[e2] at ho;exact h.qF k b ho p x hx hb hw
   ·rw[e3 k a c] at ho;exact h.qF k b ho p x hx hb hw
theorem Fit.share(h:Fit L K w t)(yU:i≠n)(s:St)(hrw:s.rw=[])(zy:∀b o,s.ro b=some o→(K i).ro b=some o)
 (hk:∀b,s.ro b≠none→∀p x,touchAt t p=some x→blk x.loc=some b→x.write=true→Knows t n p):Fit L (fL K n s) w t:=by
 have no:∀b,¬s.iQ b:=fun b ⟨o,ho⟩=>by rw[hrw] at ho;cases ho
 have kn:∀b,s.ro b≠none→(K i).ro b≠none:=fun b hb=>by
  cases hr:s.ro b with
  |none=>exact absurd hr hb
  |some o=>rw[zy b o hr];simp
 refine⟨h.De,fun k b ho=>?_,fun k=>?_,fun k l b QP ho hb=>?_,fun k b ho p x hx hb=>?_,fun k b ho p x hx hb hw=>?_,h.old,h.clean,fun p x b hx jD hb=>⟨(h.sync p x b hx jD hb).1,fun k bW=>?_⟩⟩
 case refine_6=>
  have hs:=(h.sync p x b hx jD hb).2
  by_cases a:k=n
  ·subst a;rw[aF] at bW;exact hs i (.inl (kn b (bW.resolve_right (no b))))
  ·rw[aH _ _ a] at bW;exact hs k bW
 ·by_cases a:k=n
  ·subst a;rw[aF] at ho;exact absurd ho (no b)
  ·rw[aH _ _ a] at ho;exact h.k9 k b ho
 ·by_cases a:k=n
  ·subst a;rw[aF];exact⟨fun b o hb=>(h.jI i).ro b o (zy b o hb),fun b o hb=>absurd ⟨o,hb⟩ (no b),by rw[hrw];simp,fun b o hb=>absurd ⟨o,hb⟩ (no b)⟩
  ·rw[aH _ _ a];exact h.jI k
 ·by_cases a:k=n
  ·subst a;rw[aF] at ho;exact no b ho
  ·rw[aH _ _ a] at ho
   by_cases c:l=n
   ·subst c;rw[aF] at hb
    have hr:=kn b (hb.resolve_right (no b))
    by_cases d:k=i
    ·subst d
     obtain⟨o,ho⟩:=ho
     exact hr ((h.jI k).apart b o ho)
    ·exact h.sep k i b d ho (.inl hr)
   ·rw[aH _ _ c] at hb;exact h.sep k l b QP ho hb
 ·by_cases a:k=n
  ·subst a;rw[aF] at ho;exact absurd ho (no b)
  ·rw[aH _ _ a] at ho;exact h.perm k b ho p x hx hb
 ·by_cases a:k=n
  ·subst a;rw[aF] at ho;exact hk b ho p x hx hb hw
  ·rw[aH _ _ a] at ho;exact h.qF k b ho p x hx hb hw
theorem Fit.alone(h:Fit L K w t)(hK:∀j,j≠i→∀b,¬(K j).knows b)(s:St)(ha:aU s w)
 (yU:∀b,s.knows b→L b≠none∨(K i).knows b)(jD:∀b,s.knows b→∀p x,touchAt t p=some x→x.kind= .plain→blk x.loc=some b→Knows t i p):
 Fit (fun _=>none) (fL K i s) w t:=by
 have ay5:∀b,s.knows b→∀p x,touchAt t p=some x→blk x.loc=some b→x.kind= .plain:=fun b hb p x hx hxb=>by
  by_cases e:x.kind= .plain
  ·exact e
  ·have hs:=h.sync p x b hx e hxb
   exact((yU b hb).elim (fun h'=>h' hs.1) fun h'=>hs.2 i h').elim
 have hk:∀b,s.knows b→∀p x,touchAt t p=some x→blk x.loc=some b→Knows t i p:=fun b hb p x hx hxb=>jD b hb p x hx (ay5 b hb p x hx hxb) hxb
 refine⟨fun b o hl=>((by cases hl)),fun _ _ _=>rfl,fun k=>?_,fun k l b QP ho hb=>?_,fun k b ho p x hx hb=>?_,fun k b ho p x hx hb hw=>?_,h.old,h.clean,fun p x b hx hkd hb=>⟨rfl,fun k bW=>?_⟩⟩
 case refine_5=>
  by_cases a:k=i
  ·subst a;rw[aF] at bW;exact hkd (ay5 b bW p x hx hb)
  ·rw[aH _ _ a] at bW;exact hK k a b bW
 ·by_cases a:k=i
  ·subst a;rw[aF];exact ha
  ·rw[aH _ _ a];exact h.jI k
 ·by_cases a:k=i
  ·rw[aH _ _ (fun e=>QP (a.trans e.symm))] at hb;exact hK l (fun e=>QP (a.trans e.symm)) b hb
  ·rw[aH _ _ a] at ho;exact hK k a b (.inr ho)
 ·by_cases a:k=i
  ·subst a;rw[aF] at ho;exact hk b (.inr ho) p x hx hb
  ·rw[aH _ _ a] at ho;exact absurd (.inr ho) (hK k a b)
 ·by_cases a:k=i
  ·subst a;rw[aF] at ho;exact hk b (.inl ho) p x hx hb
  ·rw[aH _ _ a] at ho;exact absurd (.inl ho) (hK k a b)
end
inductive Tree:Type
 |leaf
 |node (f:World→Tree)
inductive Tree.Lt:Tree→Tree→Prop
 |mk (f:World→Tree) (w:World):Tree.Lt (f w) (.node f)
theorem Tree.wf:WellFounded Tree.Lt:=by
 refine⟨fun t=>?_⟩
 induction t with
 |leaf=>exact⟨_,fun y h=>(by cases h)⟩
 |node f ih=>exact⟨_,fun y h=>by cases h;exact ih _⟩
def oB(P:Program)(main:Bool)(Stop:Goroutine→St→Prop):Tree→Goroutine→St→Prop
 | .leaf,g,s=>Stop g s
 | .node f,g,s=>g.status= .running∧∀w,aU s w→∃g' w' es s',stepG P main g w= .go g' w' es∧g'.status= .running∧Trans s w s' w' es∧oB P main Stop (f w) g' s'
theorem St.le.trans{a b c:St}(h:a.le b)(k:b.le c):a.le c:=by
 obtain⟨R,h1,h2⟩:=h
 obtain⟨R',k1,k2⟩:=k
 refine⟨R++R',?_,fun x o hx=>?_⟩
 ·rw[←List.append_assoc];exact k1.trans (h1.append_right R')
 ·rcases h2 x o hx with h3|h3
  ·exact(k2 x o h3).imp id fun h'=>by simp[h']
  ·exact .inr (by simp[h3])
theorem Trans.le{ig:St}{w:World}{es:Array Event}(h:Trans s w s' w' es)(hl:ig.le s'):Trans s w ig w' es:=
 ⟨h.jI.of_le hl,h.size,h.frame,fun b hb=>h.own b (hl.iQ hb),fun b hb=>(hl.ro hb).elim (h.Kh b) fun ho=>(h.own b ho).imp id .inr,h.os,h.output,h.tape,h.uM,h.low⟩
def eQ(P:Program)(main:Bool)(Stop:Goroutine→St→Prop)(g:Goroutine)(s:St):Prop:=∃tr ig,ig.le s∧oB P main Stop tr g ig
theorem dX(P:Program)(main:Bool)(Stop:Goroutine→St→Prop):Closed P main (eQ P main Stop) where
 step:=fun g s hs h=>by
  have key:∀w,∃tr,aU s w→∃g' w' es s',stepG P main g w= .go g' w' es∧g'.status= .running∧Trans s w s' w' es∧oB P main Stop tr g' s':=fun w=>by
   by_cases ha:aU s w
   ·obtain⟨g',w',es,s',h1,h2,h3,tr,ig,hl,h4⟩:=h w ha
    exact⟨tr,fun _=>⟨g',w',es,ig,h1,h2,h3.le hl,h4⟩⟩
   ·exact⟨.leaf,fun uk=>absurd uk ha⟩
  refine⟨.node fun w=>(key w).choose,s,St.le_refl s,hs,fun w ha=>(key w).choose_spec ha⟩
 mono:=fun g s s' hl ⟨tr,ig,h,ht⟩=>⟨tr,ig,h.trans hl,ht⟩
theorem eQ.stop{Stop:Goroutine→St→Prop}(h:Stop g s):eQ P main Stop g s:=⟨.leaf,s,St.le_refl s,h⟩
section
variable {α:Type}
inductive One(r:α→α→Prop):List α→List α→Prop
 |mk (a:List α) (x y:α) (b:List α):r y x→One r (a++y::b) (a++x::b)
theorem One.cons_inv{r:α→α→Prop}{x:α}{l m:List α}(h:One r m (x::l)):(∃y,m=y::l∧r y x)∨∃l',m=x::l'∧One r l' l:=by
 generalize hk:x::l=k at h
 obtain⟨a,u,v,b,hr⟩:=h
 cases a with
 |nil=>simp only[List.nil_append,List.cons.injEq] at hk;obtain⟨rfl,rfl⟩:=hk;exact .inl ⟨v,rfl,hr⟩
 |cons c a=>simp only[List.cons_append,List.cons.injEq] at hk;obtain⟨rfl,rfl⟩:=hk;exact .inr ⟨_,rfl,.mk a u v b hr⟩
theorem One.acc{r:α→α→Prop}:∀l:List α,(∀x∈l,Acc r x)→Acc (One r) l
 | [],_=>⟨_,fun m h=>by
  generalize hk:([]:List α)=k at h
  obtain⟨a,u,v,b,hr⟩:=h
  cases a<;>simp at hk⟩
 |x::l,h=>by
  have hl:=One.acc l fun y hy=>h y (List.mem_cons_of_mem _ hy)
  have hx:=h x (List.mem_cons_self ..)
  clear h
  induction hx generalizing l with
  |intro x hx ihx=>
   clear hx
   induction hl with
   |intro l hl ihl=>
    refine⟨_,fun m hm=>?_⟩
    rcases hm.cons_inv with ⟨y,rfl,hr⟩| ⟨l',rfl,hr⟩
    ·exact ihx y hr l ⟨_,hl⟩
    ·exact ihl l' hr
theorem One.wf{r:α→α→Prop}(h:WellFounded r):WellFounded (One r):=⟨fun l=>One.acc l fun x _=>h.apply x⟩
theorem One.set{r:α→α→Prop}{l:List α}{x y:α}(h:l[i]?=some x) (hr:r y x):One r (l.set i y) l:=by
 obtain⟨hi,rfl⟩:=List.getElem?_eq_some_iff.1 h
 have e1:l=l.take i++l[i]::l.drop (i+1):=by
  rw[List.getElem_cons_drop,List.take_append_drop]
 have e2:l.set i y=l.take i++y::l.drop (i+1):=by
  rw[List.set_eq_take_append_cons_drop,if_pos hi]
 rw[e2]
 conv=>rhs;rw[e1]
 exact .mk _ _ _ _ hr
end
open Go.ConcR (KK wgBlock WgAt stA smA rd wr)
abbrev said(m:Mark):Event:=Go.ConcR.mk m
def Pure(P:Program)(main:Bool)(Live:World→Prop)(Stop:Goroutine→Prop):Nat→Goroutine→Prop
 |0,g=>Stop g
 |n+1,g=>g.status= .running∧∃g',(∀w,Live w→stepG P main g w= .go g' w #[])∧Pure P main Live Stop n g'
structure dS(ι:Type) where
 P:Program
 ty:TypeId
 Wg:Nat
 Ch:Nat
 max:Nat
 z:Value
 os:Os
 out:Array (Nat×ByteArray)
 Uj:ι→Value→List (Nat×Obj)→Prop
section
variable {ι:Type} (E:dS ι)
def dS.live(w:World):Prop:=∃st sm,WgAt E.ty E.Wg w st sm
def dS.pure(main:Bool)(Stop:Goroutine→Prop)(g:Goroutine):Prop:=∃n,Pure E.P main E.live Stop n g
def dS.D4(g:Goroutine):Prop:=g.status= .running∧mayWake E.P g=true∧∃g',(∀w,WgAt E.ty E.Wg w 0 0→stepG E.P false g w= .go g' (w.setCell (smA E.Wg) (.int .u32 1)) (semEvents (smA E.Wg)))∧∃q,QuitsD E.P q 1 g'
def dS.D3(g:Goroutine):Prop:=g.status= .running∧∃g',(∀w,WgAt E.ty E.Wg w 1 0→stepG E.P false g w= .go g' (w.setCell (stA E.Wg) (.int .u64 0)) #[wr (stA E.Wg)])∧E.pure false E.D4 g'
def dS.D2(g:Goroutine):Prop:=g.status= .running∧∃g',(∀w,WgAt E.ty E.Wg w 1 0→stepG E.P false g w= .go g' w #[rd (stA E.Wg)])∧E.pure false E.D3 g'
def dS.D1(g:Goroutine):Prop:=g.status= .running∧∀v wt:Nat,wt≤1→v <E.max→
 ∃g',(∀w,WgAt E.ty E.Wg w (((v+1:Nat):Int)*KK+(wt:Int)) 0→stepG E.P false g w= .go g' (w.setCell (stA E.Wg) (.int .u64 ((v:Int)*KK+(wt:Int)))) #[rd (stA E.Wg),wr (stA E.Wg)])∧
  ((v=0∧wt=1)→E.pure false E.D2 g')∧(¬(v=0∧wt=1)→∃q,QuitsD E.P q 1 g')
def dS.K1(g:Goroutine):Prop:=g.status= .running∧∃g',(∀w,stepG E.P false g w= .go g' w #[said .disable])∧E.pure false E.D1 g'
def dS.R0(g:Goroutine):Prop:=g.status= .running∧∃g',(∀w,stepG E.P false g w= .go g' w #[said (.releaseMerge (stA E.Wg))])∧E.pure false E.K1 g'
def dS.Ho(g:Goroutine)(_:St):Prop:=E.pure false E.R0 g
def dS.Iv(o:ι)(g:Goroutine)(s:St):Prop:=g.status= .running∧∃p8 v zs X Y,s.rw.Perm (X++Y)∧E.Uj o v X∧
 (∀w,aU s w→stepG E.P false g w= .comm p8 #[scase E.Ch v zs] true .send w #[])∧∃tr ig,ig.le ⟨s.ro,Y⟩∧oB E.P false E.Ho tr (Conc.served p8 undef) ig
def dS.Iu(g:Goroutine)(_:St):Prop:=g.status= .running∧mayWake E.P g=true∧
 ∃g',(∀w s r tm,w.heap[E.Ch]?=some (.chan 0 #[] false s r tm)→stepG E.P false g w= .go g' {w with heap:=w.heap.setIfInBounds E.Ch (.chan 0 #[] true s r tm)} #[⟨.obj E.Ch,false,true⟩,⟨.obj E.Ch,true,true⟩])∧∃q,QuitsD E.P q 0 g'
def dS.Aq(s:St)(g:Goroutine):Prop:=g.status= .running∧∃g',(∀w,stepG E.P false g w= .go g' w #[said (.acquire (stA E.Wg))])∧∃tr ig,ig.le s∧oB E.P false E.Iu tr g' ig
def dS.Ke(s:St)(g:Goroutine):Prop:=g.status= .running∧∃g',(∀w,stepG E.P false g w= .go g' w #[said .enable])∧E.pure false (E.Aq s) g'
def dS.W4(s:St)(g:Goroutine):Prop:=g.status= .running∧∃g',(∀w,WgAt E.ty E.Wg w 0 0→stepG E.P false g w= .go g' w #[rd (stA E.Wg)])∧E.pure false (E.Ke s) g'
def dS.W3(s:St)(g:Goroutine):Prop:=g.status= .running∧g.offers=none∧(∀w st,WgAt E.ty E.Wg w st 0→stepG E.P false g w= .go {g with status:= .blocked} w #[])∧
 ∃g',(∀w,WgAt E.ty E.Wg w 0 1→stepG E.P false g w= .go g' (w.setCell (smA E.Wg) (.int .u32 0)) (semEvents (smA E.Wg)))∧E.pure false (E.W4 s) g'
def dS.Wr(s:St)(g:Goroutine):Prop:=g.status= .running∧∃g',(∀w,stepG E.P false g w= .go g' w #[said (.write (smA E.Wg))])∧E.pure false (E.W3 s) g'
def dS.W2(ahv:Goroutine→Prop)(s:St)(vs:Nat)(g:Goroutine):Prop:=g.status= .running∧
 (∃g',(∀w,WgAt E.ty E.Wg w ((vs:Int)*KK) 0→stepG E.P false g w= .go g' (w.setCell (stA E.Wg) (.int .u64 ((vs:Int)*KK+1))) #[rd (stA E.Wg),wr (stA E.Wg)])∧E.pure false (E.Wr s) g')∧
 ∀v:Nat,v <vs→∃g',(∀w,WgAt E.ty E.Wg w ((v:Int)*KK) 0→stepG E.P false g w= .go g' w #[rd (stA E.Wg)])∧ahv g'
def dS.W1(E:dS ι)(s:St):Nat→Goroutine→Prop
 |0,g=>g.status= .running∧∃g',(∀w,WgAt E.ty E.Wg w 0 0→stepG E.P false g w= .go g' w #[rd (stA E.Wg)])∧E.pure false (E.Ke s) g'
 |b+1,g=>g.status= .running∧(∃g',(∀w,WgAt E.ty E.Wg w 0 0→stepG E.P false g w= .go g' w #[rd (stA E.Wg)])∧E.pure false (E.Ke s) g')∧
  ∀v,1≤v→v≤b+1→∃g',(∀w,WgAt E.ty E.Wg w ((v:Int)*KK) 0→stepG E.P false g w= .go g' w #[rd (stA E.Wg)])∧E.pure false (E.W2 (E.pure false (E.W1 s b)) s v) g'
def dS.Kd(s:St)(g:Goroutine):Prop:=g.status= .running∧∃g',(∀w,stepG E.P false g w= .go g' w #[said .disable])∧E.pure false (E.W1 s E.max) g'
def dS.closes(s:St)(g:Goroutine):Prop:=E.pure false (E.Kd s) g
inductive WK where
 |r0|k1|d1|d2|d3|d4
inductive ar(ι:Type) where
 |leave (q d:Nat) (cur:Bool)
 |work (o:ι) (tr:Tree)
 |gA (o:ι)
 |back (tr:Tree)
 |st (k:WK) (n:Nat)
 |closer
def WK.stop:WK→Goroutine→Prop
 | .r0=>E.R0| .k1=>E.K1| .d1=>E.D1| .d2=>E.D2| .d3=>E.D3| .d4=>E.D4
def WK.deaf:WK→Nat
 | .r0| .k1=>0
 |_=>1
def WK.said:WK→Bool
 | .r0=>false
 |_=>true
def WK.Kp:WK→Nat
 | .r0=>6| .k1=>5| .d1=>4| .d2=>3| .d3=>2| .d4=>1
inductive CK where
 |kd|w1 (b:Nat)|w2 (b vs:Nat)|wr|w3|blk|w4|ke|aq|run (tr:Tree)
def CK.deaf:CK→Nat
 | .kd| .aq| .run _=>0
 |_=>1
def eH(t:Trace)(i:Nat):Prop:=∀p,t.g? p=some i→t.counts p→∃j,t.g? j=some 0∧HappensBefore t p j
def nI(t:Trace)(i:Nat)(s:St)(g:Goroutine):ar ι→Prop
 | .leave q d cur=>s=⟨fun _=>none,[]⟩∧QuitsD E.P q d g∧Deaf t i=d∧(cur=true→∃r,ConcN.RelBy (stA E.Wg) t i r)∧(cur=false→eH t i)
 | .work o tr=>Deaf t i=0∧oB E.P false (E.Iv o) tr g s
 | .gA o=>Deaf t i=0∧∃uD p8 v zs X Y,g=parked p8 #[scase E.Ch v zs] .send∧s.rw.Perm (X++Y)∧E.Uj o v X∧uD=p8∧∃tr ig,ig.le ⟨s.ro,Y⟩∧oB E.P false E.Ho tr (Conc.served p8 undef) ig
 | .back tr=>Deaf t i=0∧oB E.P false E.Ho tr g s
 | .st k n=>s=⟨fun _=>none,[]⟩∧Deaf t i=k.deaf∧Pure E.P false E.live (k.stop E) n g∧(k.said=true→∃r,ConcN.RelBy (stA E.Wg) t i r)
 | .closer=>True
def CK.at(s:St)(g:Goroutine)(n:Nat):CK→Prop
 | .kd=>Pure E.P false E.live (E.Kd s) n g
 | .w1 b=>Pure E.P false E.live (E.W1 s b) n g
 | .w2 b vs=>Pure E.P false E.live (E.W2 (E.pure false (E.W1 s b)) s vs) n g
 | .wr=>Pure E.P false E.live (E.Wr s) n g
 | .w3=>∃m,n=m+1∧Pure E.P false E.live (E.W3 s) m g
 | .blk=>n=0∧∃uD,E.W3 s uD∧g={uD with status:= .blocked}
 | .w4=>Pure E.P false E.live (E.W4 s) n g
 | .ke=>Pure E.P false E.live (E.Ke s) n g
 | .aq=>Pure E.P false E.live (E.Aq s) n g
 | .run tr=>n=0∧oB E.P false E.Iu tr g s
end
section
variable {ι:Type} {E:dS ι} {t u:Trace} {i j:Nat} {s:St} {g:Goroutine}
theorem Pure.running{Live:World→Prop}(hS:∀g,Stop g→g.status= .running):∀ {n:Nat} {g:Goroutine},Pure P main Live Stop n g→g.status= .running
 |0,_,h=>hS _ h
 |_+1,_,h=>h.1
theorem dS.pure.running(hS:∀g,Stop g→g.status= .running)(h:E.pure main Stop g):g.status= .running:=Pure.running hS h.choose_spec
theorem WK.running:∀(k:WK) (g:Goroutine),k.stop E g→g.status= .running
 | .r0,_,h=>h.1
 | .k1,_,h=>h.1
 | .d1,_,h=>h.1
 | .d2,_,h=>h.1
 | .d3,_,h=>h.1
 | .d4,_,h=>h.1
theorem oB.running{Stop:Goroutine→St→Prop}(hS:∀g s,Stop g s→g.status= .running):∀ {tr:Tree} {g:Goroutine} {s:St},oB P main Stop tr g s→g.status= .running
 | .leaf,_,_,h=>hS _ _ h
 | .node _,_,_,h=>h.1
theorem eH.other(h:eH t j)(hu:∀op∈u,op.g≠j):eH (t++u) j:=by
 intro p hp hc
 obtain⟨op,ho,hg⟩:=Option.map_eq_some_iff.1 hp
 rcases getElem?_append_cases ho with ⟨cK,_⟩| ⟨_,hm⟩
 ·obtain⟨q,h1,h2⟩:=h p (by rw[←g?_old (u:=u) cK];exact hp) ((counts_old cK).1 hc)
  have hq:q <t.size:=by
   obtain⟨o,ho,_⟩:=Option.map_eq_some_iff.1 h1
   exact lt_size_of_getElem? ho
  exact⟨q,by rw[g?_old hq];exact h1,hb_app u h2⟩
 ·exact absurd hg (hu op hm)
theorem RelBy.other{a:Addr}{r:Nat}(h:ConcN.RelBy a t j r)(hu:∀op∈u,op.g≠j):ConcN.RelBy a (t++u) j r:=by
 refine h.app fun p hp hg=>?_
 obtain⟨op,ho,hgo⟩:=Option.map_eq_some_iff.1 hg
 rcases getElem?_append_cases ho with ⟨cK,_⟩| ⟨_,hm⟩
 ·omega
 ·exact absurd hgo (hu op hm)
theorem gP(t:Trace){g:Nat}(u:Trace)(hu:∀op∈u,op.g≠g):Deaf (t++u) g=Deaf t g:=by
 obtain⟨l⟩:=u
 rw[Deaf_append]
 induction l generalizing t with
 |nil=>rfl
 |cons y l ih=>
  have hy:y.g≠g:=hu y (by simp)
  have e1:deafStep g (Deaf t g) y=Deaf t g:=by
   unfold deafStep
   split<;>simp[hy]
  rw[List.foldl_cons,e1]
  exact ih t (fun op aB=>hu op (by simp at aB ⊢;exact .inr aB))
theorem nI.other{r:ar ι}(h:nI E t j s g r)(hu:∀op∈u,op.g≠j):nI E (t++u) j s g r:=by
 have hd:=gP t u hu
 cases r with
 |leave q d cur=>exact⟨h.1,h.2.1,by rw[hd];exact h.2.2.1,fun hc=>let ⟨r,hr⟩:=h.2.2.2.1 hc;⟨r,RelBy.other hr hu⟩,fun hc=>(h.2.2.2.2 hc).other hu⟩
 |work o tr=>exact⟨by rw[hd];exact h.1,h.2⟩
 |gA o=>exact⟨by rw[hd];exact h.1,h.2⟩
 |back tr=>exact⟨by rw[hd];exact h.1,h.2⟩
 |st k n=>exact⟨h.1,by rw[hd];exact h.2.1,h.2.2.1,fun hc=>let ⟨r,hr⟩:=h.2.2.2 hc;⟨r,RelBy.other hr hu⟩⟩
 |closer=>trivial
theorem nI.running{r:ar ι}(h:nI E t j s g r)(h1:∀o,r≠ .gA o)(h2:r≠ .closer):g.status= .running∨g.status= .finished:=by
 cases r with
 |leave q d cur=>exact h.2.1.status
 |work o tr=>exact .inl (oB.running (fun _ _ x=>x.1) h.2)
 |gA o=>exact absurd rfl (h1 o)
 |back tr=>exact .inl (oB.running (fun _ _ x=>dS.pure.running (fun _ y=>y.1) x) h.2)
 |st k n=>exact .inl (Pure.running (WK.running k) h.2.2.1)
 |closer=>exact absurd rfl h2
theorem nI.woken{r:ar ι}(h:nI E t j s g r)(h2:r≠ .closer){a a':Goroutine}(ho:(∃o,r= .gA o)→∃sn rc tm,w'.heap[E.Ch]?=some (.chan 0 #[] false sn rc tm)):
 woken E.P a a' w' g=g:=by
 by_cases hb:∃o,r= .gA o
 ·obtain⟨sn,rc,tm,hc⟩:=ho hb
  obtain⟨o,rfl⟩:=hb
  obtain⟨_,uD,p8,v,zs,X,Y,rfl,_⟩:=h
  exact woken_send_open a a' hc
 ·have:=h.running (fun o e=>hb ⟨o,e⟩) h2
  unfold Go.Conc.woken
  split
  ·exact again_running _ this
  ·rfl
def Uk(w w':World):Prop:=w'.os=w.os∧w'.output=w.output
structure Base(E:dS ι)(L:Nat→Option Obj)(K:Nat→St)(gs:Array Goroutine)(w:World)(t:Trace)(D:List (ar ι)):Prop where
 fit:Fit L K w t
 size:gs.size=D.length+1
 ok:∀i r,D[i]?=some r→∃g,gs[i+1]?=some g∧nI E t (i+1) (K (i+1)) g r
 far:∀i,gs.size≤i→∀b,¬(K i).knows b
 ops:∀op∈t,op.g <gs.size
 same:w.os=E.os∧w.output=E.out
theorem fY{k:Nat}{x:Goroutine}(hki:k≠i)(hk:gs[k]?=some x):((gs.map (woken P g g' w')).setIfInBounds i g')[k]?=some (woken P g g' w' x):=by
 rw[Array.getElem?_setIfInBounds_ne (Ne.symm hki)];simp[hk]
theorem Base.step{L:Nat→Option Obj}{K:Nat→St}{w:World}{D:List (ar ι)}(h:Base E L K gs w t D){r':ar ι}(hi:i <D.length) 
 (hu:∀op∈u,op.g=i+1)(O9:Uk w w')(oW:Fit L (fL K (i+1) s') w' (t++u))(hr:nI E (t++u) (i+1) s' g' r')
 (ho:∀(k:Nat) (o:ι),k≠i→D[k]?=some (.gA o)→∃sn rc tm,w'.heap[E.Ch]?=some (.chan 0 #[] false sn rc tm)):
 Base E L (fL K (i+1) s') ((gs.map (woken E.P g g' w')).setIfInBounds (i+1) g') w' (t++u) (D.set i r'):=by
 refine⟨oW,by simp[h.size],fun k r hk=>?_,fun k hk=>?_,fun op aB=>?_,⟨O9.1.trans h.same.1,O9.2.trans h.same.2⟩⟩
 ·by_cases e:k=i
  ·subst e
   have lI:r=r':=by simpa [List.getElem?_set,hi] using hk.symm
   subst lI
   exact⟨g',by simp[h.size,hi],by rw[aF];exact hr⟩
  ·rw[List.getElem?_set_ne (Ne.symm e)] at hk
   obtain⟨x,hx,fg⟩:=h.ok k r hk
   have eg:k+1≠i+1:=by omega
   rw[aH K s' eg]
   have Yx:=fg.other (u:=u) fun op aB=>by rw[hu op aB];omega
   by_cases hc:r= .closer
   ·subst hc;exact⟨_,fY eg hx,trivial⟩
   ·refine⟨x,?_,Yx⟩
    rw[fY eg hx,fg.woken hc fun⟨o,e'⟩=>ho k o e (e'▸hk)]
 ·rw[Array.size_setIfInBounds,Array.size_map] at hk
  rw[aH K s' (by have:=h.size;omega)]
  exact h.far k hk
 ·rw[Array.size_setIfInBounds,Array.size_map]
  rcases Array.mem_append.1 aB with h'|h'
  ·exact h.ops op h'
  ·rw[hu op h',h.size];omega
end
def ar.cnt:ar ι→Nat
 | .work .. | .gA _| .back _| .st .r0 _| .st .k1 _| .st .d1 _=>1
 |_=>0
def ar.c4:ar ι→Nat
 | .st .d2 _=>1
 |_=>0
def ar.c3:ar ι→Nat
 | .st .d3 _=>1
 |_=>0
def ar.c2:ar ι→Nat
 | .st .d4 _=>1
 |_=>0
def ar.U9:ar ι→Option ι
 | .work o _| .gA o=>some o
 |_=>none
def ar.early:ar ι→Prop
 | .leave _ _ c=>c=false
 | .work .. | .gA _=>True
 |_=>False
def ar.cur:ar ι→Bool
 | .leave _ _ c=>c
 |_=>false
def ar.left:ar ι→Bool
 | .leave .. =>true
 |_=>false
def fx(f:ar ι→Nat)(D:List (ar ι)):Nat:=(D.map f).sum
theorem jB(f:ar ι→Nat){x y:ar ι}:∀ {D:List (ar ι)} {i:Nat},D[i]?=some x→fx f (D.set i y)+f x=fx f D+f y
 | [],i,h=>by simp at h
 |a::D,0,h=>by simp only[List.getElem?_cons_zero,Option.some.injEq] at h;subst h;simp[fx];omega
 |a::D,i+1,h=>by
  have:=jB f (y:=y) (D:=D) (i:=i) (by simpa using h)
  simp only[fx,List.set_cons_succ,List.map_cons,List.sum_cons] at this ⊢;omega
def CK.early:CK→Prop
 | .kd| .w1 _| .w2 .. | .wr=>True
 |_=>False
def CK.waits:CK→Prop
 | .wr| .w3| .blk=>True
 |_=>False
def CK.over:CK→Prop
 | .w4| .ke| .aq| .run _=>True
 |_=>False
inductive Md(mx:Nat):(n n4 n3 n2:Nat)→Option CK→Int→Int→Prop
 |start {n:Nat}:Md mx n 0 0 0 none ((n:Int)*KK) 0
 |kd {n:Nat}:Md mx n 0 0 0 (some .kd) ((n:Int)*KK) 0
 |w1 {n b:Nat}:n≤b→Md mx n 0 0 0 (some (.w1 b)) ((n:Int)*KK) 0
 |w2 {n b v:Nat}:n≤v→1≤v→v≤b+1→Md mx n 0 0 0 (some (.w2 b v)) ((n:Int)*KK) 0
 |reg {n:Nat} {c:CK}:c.waits→1≤n→Md mx n 0 0 0 (some c) ((n:Int)*KK+1) 0
 |l4 {c:CK}:c.waits→Md mx 0 1 0 0 (some c) 1 0
 |l3 {c:CK}:c.waits→Md mx 0 0 1 0 (some c) 1 0
 |l2 {c:CK}:c.waits→Md mx 0 0 0 1 (some c) 0 0
 |sema {c:CK}:c.waits→c≠ .blk→Md mx 0 0 0 0 (some c) 0 1
 |over {c:CK}:c.over→Md mx 0 0 0 0 (some c) 0 0
section
variable {ι:Type} (E:dS ι)
def AcqAll(t:Trace)(D:List (ar ι))(ic:Nat):Prop:=
 ∃q,t.act? q=some (.mark (.acquire (stA E.Wg)))∧t.g? q=some (ic+1)∧t.heard q∧∀(i:Nat) (r:ar ι),D[i]?=some r→r.cur=true→∃p,ConcN.RelBy (stA E.Wg) t (i+1) p∧p <q
def dS.At(x:Touch):Prop:=blk x.loc=some E.Wg∨blk x.loc=some E.Ch
abbrev yX:=Option (Nat×CK×Nat)
def ahE(K:Nat→St)(gs:Array Goroutine)(t:Trace)(D:List (ar ι)):yX→Prop
 |none=>∀r∈D,r.early
 |some (ic,c,n)=>D[ic]?=some .closer∧(∀k,D[k]?=some .closer→k=ic)∧Deaf t (ic+1)=c.deaf∧(∃gc,gs[ic+1]?=some gc∧c.at E (K (ic+1)) gc n)∧((∃tr,c= .run tr)→AcqAll E t D ic)
def aTN(t:Trace):yX→Prop
 |none=>∀p x,touchAt t p=some x→blk x.loc=some E.Wg→x.kind= .said→Knows t 0 p
 |some (ic,c,_)=>c.early→∀p x,touchAt t p=some x→blk x.loc=some E.Wg→x.kind= .said→Knows t (ic+1) p
structure Sy(L:Nat→Option Obj)(K:Nat→St)(gs:Array Goroutine)(w:World)(t:Trace)(D:List (ar ι))(pend:Nat)(cl:yX):Prop where
 kW:∀i,¬(K i).knows E.Wg
 kC:∀i,¬(K i).knows E.Ch
 lW:L E.Wg=none
 lC:L E.Ch=none
 ne:E.Wg≠E.Ch
 norel:∀a,NoRelease a t
 plain:∀i,(i=0∨∃k r,i=k+1∧D[k]?=some r∧r.left=false)→∀p x,touchAt t p=some x→E.At x→x.kind= .plain→Knows t i p
 said:aTN E t cl
 cells:∃st sm,WgAt E.ty E.Wg w st sm∧Md E.max (fx ar.cnt D+pend) (fx ar.c4 D) (fx ar.c3 D) (fx ar.c2 D) (cl.map (·.2.1)) st sm
 Bw:fx ar.cnt D+pend≤E.max
 chan:∃sn rc tm,w.heap[E.Ch]?=some (.chan 0 #[] false sn rc tm)
 bal:∀sn rc tm,w.heap[E.Ch]?=some (.chan 0 #[] false sn rc tm)→sn=rc
 DF:ahE E K gs t D cl
end
inductive yN:yX→yX→Prop
 |same (c:yX):yN c c
 |up (ic:Nat):yN (some (ic,.blk,0)) (some (ic,.w3,1))
section
variable {ι:Type} {E:dS ι}
theorem CK.tS:∀ {c:CK},c.at E s g n→c≠ .blk→g.status= .running
 | .kd,h,_=>Pure.running (fun _ x=>x.1) h
 | .w1 b,h,_=>Pure.running (fun _ x=>by cases b<;>exact x.1) h
 | .w2 _ _,h,_=>Pure.running (fun _ x=>x.1) h
 | .wr,h,_=>Pure.running (fun _ x=>x.1) h
 | .w3,⟨_,_,h⟩,_=>Pure.running (fun _ x=>x.1) h
 | .blk,_,h=>absurd rfl h
 | .w4,h,_=>Pure.running (fun _ x=>x.1) h
 | .ke,h,_=>Pure.running (fun _ x=>x.1) h
 | .aq,h,_=>Pure.running (fun _ x=>x.1) h
 | .run _,⟨_,h⟩,_=>oB.running (fun _ _ x=>x.1) h
theorem CK.tries{c:CK}{gc:Goroutine}(h:c.at E s gc n)(a a':Goroutine)(w':World):
 ∃c' n',yN (some (ic,c,n)) (some (ic,c',n'))∧c'.at E s (woken E.P a a' w' gc) n'∧(mayWake E.P a=true→(a'.status= .running∨a'.status= .finished)→c'≠ .blk)∧c'.deaf=c.deaf:=by
 by_cases hb:c= .blk
 ·subst hb
  obtain⟨rfl,uD,hg,rfl⟩:=h
  by_cases hw:(mayWake E.P a&&a'.status != .blocked&&a'.status != .waiting)=true
  ·refine⟨.w3,1,.up ic,⟨0,rfl,?_⟩,fun _ _=>by simp,rfl⟩
   have:woken E.P a a' w' {uD with status:= .blocked}=uD:=by
    have h1:=hg.1;have h2:=hg.2.1
    obtain⟨f,cs,stt,dy,of⟩:=uD
    simp only at h1 h2
    subst h1 h2
    simp[Go.Conc.woken,hw,Goroutine.again]
   rw[this];exact hg
  ·refine⟨.blk,0,.same _,⟨rfl,uD,hg,by simp[Go.Conc.woken,hw]⟩,fun h1 h2=>absurd ?_ hw,rfl⟩
   rcases h2 with h2|h2<;>simp[h1,h2]
 ·refine⟨c,n,.same _,?_,fun _ _=>hb,rfl⟩
  have:woken E.P a a' w' gc=gc:=by
   unfold Go.Conc.woken
   split
   ·exact again_running _ (.inl (CK.tS h hb))
   ·rfl
  rw[this];exact h
end
section
variable {ι:Type} {E:dS ι} {L:Nat→Option Obj} {K:Nat→St} {gs:Array Goroutine} {w w':World} {t u:Trace} {D:List (ar ι)} {pend:Nat} {cl:yX}
theorem AcqAll.step{r r':ar ι}(h:AcqAll E t D ic)(hi:D[i]?=some r) (hu:∀op∈u,op.g=i+1) (Gh:r'.cur=true→r.cur=true)
 (ia:r'.cur=true→∀p,ConcN.RelBy (stA E.Wg) t (i+1) p→ConcN.RelBy (stA E.Wg) (t++u) (i+1) p):AcqAll E (t++u) (D.set i r') ic:=by
 obtain⟨q,h1,h2,h3,h4⟩:=h
 have hq:=lt_of_act? h1
 refine⟨q,by rw[act?_old hq];exact h1,by rw[g?_old hq];exact h2,(heard_old hq).2 h3,fun k x hk hc=>?_⟩
 by_cases e:k=i
 ·subst e
  have cK:=(List.getElem?_eq_some_iff.1 hi).1
  have:r'=x:=by simpa [List.getElem?_set,cK] using hk
  subst this
  obtain⟨p,hp,VS⟩:=h4 k r hi (Gh hc)
  exact⟨p,ia hc p hp,VS⟩
 ·rw[List.getElem?_set_ne (Ne.symm e)] at hk
  obtain⟨p,hp,VS⟩:=h4 k x hk hc
  exact⟨p,RelBy.other hp (fun op aB=>by rw[hu op aB];omega),VS⟩
theorem Q7(kM:∀op∈u,∀x,op.act.touch?=some x→E.At x→x.kind= .atomic){x:Touch}(hx:touchAt (t++u) p=some x)(hb:E.At x)(hk:x.kind≠ .atomic):
 touchAt t p=some x:=by
 rcases bF hx with ⟨_,h'⟩| ⟨_,op,hm,_,xp⟩
 ·exact h'
 ·exact absurd (kM op hm x xp hb) hk
theorem Sy.step(h:Sy E L K gs w t D pend cl)(uA:gs.size=D.length+1){r r':ar ι}(hi:D[i]?=some r) (CE:r≠ .closer) (SW:r'≠ .closer)
 (hu:∀op∈u,op.g=i+1) (cy:¬s'.knows E.Wg) (pY:¬s'.knows E.Ch) (uL:w'.heap[E.Ch]?=w.heap[E.Ch]?)
 (kM:∀op∈u,∀x,op.act.touch?=some x→E.At x→x.kind= .atomic) (ir:∀op∈u,∀a,op.act≠ .mark (.release a))
 (xq:r'.left=false→r.left=false) (yw:r.early→r'.early) (Gh:(∃ic tr n,cl=some (ic,.run tr,n))→r'.cur=true→r.cur=true)
 (ia:r.cur=true→∀p,ConcN.RelBy (stA E.Wg) t (i+1) p→ConcN.RelBy (stA E.Wg) (t++u) (i+1) p)
 (Po:fx ar.cnt (D.set i r')≤fx ar.cnt D)
 (nz:∀cl',yN cl cl'→(mayWake E.P g=true→(g'.status= .running∨g'.status= .finished)→∀ic n,cl'≠some (ic,.blk,n))→
  ∃st sm,WgAt E.ty E.Wg w' st sm∧Md E.max (fx ar.cnt (D.set i r')+pend) (fx ar.c4 (D.set i r')) (fx ar.c3 (D.set i r')) (fx ar.c2 (D.set i r')) (cl'.map (·.2.1)) st sm):
 ∃cl',yN cl cl'∧Sy E L (fL K (i+1) s') ((gs.map (woken E.P g g' w')).setIfInBounds (i+1) g') w' (t++u) (D.set i r') pend cl':=by
 have cK:=(List.getElem?_eq_some_iff.1 hi).1
 have oI:∀ {k x},(D.set i r')[k]?=some x→(k=i∧x=r')∨(k≠i∧D[k]?=some x):=fun {k x} hk=>by
  by_cases e:k=i
  ·subst e
   exact .inl ⟨rfl,by simpa [List.getElem?_set,cK] using hk.symm⟩
  ·rw[List.getElem?_set_ne (Ne.symm e)] at hk;exact .inr ⟨e,hk⟩
 have HB:∀b,¬s'.knows b→(∀j,¬(K j).knows b)→∀j,¬(fL K (i+1) s' j).knows b:=fun b h1 h2 j=>by
  by_cases e:j=i+1
  ·subst e;rw[aF];exact h1
  ·rw[aH _ _ e];exact h2 j
 have yy:∀ic,ic≠i→Deaf (t++u) (ic+1)=Deaf t (ic+1):=fun ic eg=>gP t u fun op aB=>by rw[hu op aB];omega
 obtain⟨cl',Dl,aPm,iT⟩:∃cl',yN cl cl'∧(mayWake E.P g=true→(g'.status= .running∨g'.status= .finished)→∀ic n,cl'≠some (ic,.blk,n))∧
  ahE E (fL K (i+1) s') ((gs.map (woken E.P g g' w')).setIfInBounds (i+1) g') (t++u) (D.set i r') cl':=by
  have hc:=h.DF
  match cl,hc,Gh with
  |none,hc,_=>
   refine⟨none,.same _,fun _ _ _ _=>by simp,fun x hx=>?_⟩
   obtain⟨k,hk⟩:=List.getElem?_of_mem hx
   rcases oI hk with ⟨_,rfl⟩| ⟨_,jD⟩
   ·exact yw (hc r (List.mem_of_getElem? hi))
   ·exact hc x (List.mem_of_getElem? jD)
  |some (ic,c,n),⟨h1,h2,h3,⟨gc,hg,py⟩,h5⟩,Gh=>
   have eg:ic≠i:=fun e=>by subst e;rw[hi] at h1;exact CE (Option.some.inj h1)
   obtain⟨c',n',hw,atI,hm,hdc⟩:=CK.tries (ic:=ic) py g g' w'
   refine⟨some (ic,c',n'),hw,fun a b ic' n'' e=>hm a b (by cases e;rfl),by rw[List.getElem?_set_ne (Ne.symm eg)];exact h1,fun k hk=>?_,by rw[yy ic eg,hdc];exact h3,⟨_,fY (by omega) hg,by rw[aH _ _ (by omega)];exact atI⟩,fun⟨tr,htr⟩=>?_⟩
   ·rcases oI hk with ⟨_,e⟩| ⟨_,jD⟩
    ·exact absurd e.symm SW
    ·exact h2 k jD
   ·subst htr
    cases hw with
    |same=>
     have QT:=Gh ⟨_,_,_,rfl⟩
     exact(h5 ⟨tr,rfl⟩).step hi hu QT fun hc p hp=>ia (QT hc) p hp
 refine⟨cl',Dl,⟨HB _ cy h.kW,HB _ pY h.kC,h.lW,h.lC,h.ne,fun a=>(h.norel a).app fun op aB=>ir op aB a,fun j hj p x hx hb hk=>?_,?_,nz cl' Dl aPm,Nat.le_trans (Nat.add_le_add_right Po _) h.Bw,?_,fun sn rc tm hc=>h.bal sn rc tm (by rw[←uL];exact hc),iT⟩⟩
 ·refine(h.plain j ?_ p x (Q7 kM hx hb (by rw[hk];simp)) hb hk).app u
  rcases hj with hj| ⟨k,y,rfl,jD,hl⟩
  ·exact .inl hj
  ·rcases oI jD with ⟨rfl,rfl⟩| ⟨_,as2⟩
   ·exact .inr ⟨_,r,rfl,hi,xq hl⟩
   ·exact .inr ⟨k,y,rfl,as2,hl⟩
 ·have hs:=h.said
  match cl,cl',Dl,hs with
  |none,_,.same _,hs=>exact fun p x hx hb hk=>(hs p x (Q7 kM hx (.inl hb) (by rw[hk];simp)) hb hk).app u
  |some (ic,c,n),_,.same _,hs=>exact fun he p x hx hb hk=>(hs he p x (Q7 kM hx (.inl hb) (by rw[hk];simp)) hb hk).app u
  |_,_,.up ic,_=>exact fun he=>he.elim
 ·obtain⟨sn,rc,tm,hc⟩:=h.chan
  exact⟨sn,rc,tm,by rw[uL];exact hc⟩
end
def ar.mu:ar ι→Nat×Tree×Nat
 | .closer=>(10,.leaf,0)
 | .work _ tr=>(9,tr,0)
 | .gA _=>(8,.leaf,0)
 | .back tr=>(7,tr,0)
 | .st k n=>(k.Kp,.leaf,n)
 | .leave q _ _=>(0,.leaf,q)
abbrev DK:Nat×Tree×Nat→Nat×Tree×Nat→Prop:=Prod.Lex (· < ·) (Prod.Lex Tree.Lt (· < ·))
theorem DK.wf:WellFounded DK:=(Prod.lex ⟨_,Nat.lt_wfRel.wf⟩ (Prod.lex ⟨_,Tree.wf⟩ ⟨_,Nat.lt_wfRel.wf⟩)).wf
def tU(a b:ar ι):Prop:=DK a.mu b.mu
theorem tU.wf:WellFounded (tU (ι:=ι)):=InvImage.wf ar.mu DK.wf
theorem fR{a b:Nat×Tree×Nat}(h:a.1 <b.1):DK a b:=by
 obtain⟨a1,a2⟩:=a;obtain⟨b1,b2⟩:=b
 exact Prod.Lex.left _ _ h
theorem Fv{a b:Tree}{x y:Nat}(h:Tree.Lt a b):DK (n,a,x) (n,b,y):=Prod.Lex.right _ (Prod.Lex.left _ _ h)
theorem D5{a:Tree}{x y:Nat}(h:x <y):DK (n,a,x) (n,a,y):=Prod.Lex.right _ (Prod.Lex.right _ h)
section
variable {ι:Type} {E:dS ι}
def iD(E:dS ι)(e:Event):Prop:=e=said .disable∨e=said .enable∨e=said (.releaseMerge (stA E.Wg))∨e=said (.acquire (stA E.Wg))∨∃a wr,e=⟨.cell a,wr,true⟩∧a.block=E.Wg
theorem iD.ops{es:Array Event}(h:∀e∈es,iD E e)(i:Nat)(fn:FuncId)(pos:String):∀op∈MemOp.ofEvents i fn pos es,
 op.g=i∧(∀a,op.act≠ .mark (.release a))∧∀x,op.act.touch?=some x→blk x.loc=some E.Wg∧x.kind= .atomic:=by
 intro op aB
 rw[ofEvents_eq] at aB
 obtain⟨e,he,rfl⟩:=Array.mem_map.1 aB
 rcases h e he with rfl|rfl|rfl|rfl| ⟨a,wr,rfl,ha⟩
 ·exact⟨rfl,fun a=>by simp[said,Go.ConcR.mk,MemAct.ofEvent],fun x hx=>by cases hx⟩
 ·exact⟨rfl,fun a=>by simp[said,Go.ConcR.mk,MemAct.ofEvent],fun x hx=>by cases hx⟩
 ·exact⟨rfl,fun a=>by simp[said,Go.ConcR.mk,MemAct.ofEvent],fun x hx=>by cases hx⟩
 ·exact⟨rfl,fun a=>by simp[said,Go.ConcR.mk,MemAct.ofEvent],fun x hx=>by cases hx⟩
 ·refine⟨rfl,fun a=>by cases wr<;>simp[MemAct.ofEvent],fun x hx=>?_⟩
  cases wr<;>(simp only[MemAct.ofEvent,MemAct.touch?,Option.some.injEq] at hx;subst hx;exact⟨by simp[blk,ha],rfl⟩)
theorem Ja{es:Array Event}(h:∀e∈es,Event.mute e=true):∀op∈MemOp.ofEvents i fn pos es,op.act.touch?=none:=by
 intro op aB
 rw[ofEvents_eq] at aB
 obtain⟨e,he,rfl⟩:=Array.mem_map.1 aB
 have:=h e he
 obtain⟨loc,wr,sy⟩:=e
 cases loc with
 |mark m=>cases m<;>first|rfl| (simp[Event.mute] at this)
 |_=>simp[Event.mute] at this
theorem OM{es:Array Event}(h:∀e∈es,Event.mute e=true)(a:Addr):∀op∈MemOp.ofEvents i fn pos es,op.act≠ .mark (.release a):=by
 intro op aB
 rw[ofEvents_eq] at aB
 obtain⟨e,he,rfl⟩:=Array.mem_map.1 aB
 have:=h e he
 obtain⟨loc,wr,sy⟩:=e
 cases loc with
 |mark m=>cases m<;>first| (simp[MemAct.ofEvent];done)| (simp[Event.mute] at this)
 |_=>simp[Event.mute] at this
variable {L:Nat→Option Obj} {K:Nat→St} {gs:Array Goroutine} {w w':World} {t:Trace} {D:List (ar ι)} {pend d0:Nat} {cl:yX} {main:Goroutine} {sl:Option (Nat×Nat)}
structure Inv(E:dS ι)(L:Nat→Option Obj)(K:Nat→St)(gs:Array Goroutine)(w:World)(t:Trace)(D:List (ar ι))(pend:Nat)(cl:yX)(main:Goroutine)(d0:Nat):Prop where
 base:Base E L K gs w t D
 sy:Sy E L K gs w t D pend cl
 main:gs[0]?=some main
 deaf:Deaf t 0=d0
def gF(E:dS ι)(main:Goroutine):Prop:=main.status= .running∨∃m z,main=parked m #[rcase E.Ch z] (.recv true)
theorem gF.woken{main:Goroutine}(h:gF E main)(a a':Goroutine){sn rc:Nat}{tm:Bool}(hc:w'.heap[E.Ch]?=some (.chan 0 #[] false sn rc tm)):woken E.P a a' w' main=main:=by
 rcases h with h| ⟨m,z,rfl⟩
 ·unfold Go.Conc.woken
  split
  ·exact again_running _ (.inl h)
  ·rfl
 ·exact woken_recv_open a a' hc
def ko(D:List (ar ι)):List ι:=D.filterMap ar.U9
theorem Ff{r r':ar ι}(ho:r'.U9=r.U9):∀ {D:List (ar ι)} {i:Nat},D[i]?=some r→ko (D.set i r')=ko D
 | [],i,h=>by simp at h
 |a::D,0,h=>by simp only[List.getElem?_cons_zero,Option.some.injEq] at h;subst h;simp[ko,List.filterMap_cons,ho]
 |a::D,i+1,h=>by
  have:=Ff ho (D:=D) (i:=i) (by simpa using h)
  simp only[ko,List.set_cons_succ,List.filterMap_cons] at this ⊢
  rw[this]
def qn(E:dS ι)(L:Nat→Option Obj)(K:Nat→St)(D:List (ar ι))(pend:Nat)(cl:yX)(main:Goroutine)(d0:Nat)(m:Machine)(sl:Option (Nat×Nat))(t:Trace)(i:Nat):Prop:=
 ∃K' kR w' u D' cl',runT E.P m i=(.next (crowd kR w' sl),u)∧Inv E L K' kR w' (t++u) D' pend cl' main d0∧K' 0=K 0∧ko D'=ko D∧One tU D' D∧(cl=none→cl'=none)∧(cl≠none→cl'≠none)∧(∀o,ar.gA o∈D'→ar.gA o∈D∨main.status= .running)
theorem Inv.go'(h:Inv E L K gs w t D pend cl main d0)(hm:gF E main){r r':ar ι}(hi:D[i]?=some r) (CE:r≠ .closer) (SW:r'≠ .closer)
 (hg:gs[i+1]?=some g) (hu:∀op∈u,op.g=i+1)
 (bV:runT E.P (crowd gs w sl) (i+1)=(.next (crowd ((gs.map (woken E.P g g' w')).setIfInBounds (i+1) g') w' sl),u)) (O9:Uk w w')
 (cy:¬s'.knows E.Wg) (pY:¬s'.knows E.Ch) (uL:w'.heap[E.Ch]?=w.heap[E.Ch]?)
 (oW:Fit L (fL K (i+1) s') w' (t++u)) (hr:nI E (t++u) (i+1) s' g' r')
 (kM:∀op∈u,∀x,op.act.touch?=some x→E.At x→x.kind= .atomic)
 (ir:∀op∈u,∀a,op.act≠ .mark (.release a))
 (xq:r'.left=false→r.left=false) (yw:r.early→r'.early) (Gh:(∃ic tr n,cl=some (ic,.run tr,n))→r'.cur=true→r.cur=true)
 (ia:r.cur=true→∀p,ConcN.RelBy (stA E.Wg) t (i+1) p→ConcN.RelBy (stA E.Wg) (t++u) (i+1) p)
 (Du:r'.cnt≤r.cnt) (aei:r'.U9=r.U9) (QN:tU r' r)
 (nz:∀cl',yN cl cl'→(mayWake E.P g=true→(g'.status= .running∨g'.status= .finished)→∀ic n,cl'≠some (ic,.blk,n))→
  ∃st sm,WgAt E.ty E.Wg w' st sm∧Md E.max (fx ar.cnt (D.set i r')+pend) (fx ar.c4 (D.set i r')) (fx ar.c3 (D.set i r')) (fx ar.c2 (D.set i r')) (cl'.map (·.2.1)) st sm)
 (Ys:(∃o,r'= .gA o)→main.status= .running:=by rintro⟨o,e⟩;cases e):
 qn E L K D pend cl main d0 (crowd gs w sl) sl t (i+1):=by
 have cK:=(List.getElem?_eq_some_iff.1 hi).1
 obtain⟨sn,rc,tm,hc⟩:=h.sy.chan
 have sC:w'.heap[E.Ch]?=some (.chan 0 #[] false sn rc tm):=by rw[uL];exact hc
 have V9:=h.base.step (g:=g) cK hu O9 oW hr fun _ _ _ _=>⟨sn,rc,tm,sC⟩
 have Po:fx ar.cnt (D.set i r')≤fx ar.cnt D:=by have:=jB ar.cnt (y:=r') hi;omega
 obtain⟨cl',Dl,hsy⟩:=h.sy.step h.base.size hi CE SW hu cy pY uL kM ir xq yw Gh ia Po nz
 refine⟨_,_,w',_,_,cl',bV,⟨V9,hsy,?_,?_⟩,aH _ _ (by omega),Ff aei hi,One.set hi QN,fun e=>?_,fun e=>?_,fun o ho=>?_⟩
 ·rw[fY (by omega) h.main,hm.woken _ _ sC]
 ·rw[gP _ _ fun op aB=>by rw[hu op aB];omega];exact h.deaf
 ·subst e;cases Dl;rfl
 ·cases Dl with
  |same=>exact e
  |up ic=>simp
 ·rcases List.mem_or_eq_of_mem_set ho with h'|h'
  ·exact .inl h'
  ·exact .inr (Ys ⟨o,h'.symm⟩)
theorem Inv.go(h:Inv E L K gs w t D pend cl main d0)(hm:gF E main){r r':ar ι}{es:Array Event}(hi:D[i]?=some r) (CE:r≠ .closer) (SW:r'≠ .closer)
 (hg:gs[i+1]?=some g) (hgo:stepG E.P false g w= .go g' w' es) (O9:Uk w w')
 (cy:¬s'.knows E.Wg) (pY:¬s'.knows E.Ch) (uL:w'.heap[E.Ch]?=w.heap[E.Ch]?)
 (oW:Fit L (fL K (i+1) s') w' (t++MemOp.ofEvents (i+1) g.frame.fn g.frame.place es)) (hr:nI E (t++MemOp.ofEvents (i+1) g.frame.fn g.frame.place es) (i+1) s' g' r')
 (kM:∀op∈MemOp.ofEvents (i+1) g.frame.fn g.frame.place es,∀x,op.act.touch?=some x→E.At x→x.kind= .atomic)
 (ir:∀op∈MemOp.ofEvents (i+1) g.frame.fn g.frame.place es,∀a,op.act≠ .mark (.release a))
 (xq:r'.left=false→r.left=false) (yw:r.early→r'.early) (Gh:(∃ic tr n,cl=some (ic,.run tr,n))→r'.cur=true→r.cur=true)
 (ia:r.cur=true→∀p,ConcN.RelBy (stA E.Wg) t (i+1) p→ConcN.RelBy (stA E.Wg) (t++MemOp.ofEvents (i+1) g.frame.fn g.frame.place es) (i+1) p)
 (Du:r'.cnt≤r.cnt) (aei:r'.U9=r.U9) (QN:tU r' r)
 (nz:∀cl',yN cl cl'→(mayWake E.P g=true→(g'.status= .running∨g'.status= .finished)→∀ic n,cl'≠some (ic,.blk,n))→
  ∃st sm,WgAt E.ty E.Wg w' st sm∧Md E.max (fx ar.cnt (D.set i r')+pend) (fx ar.c4 (D.set i r')) (fx ar.c3 (D.set i r')) (fx ar.c2 (D.set i r')) (cl'.map (·.2.1)) st sm)
 (Ys:(∃o,r'= .gA o)→main.status= .running:=by rintro⟨o,e⟩;cases e):
 qn E L K D pend cl main d0 (crowd gs w sl) sl t (i+1):=
 h.go' hm hi CE SW hg (fun op aB=>Go.ConcR.g_of_ofEvents op aB) (runT_crowd_go (P:=E.P) (sl:=sl) (i:=i+1) hg (by simpa using hgo)) O9 cy pY uL oW hr kM ir xq yw Gh ia Du aei QN nz Ys
end
end Go.L
