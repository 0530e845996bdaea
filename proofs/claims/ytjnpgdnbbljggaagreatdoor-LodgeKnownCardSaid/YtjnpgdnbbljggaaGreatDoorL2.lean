/- Part 2 of the proof. -/
import Derived.Test.YtjnpgdnbbljggaaGreatDoorL1
import Derived.Conc.CrowdBase
import Derived.Conc.CrowdComm
import Derived.Conc.CrowdStepC
import Derived.Conc.CrowdTrace
import Derived.Conc.Holds
import Derived.Conc.Know
import Derived.Conc.MuSpec
import Derived.Conc.Own2
import Derived.Conc.QuitsD
import Derived.Conc.TokenWalk
import Derived.Conc.WrBase2
import Derived.Conc.WrWorld
set_option maxRecDepth 100000
set_option maxHeartbeats 4000000
set_option linter.all false
namespace Go.L
open Go Go.Conc
variable {s s':St} {i b n mx id it j off:Nat} {main sv ws:Bool} {cs eB:List Frame} {α:Type} {ty:TypeId} {T:Goroutine→St→Prop} {fr f jO:Frame} {Stop:Goroutine→Prop} {l:List Code} {st sm:Int} {t u:Trace} {fn:FuncId} {w':World} {ds:List Deferred} {pos:String} {ca:Array Value} {g':Goroutine} {o:Obj}
section rounds
variable {P:Program} {C:Class} {s:St}
def fg(bd:Nat):Deferred:={target:= .collected bd,args:= #[]}
def jo(fn:FuncId)(tmps:Array Value)(params:Array Tmp)(assign body:Code)(bd:Nat):Loop:={state:= .ready,pending:=none,fn,tmps,params,assign,body,defers:=bd}
def aa2(Q:Post)(a:Act)(l:Nat):Ending→St→Prop
 | .returned _,s=>DW s l fun r up=>r.state≠ .busy∧(match r.pending with
  |none=>Q .normal a (up {r with state:= .exhausted})
  |some .ret=>Q .ret a (up {r with state:= .exhausted})
  |some (.exit id)=>Q (.exit id) a (up {r with state:= .exhausted})
  |_=>False)
 | .panicked ch,s=>Q (.panic ch) a s
 | .outgrown,_=>False
theorem Bf(hC:∀main T,C main T→Closed P main T){x:Operand}{params:Array Tmp}{assign body:Code}{Q:Post}{a:Act}{g:FuncId}{fi:Array Value}(hx:a.eval x= .func (.func g) fi ca)(ff:FF P g)
 (h:∀bd bl,¬s.knows bd→¬(⟨s.ro,(bd,.deferred (some []))::s.rw⟩:St).knows bl→
  Fn C P g (fi++ #[.func (.yield bl) #[] #[]]++ca) ⟨s.ro,(bl,.loop (jo fn a.tmps params assign body bd))::(bd,.deferred (some []))::s.rw⟩ (aa2 Q {a with defers:=fg bd::a.defers} bl)):
 Wp C fn none (.rangeFunc x params assign body) Q a s:=by
 intro main T hT b k cs h1 h2 h3 h4
 have fN:=hC main T hT
 have hk:(b.kind==CallKind.early)=false:=by simpa using h2
 have vD:cu P (Instr.enterLoop fn a.tmps params assign body none) s (fun r s'=>∃bd bl,¬s.knows bd∧¬(⟨s.ro,(bd,.deferred (some []))::s.rw⟩:St).knows bl∧r=(bl,[fg bd])∧s'=⟨s.ro,(bl,.loop (jo fn a.tmps params assign body bd))::(bd,.deferred (some []))::s.rw⟩) (fun _ _=>False):=by
  simp only[Instr.enterLoop,af,py,aj]
  refine⟨rfl,?_⟩
  intro bd hbd
  refine⟨rfl,?_⟩
  intro bl hbl
  exact⟨bd,bl,hbd,hbl,rfl,rfl⟩
 refine fN.step _ _ rfl fun w rU=>?_
 obtain⟨res,es,bx,hl⟩:=gC _ _ _ _ w #[] vD rU
 rw[Array.empty_append] at bx
 cases res with
 |halt _ _=>obtain⟨_,_,hu⟩:=hl;exact hu.elim
 |ok r w1=>
  obtain⟨s1,ht1,bd,bl,hbd,hbl,rfl,rfl⟩:=hl
  have aBO:cu P (callFunc g (fi++ #[.func (.yield bl) #[] #[]]++ca)) ⟨s.ro,(bl,.loop (jo fn a.tmps params assign body bd))::(bd,.deferred (some []))::s.rw⟩ (fun nx s2=>nx= .enter g (fi++ #[.func (.yield bl) #[] #[]]++ca)∧s2=⟨s.ro,(bl,.loop (jo fn a.tmps params assign body bd))::(bd,.deferred (some []))::s.rw⟩) (fun _ _=>False):=jZ ff ⟨rfl,rfl⟩
  obtain⟨aKk,Ft,aoG,y6⟩:=gC _ _ _ _ w1 #[] aBO ht1.iX
  rw[Array.empty_append] at aoG
  cases aKk with
  |halt _ _=>obtain⟨_,_,hu⟩:=y6;exact hu.elim
  |ok nx w2=>
   obtain⟨s2,ht2,rfl,rfl⟩:=y6
   let jO:Frame:=aW b {a with defers:=fg bd::a.defers} (.inRangeFunc bl::k)
   refine⟨G (Frame.enter P g (fi++ #[.func (.yield bl) #[] #[]]++ca) .normal) (jO::cs),w2,seen P b.fn es++seen P b.fn Ft,_,?_,rfl,(ht1.sub (iz _ _ _)).trans (ht2.sub (iz _ _ _)),?_⟩
   ·have KR:(aW b {a with defers:=fg bd::a.defers} (.inRangeFunc bl::k)).eval x= .func (.func g) fi ca:=by rw[HN];exact hx
    have hdo:(do let d ←resolve (aW b {a with defers:=fg bd::a.defers} (.inRangeFunc bl::k)).eval {callee:= .value x,args:= #[.const (.func (.yield bl) #[] #[])],argTypes:= #[]} 0;invoke d.target d.args:Sem Next)=callFunc g (fi++ #[.func (.yield bl) #[] #[]]++ca):=by
     have hm:Array.map (aW b {a with defers:=fg bd::a.defers} (.inRangeFunc bl::k)).eval #[Operand.const (.func (.yield bl) #[] #[])]= #[.func (.yield bl) #[] #[]]:=by simp[Frame.eval]
     simp only[resolve,KR,Deferred.ofValue]
     rw[hm]
     rfl
    have bE:stepG P main (G (aW b a (.code (.rangeFunc x params assign body)::k)) cs) w=
     (let (r,es):=(Instr.enterLoop b.fn a.tmps params assign body b.roundOf).runT P w #[]
      GStep.after (seen P b.fn es)<|match r with
       | .ok (l,mark) w=>
        stepG.apply P true (aW b {a with defers:=mark++a.defers} (.inRangeFunc l::k)) cs none (do let d ←resolve (aW b {a with defers:=mark++a.defers} (.inRangeFunc l::k)).eval {callee:= .value x,args:= #[.const (.func (.yield l) #[] #[])],argTypes:= #[]} 0;invoke d.target d.args) w
       | .halt _ w=> .ended (.stuck "range over a function: no such loop" ((aW b a (.code (.rangeFunc x params assign body)::k)).pos P)) w):=rfl
    rw[bE,h1,h3,bx]
    simp only[List.singleton_append]
    rw[hdo]
    simp only[stepG.apply,if_true,aoG]
    simp only[aW,hk,Bool.false_eq_true,if_false,GStep.after,h1]
    simp[G,jO,aW,h1]
   refine h bd bl hbd hbl main T hT jO cs (fun v s' hv=>?_) (fun ch s' hv=>h4 _ _ _ hv _)
   obtain⟨L,r,Rr,hs,Z3,hq⟩:=hv
   have wZ:∀(jump:Option Code),r.pending=jump→T (G (aW b {a with defers:=fg bd::a.defers} ((jump.map Item.code).toList++k)) cs) ⟨s'.ro,L++(bl,.loop {r with state:= .exhausted})::Rr⟩→T (G (jO.finish v) cs) s':=by
    intro jump hj hT'
    have aBN:cu P (Instr.endLoop bl) s' (fun j s2=>j=jump∧s2=⟨s'.ro,L++(bl,.loop {r with state:= .exhausted})::Rr⟩) (fun _ _=>False):=by
     simp only[Instr.endLoop]
     refine yn hs ?_
     have hbq:(r.state==LoopState.busy)=false:=by simpa using Z3
     simp only[hbq,Bool.false_eq_true,if_false,af,aj]
     exact eL rfl hs rfl ⟨hj,rfl⟩
    refine fN.step _ _ rfl fun w rU=>?_
    obtain⟨res,es,bx,hl⟩:=gC _ _ _ _ w #[] aBN rU
    rw[Array.empty_append] at bx
    cases res with
    |halt _ _=>obtain⟨_,_,hu⟩:=hl;exact hu.elim
    |ok j w'=>
     obtain⟨s2,ht,rfl,rfl⟩:=hl
     refine⟨_,w',seen P b.fn es,_,?_,rfl,ht.sub (iz _ _ _),hT'⟩
     have aNz:stepG P main (G (jO.finish v) cs) w=(let (r,es):=(Instr.endLoop bl).runT P w #[]
      GStep.after (seen P b.fn es)<|match r with
      | .ok jump w=> .go (G (aW b {a with defers:=fg bd::a.defers} ((jump.map Item.code).toList++k)) cs) w
      | .halt (.panic v) w=> .go (G ((aW b {a with defers:=fg bd::a.defers} (.endRangeFunc bl::k)).raise [{v,recovered:=false}]) cs) w
      | .halt _ w=> .ended (.stuck "range over a function: no such loop" ((aW b {a with defers:=fg bd::a.defers} (.endRangeFunc bl::k)).pos P)) w):=rfl
     rw[aNz,bx]
     simp[GStep.after]
   split at hq
   ·rename_i hp;exact wZ none hp (h4 _ _ _ hq)
   ·rename_i hp;exact wZ _ hp (h4 _ _ _ hq k)
   ·rename_i id hp
    refine wZ _ hp ?_
    have h':=h4 _ _ _ hq
    simp only[After] at h'
    cases fe:exitTo id k with
    |some k'=>
     rw[fe] at h'
     exact fN.go rfl rfl (g':=G (aW b {a with defers:=fg bd::a.defers} k') cs) (fun w=>by simp[G,stepG,stepG.exec,aW,fe]) h'
    |none=>rw[fe] at h';exact h' k fe
   exact hq.elim
end rounds
section marks
variable {P:Program} {C:Class} {s:St}
theorem unwind_mark(hC:∀main T,C main T→Closed P main T)(hT:C main T)(hm:fr.mode= .returning∨∃ch,fr.mode= .panicking ch){bd:Nat}(hd:fr.defers=fg bd::ds)
 {L Rr:List (Nat×Obj)}(hs:s.rw=L++(bd,.deferred (some []))::Rr)(h:T (G {fr with defers:=ds} cs) ⟨s.ro,L++(bd,.deferred none)::Rr⟩):T (G fr cs) s:=by
 have vD:cu P (Instr.takeDeferred bd) s (fun c s2=>c=[]∧s2=⟨s.ro,L++(bd,.deferred none)::Rr⟩) (fun _ _=>False):=by
  simp only[Instr.takeDeferred]
  refine cQ (o:= .deferred (some [])) (.inr (by rw[hs];exact eV)) rfl rfl ?_
  exact eL rfl hs rfl ⟨rfl,rfl⟩
 refine(hC main T hT).step _ _ rfl fun w rU=>?_
 obtain⟨res,es,bx,hl⟩:=gC _ _ _ _ w #[] vD rU
 rw[Array.empty_append] at bx
 cases res with
 |halt _ _=>obtain⟨_,_,hu⟩:=hl;exact hu.elim
 |ok c w'=>
  obtain⟨s2,ht,rfl,rfl⟩:=hl
  refine⟨_,w',seen P fr.fn es,_,?_,rfl,ht.sub (iz _ _ _),h⟩
  rcases fr with ⟨fn',tmps,todo,defers,mode,kind,ro⟩
  simp only at hm hd
  subst hd
  rcases hm with rfl| ⟨ch,rfl⟩
  ·simp only[G,stepG,unwind,fg,bx,GStep.after,Array.append_empty,List.nil_append]
  simp only[G,stepG,unwind,fg,bx,GStep.after,Array.append_empty,List.nil_append]
end marks
section code
variable {P:Program} {C:Class} {fn:FuncId} {aF:Option Nat} {n LF:Nat} {F:Nat×Obj→Prop} {R:Nat→Option Obj} {call:cM}
theorem OU{Q:Post}{a:Act}(hC:∀main T,C main T→Closed P main T){c:Code}(h:Wp C fn aF c Q a s):Wp C fn aF (.scope c) Q a s:=by
 intro main T hT b k cs h1 h2 h3 h4
 refine(hC main T hT).go rfl rfl (g':=G (aW b a (.code c:: .inScope c::k)) cs) (fun w=>by simp[G,stepG,stepG.exec,aW]) ?_
 refine h main T hT b (.inScope c::k) cs h1 h2 h3 fun e a' s' q=>?_
 cases e with
 |normal=>exact(hC main T hT).go rfl rfl (g':=G (aW b a' k) cs) (fun w=>by simp[G,stepG,stepG.exec,aW]) (h4 _ _ _ q)
 |exit id=>
  have hh:exitTo id (.inScope c::k)=exitTo id k:=rfl
  have:=h4 _ _ _ q
  simp only[After,hh] at this ⊢
  exact this
 |ret=>exact h4 _ _ _ q
 |panic ch=>exact h4 _ _ _ q
 |goto l=>exact(h4 _ _ _ q).elim
 |outgrown=>exact(h4 _ _ _ q).elim
theorem wp_label{Q:Post}{a:Act}(hC:∀main T,C main T→Closed P main T){l:Nat}(h:Q .normal a s):Wp C fn aF (.label l) Q a s:=
 fun main T hT b k cs _ _ _ h4=>(hC main T hT).go rfl rfl (g':=G (aW b a k) cs) (fun w=>by simp[G,stepG,stepG.exec,aW]) (h4 _ _ _ h)
end code
section code
variable {P:Program} {C:Class} {fn:FuncId} {aF:Option Nat} {n LF:Nat} {D:List Deferred} {F:Nat×Obj→Prop} {R:Nat→Option Obj} {call:cM}
theorem iQ(hC:∀main T,C main T→Closed P main T)(hT:C main T)(hm:fr.mode= .returning∨∃ch,fr.mode= .panicking ch){f:FuncId}(ff:FF P f){a:Array Value} 
 (hd:fr.defers={target:= .fn (.func f) ca,args:=a}::ds)(h:T (G (Frame.enter P f (a++ca) .deferred) ({fr with defers:=ds}::cs)) s):T (G fr cs) s:=by
 have vD:cu P (invoke (.fn (.func f) ca) a) s (fun nx s2=>nx= .enter f (a++ca)∧s2=s) (fun _ _=>False):=by
  simp only[invoke]
  exact jZ ff ⟨rfl,rfl⟩
 refine(hC main T hT).step _ _ rfl fun w rU=>?_
 obtain⟨res,es,bx,hl⟩:=gC _ _ _ _ w #[] vD rU
 rw[Array.empty_append] at bx
 cases res with
 |halt _ _=>obtain⟨_,_,hu⟩:=hl;exact hu.elim
 |ok c w'=>
  obtain⟨s2,ht,rfl,rfl⟩:=hl
  refine⟨_,w',seen P fr.fn es,_,?_,rfl,ht.sub (iz _ _ _),h⟩
  rcases fr with ⟨fn',tmps,todo,defers,mode,kind,ro⟩
  simp only at hm hd
  subst hd
  rcases hm with rfl| ⟨ch,rfl⟩
  ·simp only[G,stepG,unwind,callDeferred,bx,GStep.after,Array.append_empty]
   rfl
  simp only[G,stepG,unwind,callDeferred,bx,GStep.after,Array.append_empty]
  rfl
end code
def jT:Code→List Code
 | .seq a b=>jT a++jT b
 |c=>[c]
def dL(K:Nat→St)(i:Nat)(s:St):Nat→St:=fun j=>if j=i then s else K j
theorem au(K:Nat→St)(i:Nat)(s:St):dL K i s i=s:=by simp[dL]
theorem aA(K:Nat→St)(s:St)(h:j≠i):dL K i s j=K j:=by simp[dL,h]
def yh(s:St)(l:Loc):Prop:=∃a c t,l= .cell a∧s.ro a.block=some (.pending c t)∧a.off=qg
theorem yh.congr{l:Loc}(hb:blk l=some b)(h:s'.ro b=s.ro b)(k:yh s l):yh s' l:=by
 obtain⟨a,c,t,rfl,h1,h2⟩:=k
 cases hb
 exact⟨a,c,t,rfl,h.trans h1,h2⟩
structure Fit(L:Nat→Option Obj)(K:Nat→St)(w:World)(t:Trace):Prop where
 wW:∀b o,L b=some o→w.heap[b]?=some o
 iB:∀i b,(K i).owns b→L b=none
 iX:∀i,aZ (K i) w
 sep:∀i j b,i≠j→(K i).owns b→¬(K j).knows b
 perm:∀i b,(K i).owns b→∀p x,touchAt t p=some x→blk x.loc=some b→Knows t i p
 nq:∀i b,(K i).ro b≠none→∀p x,touchAt t p=some x→blk x.loc=some b→x.write=true→¬yh (K i) x.loc→Knows t i p
 old:∀p x b,touchAt t p=some x→blk x.loc=some b→b <w.heap.size
 clean:∀said,¬Race said t
 sync:∀p x b,touchAt t p=some x→x.kind≠ .plain→blk x.loc=some b→L b=none∧∀i,¬(K i).knows b
theorem lt_size{a:Array α}{x:α}(h:a[i]?=some x):i <a.size:=by
 rcases Nat.lt_or_ge i a.size with h'|h'
 ·exact h'
 rw[Array.getElem?_eq_none h'] at h;cases h
theorem aI{p:Nat}{x:Touch}(h:touchAt (t++u) p=some x):(p <t.size∧touchAt t p=some x)∨(t.size≤p∧∃op∈u,(t++u)[p]?=some op∧op.act.touch?=some x):=by
 rcases Nat.lt_or_ge p t.size with hp|hp
 ·exact .inl ⟨hp,by rw[←touchAt_old (u:=u) hp];exact h⟩
 obtain⟨op,ho,hx⟩:=touch_of h
 rcases getElem?_append_cases ho with ⟨h',_⟩| ⟨_,hm⟩
 ·omega
 exact .inr ⟨hp,op,hm,ho,hx⟩
theorem si{es:Array Event}(h:∀e∈es,Fz s n e){op:MemOp}(ho:op∈MemOp.ofEvents i fn pos es):
 op.g=i∧∀x,op.act.touch?=some x→x.kind= .plain∧∃b,blk x.loc=some b∧(n≤b∨s.owns b∨(x.write=false∧s.ro b≠none∧¬yh s x.loc))∧∃e∈es,blk e.loc=some b:=by
 rw[ofEvents_eq] at ho
 obtain⟨e,he,rfl⟩:=Array.mem_map.1 ho
 refine⟨rfl,fun x hx=>?_⟩
 have hk:=h e he
 obtain⟨loc,wr,sy⟩:=e
 cases loc with
 |cell a=>
  obtain⟨h1,h2⟩:=hk
  simp only at h1 h2
  subst h1
  have h2:n≤a.block∨s.owns a.block∨(wr=false∧s.ro a.block≠none∧¬yh s (.cell a)):=
   h2.imp id fun h=>h.imp id fun h=>⟨h.1,h.2.1,fun⟨a',c,t,e,k1,k2⟩=>by cases e;exact h.2.2 c t k1 k2⟩
  cases wr<;>(simp only[MemAct.ofEvent,MemAct.touch?,Option.some.injEq] at hx;subst hx;exact⟨rfl,_,rfl,h2,_,he,rfl⟩)
 |obj r=>
  obtain⟨h1,h2⟩:=hk
  simp only at h1 h2
  subst h1
  have h2:n≤r∨s.owns r∨(wr=false∧s.ro r≠none∧¬yh s (.obj r)):=
   h2.imp id fun h=>h.imp id fun h=>⟨h.1,h.2,fun⟨a',c,t,e,_⟩=>by cases e⟩
  cases wr<;>(simp only[MemAct.ofEvent,MemAct.touch?,Option.some.injEq] at hx;subst hx;exact⟨rfl,_,rfl,h2,_,he,rfl⟩)
 |mark m=>
  cases m<;>simp only[Fz,An,Bool.false_eq_true] at hk<;>(cases hx)
 |_=>exact hk.elim
theorem yz{p:Nat}(hu:∀op∈u,op.g=i)(hp:t.size≤p){op:MemOp}(ho:(t++u)[p]?=some op):Knows (t++u) i p:=by
 rcases getElem?_append_cases ho with ⟨h',_⟩| ⟨_,hm⟩
 ·omega
 have:=knows_own ho
 rwa[hu op hm] at this
theorem Fit.own{L:Nat→Option Obj}{K:Nat→St}{w:World}(h:Fit L K w t){es:Array Event}(ht:Trans (K i) w s' w' es)(fn:FuncId)(pos:String):
 Fit L (dL K i s') w' (t++MemOp.ofEvents i fn pos es):=by
 have hu:=fun op (ho:op∈MemOp.ofEvents i fn pos es)=>si ht.tP ho
 have hg:∀op∈MemOp.ofEvents i fn pos es,op.g=i:=fun op ho=>(hu op ho).1
 have other:∀j b,j≠i→(K j).knows b→b <w.heap.size∧¬(K i).owns b:=fun j b hj hk=>by
  refine⟨?_,fun ho=>h.sep i j b (Ne.symm hj) ho hk⟩
  rcases hk with hk| ⟨o,hk⟩
  ·cases hr:(K j).ro b with
   |none=>exact absurd hr hk
   |some o=>exact(h.iX j).lt (.inl hr)
  exact(h.iX j).lt (.inr hk)
 have WX:∀b o,L b=some o→b <w.heap.size:=fun b o hl=>lt_size (h.wW b o hl)
 refine⟨fun b o hl=>?_,fun j b ho=>?_,fun j=>?_,fun j k b Cm ho hk=>?_,fun j b ho p x hx hb=>?_,fun j b ho p x hx hb hw hh=>?_,fun p x b hx hb=>?_,fun said=>?_,fun p x b hx hk hb=>?_⟩
 ·rw[ht.frame b (WX b o hl) (fun ho=>by have:=h.iB i b ho;rw[hl] at this;cases this)];exact h.wW b o hl
 ·by_cases hj:j=i
  ·subst hj
   rw[au] at ho
   rcases ht.own b ho with h1|h1
   ·cases hl:L b with
    |none=>rfl
    |some o=>have:=WX b o hl;omega
   exact h.iB j b h1
  rw[aA K s' hj] at ho;exact h.iB j b ho
 ·by_cases hj:j=i
  ·subst hj;rw[au];exact ht.iX
  rw[aA K s' hj]
  have a:=h.iX j
  refine⟨fun b o hb=>?_,fun b o hb=>?_,a.real,a.nodup,a.apart⟩
  ·have:=other j b hj (.inl (by rw[hb];simp))
   rw[ht.frame b this.1 this.2];exact a.ro b o hb
  have:=other j b hj (.inr ⟨o,hb⟩)
  rw[ht.frame b this.1 this.2];exact a.rw b o hb
 ·by_cases hj:j=i
  ·subst hj
   rw[au] at ho
   rw[aA K s' (Ne.symm Cm)] at hk
   have:=other k b (Ne.symm Cm) hk
   rcases ht.own b ho with h1|h1
   ·omega
   exact this.2 h1
  rw[aA K s' hj] at ho
  by_cases iU:k=i
  ·subst iU
   rw[au] at hk
   have:=other j b hj (.inr ho)
   rcases hk with hk|hk
   ·rcases ht.IF b hk with h1|h1|h1
    ·omega
    ·exact h.sep j k b hj ho (.inl (h1▸hk))
    exact this.2 h1
   rcases ht.own b hk with h1|h1
   ·omega
   exact this.2 h1
  rw[aA K s' iU] at hk
  exact h.sep j k b Cm ho hk
 ·rcases aI hx with ⟨hp,iM⟩| ⟨hp,op,hm,av,oK⟩
  ·by_cases hj:j=i
   ·subst hj
    rw[au] at ho
    rcases ht.own b ho with h1|h1
    ·exact absurd (h.old p x b iM hb) (by omega)
    exact(h.perm j b h1 p x iM hb).app _
   rw[aA K s' hj] at ho
   exact(h.perm j b ho p x iM hb).app _
  by_cases hj:j=i
  ·subst hj;exact yz hg hp av
  rw[aA K s' hj] at ho
  obtain⟨_,b',ju,hc,e',IT,hbe⟩:=(hu op hm).2 x oK
  obtain rfl:b'=b:=by rw[hb] at ju;exact(Option.some.inj ju).symm
  have:=other j b' hj (.inr ho)
  rcases hc with h1|h1|h1
  ·omega
  ·exact absurd h1 this.2
  exact absurd (.inl h1.2.1) (h.sep j i b' hj ho)
 ·rcases aI hx with ⟨hp,iM⟩| ⟨hp,op,hm,av,oK⟩
  ·by_cases hj:j=i
   ·subst hj
    rw[au] at ho
    rcases ht.IF b ho with h1|h1|h1
    ·exact absurd (h.old p x b iM hb) (by omega)
    ·exact(h.nq j b (h1▸ho) p x iM hb hw fun k=>hh (by rw[au];exact k.congr hb h1)).app _
    exact(h.perm j b h1 p x iM hb).app _
   rw[aA K s' hj] at ho hh
   exact(h.nq j b ho p x iM hb hw hh).app _
  by_cases hj:j=i
  ·subst hj;exact yz hg hp av
  rw[aA K s' hj] at ho
  obtain⟨_,b',ju,hc,e',IT,hbe⟩:=(hu op hm).2 x oK
  obtain rfl:b'=b:=by rw[hb] at ju;exact(Option.some.inj ju).symm
  have:=other j b' hj (.inl ho)
  rcases hc with h1|h1|h1
  ·omega
  ·exact absurd h1 this.2
  rw[h1.1] at hw;cases hw
 ·rcases aI hx with ⟨hp,iM⟩| ⟨hp,op,hm,av,oK⟩
  ·exact Nat.lt_of_lt_of_le (h.old p x b iM hb) ht.size
  obtain⟨_,b',ju,hc,e',IT,hbe⟩:=(hu op hm).2 x oK
  obtain rfl:b'=b:=by rw[hb] at ju;exact(Option.some.inj ju).symm
  exact ht.low e' IT b' hbe
 case refine_9=>
  rcases aI hx with ⟨hp,iM⟩| ⟨hp,op,hm,av,oK⟩
  ·have hs:=h.sync p x b iM hk hb
   refine⟨hs.1,fun j hj=>?_⟩
   by_cases e:j=i
   ·subst e
    rw[au] at hj
    have bO:=h.old p x b iM hb
    rcases hj with hj|hj
    ·rcases ht.IF b hj with h1|h1|h1
     ·omega
     ·exact hs.2 j (.inl (h1▸hj))
     exact hs.2 j (.inr h1)
    rcases ht.own b hj with h1|h1
    ·omega
    exact hs.2 j (.inr h1)
   rw[aA K s' e] at hj;exact hs.2 j hj
  exact absurd ((hu op hm).2 x oK).1 hk
 case refine_8=>
  refine noRace_append (h.clean said) hg fun p a ha op hm b hb hc=>?_
  obtain⟨hk,c,hbc,qU,_⟩:=(hu op hm).2 b hb
  have atL:blk a.loc=some c:=by rw[hc.1];exact hbc
  rcases qU with h1|h1|h1
  ·exact absurd (h.old p a c ha atL) (by omega)
  ·exact h.perm i c h1 p a ha atL
  refine h.nq i c h1.2.1 p a ha atL ?_ (by rw[hc.1];exact h1.2.2)
  rcases hc.2.2.1 with hw|hw
  ·exact hw
  rw[h1.1] at hw;cases hw
theorem MU{said:Bool}(h:¬Race said t)(hu:∀op∈u,op.act.touch?=none):¬Race said (t++u):=by
 rintro⟨i,j,IQ,⟨a,b,ha,hb,hc⟩,n1,n2⟩
 obtain⟨y,hy,hyb⟩:=touch_of hb
 rcases getElem?_append_cases hy with ⟨hj,_⟩| ⟨_,hyu⟩
 ·have hi:i <t.size:=Nat.lt_trans IQ hj
  exact h ⟨i,j,IQ,⟨a,b,by rw[←act?_old (u:=u) hi];exact ha,by rw[←act?_old (u:=u) hj];exact hb,hc⟩,fun e=>n1 (hb_app u e),fun e=>n2 (hb_app u e)⟩
 rw[hu y hyu] at hyb;cases hyb
section
variable {L:Nat→Option Obj} {K:Nat→St} {w w':World} {t u:Trace}
theorem Fit.G6(h:Fit L K w t)(hk:(K i).knows b):b <w.heap.size:=by
 rcases hk with hk| ⟨o,hk⟩
 ·cases hr:(K i).ro b with
  |none=>exact absurd hr hk
  |some o=>exact(h.iX i).lt (.inl hr)
 exact(h.iX i).lt (.inr hk)
theorem aZ.congr(h:aZ s w)(hf:∀b,s.knows b→w'.heap[b]?=w.heap[b]?):aZ s w':=
 ⟨fun b o hb=>by rw[hf b (.inl (by rw[hb];simp))];exact h.ro b o hb,fun b o hb=>by rw[hf b (.inr ⟨o,hb⟩)];exact h.rw b o hb,h.real,h.nodup,h.apart⟩
theorem Fit.quiet(h:Fit L K w t)(B:Nat)(hB:∀j,¬(K j).knows B)(hBL:L B=none)(hs:w.heap.size≤w'.heap.size)(hf:∀b,b≠B→b <w.heap.size→w'.heap[b]?=w.heap[b]?)
 (hu:∀op∈u,op.act.touch?=none):Fit L K w' (t++u):=by
 have old:∀p x,touchAt (t++u) p=some x→touchAt t p=some x:=fun p x hx=>by
  rcases aI hx with ⟨_,h'⟩| ⟨_,op,hm,_,oK⟩
  ·exact h'
  rw[hu op hm] at oK;cases oK
 refine⟨fun b o hl=>?_,h.iB,fun i=>?_,h.sep,fun i b ho p x hx hb=>(h.perm i b ho p x (old p x hx) hb).app u,fun i b ho p x hx hb hw hh=>(h.nq i b ho p x (old p x hx) hb hw hh).app u,
  fun p x b hx hb=>Nat.lt_of_lt_of_le (h.old p x b (old p x hx) hb) hs,fun said=>MU (h.clean said) hu,fun p x b hx hk hb=>h.sync p x b (old p x hx) hk hb⟩
 ·rw[hf b (fun e=>by rw[e,hBL] at hl;cases hl) (lt_size (h.wW b o hl))];exact h.wW b o hl
 exact(h.iX i).congr fun b hb=>hf b (fun e=>hB i (e▸hb)) (h.G6 hb)
theorem Fit.beside(h:Fit L K w t)(B i:Nat)(hB:∀j,¬(K j).knows B)(hBL:L B=none)(hBw:B <w.heap.size)(hs:w.heap.size≤w'.heap.size)(hf:∀b,b≠B→b <w.heap.size→w'.heap[b]?=w.heap[b]?)
 (hg:∀op∈u,op.g=i) (hu:∀op∈u,∀x,op.act.touch?=some x→blk x.loc=some B∧∀said p a,touchAt t p=some a→a.conflicts said x→Knows t i p):Fit L K w' (t++u):=by
 have old:∀b,b≠B→∀p x,touchAt (t++u) p=some x→blk x.loc=some b→touchAt t p=some x:=fun b cF p x hx hb=>by
  rcases aI hx with ⟨_,h'⟩| ⟨_,op,hm,_,oK⟩
  ·exact h'
  have:=(hu op hm x oK).1
  rw[hb] at this;exact absurd (Option.some.inj this) cF
 have ne:∀j b,(K j).knows b→b≠B:=fun j b hk e=>hB j (e▸hk)
 refine⟨fun b o hl=>?_,h.iB,fun i=>?_,h.sep,fun j b ho p x hx hb=>(h.perm j b ho p x (old b (ne j b (.inr ho)) p x hx hb) hb).app u,
  fun j b ho p x hx hb hw hh=>(h.nq j b ho p x (old b (ne j b (.inl ho)) p x hx hb) hb hw hh).app u,
  fun p x b hx hb=>?_,fun said=>noRace_append (h.clean said) hg fun p a ha op hm b hb hc=>(hu op hm b hb).2 said p a ha hc,fun p x b hx hk hb=>?_⟩
 ·rw[hf b (fun e=>by rw[e,hBL] at hl;cases hl) (lt_size (h.wW b o hl))];exact h.wW b o hl
 ·exact(h.iX i).congr fun b hb=>hf b (fun e=>hB i (e▸hb)) (h.G6 hb)
 ·by_cases e:b=B
  ·subst e;omega
  exact Nat.lt_of_lt_of_le (h.old p x b (old b e p x hx hb) hb) hs
 by_cases e:b=B
 ·subst e;exact⟨hBL,hB⟩
 exact h.sync p x b (old b e p x hx hb) hk hb
theorem St.le.owns(h:s.le s')(hb:s.owns b):s'.owns b:=by
 obtain⟨R,h1,_⟩:=h
 obtain⟨o,ho⟩:=hb
 exact⟨o,h1.mem_iff.2 (by simp[ho])⟩
theorem St.le.ro(h:s.le s')(hb:s.ro b≠none):s'.ro b≠none∨s'.owns b:=by
 obtain⟨R,h1,h2⟩:=h
 cases hr:s.ro b with
 |none=>exact absurd hr hb
 |some o=>
  rcases h2 b o hr with h3|h3
  ·exact .inl (by rw[h3];simp)
  exact .inr ⟨o,h1.mem_iff.2 (by simp[h3])⟩
theorem St.le.aR(h:s.le s')(hb:s.ro b≠none):s.ro b=s'.ro b∨s'.owns b:=by
 obtain⟨R,h1,h2⟩:=h
 cases hr:s.ro b with
 |none=>exact absurd hr hb
 |some o=>
  rcases h2 b o hr with h3|h3
  ·exact .inl h3.symm
  exact .inr ⟨o,h1.mem_iff.2 (by simp[h3])⟩
theorem St.le.knows(h:s.le s')(hb:s.knows b):s'.knows b:=hb.elim (fun hr=>(h.ro hr).elim .inl .inr) fun ho=> .inr (h.owns ho)
theorem Fit.le{K':Nat→St}(h:Fit L K w t)(hK:∀i,(K' i).le (K i)):Fit L K' w t:=
 ⟨h.wW,fun i b ho=>h.iB i b ((hK i).owns ho),fun i=>(h.iX i).of_le (hK i),fun i j b IQ ho hk=>h.sep i j b IQ ((hK i).owns ho) ((hK j).knows hk),
  fun i b ho p x hx hb=>h.perm i b ((hK i).owns ho) p x hx hb,
  fun i b ho p x hx hb hw hh=>((hK i).aR ho).elim (fun hr=>h.nq i b (hr▸ho) p x hx hb hw fun k=>hh (k.congr hb hr)) fun hr=>h.perm i b hr p x hx hb,h.old,h.clean,
  fun p x b hx hk hb=>⟨(h.sync p x b hx hk hb).1,fun i hi=>(h.sync p x b hx hk hb).2 i ((hK i).knows hi)⟩⟩
theorem Fit.share(h:Fit L K w t)(vG:i≠n)(s:St)(Jo:s.rw=[])(my:∀b o,s.ro b=some o→(K i).ro b=some o)
 (hk:∀b,s.ro b≠none→∀p x,touchAt t p=some x→blk x.loc=some b→x.write=true→¬yh s x.loc→Knows t n p):Fit L (dL K n s) w t:=by
 have no:∀b,¬s.owns b:=fun b ⟨o,ho⟩=>by rw[Jo] at ho;cases ho
 have kn:∀b,s.ro b≠none→(K i).ro b≠none:=fun b hb=>by
  cases hr:s.ro b with
  |none=>exact absurd hr hb
  |some o=>rw[my b o hr];simp
 refine⟨h.wW,fun k b ho=>?_,fun k=>?_,fun k l b OL ho hb=>?_,fun k b ho p x hx hb=>?_,fun k b ho p x hx hb hw hh=>?_,h.old,h.clean,fun p x b hx iU hb=>⟨(h.sync p x b hx iU hb).1,fun k bR=>?_⟩⟩
 case refine_6=>
  have hs:=(h.sync p x b hx iU hb).2
  by_cases a:k=n
  ·subst a;rw[au] at bR;exact hs i (.inl (kn b (bR.resolve_right (no b))))
  rw[aA _ _ a] at bR;exact hs k bR
 ·by_cases a:k=n
  ·subst a;rw[au] at ho;exact absurd ho (no b)
  rw[aA _ _ a] at ho;exact h.iB k b ho
 ·by_cases a:k=n
  ·subst a;rw[au];exact⟨fun b o hb=>(h.iX i).ro b o (my b o hb),fun b o hb=>absurd ⟨o,hb⟩ (no b),fun b o hb=>absurd ⟨o,hb⟩ (no b),by rw[Jo];simp,fun b o hb=>absurd ⟨o,hb⟩ (no b)⟩
  rw[aA _ _ a];exact h.iX k
 ·by_cases a:k=n
  ·subst a;rw[au] at ho;exact no b ho
  rw[aA _ _ a] at ho
  by_cases c:l=n
  ·subst c;rw[au] at hb
   have hr:=kn b (hb.resolve_right (no b))
   by_cases d:k=i
   ·subst d
    obtain⟨o,ho⟩:=ho
    exact hr ((h.iX k).apart b o ho)
   exact h.sep k i b d ho (.inl hr)
  rw[aA _ _ c] at hb;exact h.sep k l b OL ho hb
 ·by_cases a:k=n
  ·subst a;rw[au] at ho;exact absurd ho (no b)
  rw[aA _ _ a] at ho;exact h.perm k b ho p x hx hb
 by_cases a:k=n
 ·subst a;rw[au] at ho hh;exact hk b ho p x hx hb hw hh
 rw[aA _ _ a] at ho hh;exact h.nq k b ho p x hx hb hw hh
theorem Fit.alone(h:Fit L K w t)(hK:∀j,j≠i→∀b,¬(K j).knows b)(s:St)(ha:aZ s w)
 (vG:∀b,s.knows b→L b≠none∨(K i).knows b)(iU:∀b,s.knows b→∀p x,touchAt t p=some x→x.kind= .plain→blk x.loc=some b→Knows t i p):
 Fit (fun _=>none) (dL K i s) w t:=by
 have azM:∀b,s.knows b→∀p x,touchAt t p=some x→blk x.loc=some b→x.kind= .plain:=fun b hb p x hx OG=>by
  by_cases e:x.kind= .plain
  ·exact e
  have hs:=h.sync p x b hx e OG
  exact((vG b hb).elim (fun h'=>h' hs.1) fun h'=>hs.2 i h').elim
 have hk:∀b,s.knows b→∀p x,touchAt t p=some x→blk x.loc=some b→Knows t i p:=fun b hb p x hx OG=>iU b hb p x hx (azM b hb p x hx OG) OG
 refine⟨fun b o hl=>((by cases hl)),fun _ _ _=>rfl,fun k=>?_,fun k l b OL ho hb=>?_,fun k b ho p x hx hb=>?_,fun k b ho p x hx hb hw hh=>?_,h.old,h.clean,fun p x b hx hkd hb=>⟨rfl,fun k bR=>?_⟩⟩
 case refine_5=>
  by_cases a:k=i
  ·subst a;rw[au] at bR;exact hkd (azM b bR p x hx hb)
  rw[aA _ _ a] at bR;exact hK k a b bR
 ·by_cases a:k=i
  ·subst a;rw[au];exact ha
  rw[aA _ _ a];exact h.iX k
 ·by_cases a:k=i
  ·rw[aA _ _ (fun e=>OL (a.trans e.symm))] at hb;exact hK l (fun e=>OL (a.trans e.symm)) b hb
  rw[aA _ _ a] at ho;exact hK k a b (.inr ho)
 ·by_cases a:k=i
  ·subst a;rw[au] at ho;exact hk b (.inr ho) p x hx hb
  rw[aA _ _ a] at ho;exact absurd (.inr ho) (hK k a b)
 by_cases a:k=i
 ·subst a;rw[au] at ho;exact hk b (.inl ho) p x hx hb
 rw[aA _ _ a] at ho;exact absurd (.inl ho) (hK k a b)
end
inductive Tree:Type
 |leaf
 |node (f:World→Tree)
inductive Tree.Lt:Tree→Tree→Prop
 |mk (f:World→Tree) (w:World):Tree.Lt (f w) (.node f)
theorem Tree.wf:WellFounded Tree.Lt:=by
 refine⟨fun t=>?_⟩
 induction t with
 |leaf=>exact⟨_,fun y h=>(by cases h)⟩
 |node f ih=>exact⟨_,fun y h=>by cases h;exact ih _⟩
def lF(P:Program)(main:Bool)(Stop:Goroutine→St→Prop):Tree→Goroutine→St→Prop
 | .leaf,g,s=>Stop g s
 | .node f,g,s=>g.status= .running∧∀w,aZ s w→∃g' w' es s',stepG P main g w= .go g' w' es∧g'.status= .running∧Trans s w s' w' es∧lF P main Stop (f w) g' s'
theorem St.le.trans{a b c:St}(h:a.le b)(k:b.le c):a.le c:=by
 obtain⟨R,h1,h2⟩:=h
 obtain⟨R',k1,k2⟩:=k
 refine⟨R++R',?_,fun x o hx=>?_⟩
 ·rw[←List.append_assoc];exact k1.trans (h1.append_right R')
 rcases h2 x o hx with h3|h3
 ·exact(k2 x o h3).imp id fun h'=>by simp[h']
 exact .inr (by simp[h3])
theorem Trans.le{dO:St}{w:World}{es:Array Event}(h:Trans s w s' w' es)(hl:dO.le s'):Trans s w dO w' es:=
 ⟨h.iX.of_le hl,h.size,h.frame,fun b hb=>h.own b (hl.owns hb),fun b hb=>(hl.aR hb).elim (fun e=>by rw[e];exact h.IF b (e▸hb)) fun ho=>(h.own b ho).imp id .inr,h.os,h.output,h.tape,h.tP,h.low⟩
def dg(P:Program)(main:Bool)(Stop:Goroutine→St→Prop)(g:Goroutine)(s:St):Prop:=∃tr dO,dO.le s∧lF P main Stop tr g dO
theorem cN(P:Program)(main:Bool)(Stop:Goroutine→St→Prop):Closed P main (dg P main Stop) where
 step:=fun g s hs h=>by
  have key:∀w,∃tr,aZ s w→∃g' w' es s',stepG P main g w= .go g' w' es∧g'.status= .running∧Trans s w s' w' es∧lF P main Stop tr g' s':=fun w=>by
   by_cases ha:aZ s w
   ·obtain⟨g',w',es,s',h1,h2,h3,tr,dO,hl,h4⟩:=h w ha
    exact⟨tr,fun _=>⟨g',w',es,dO,h1,h2,h3.le hl,h4⟩⟩
   exact⟨.leaf,fun qp=>absurd qp ha⟩
  refine⟨.node fun w=>(key w).choose,s,St.le_refl s,hs,fun w ha=>(key w).choose_spec ha⟩
 mono:=fun g s s' hl ⟨tr,dO,h,ht⟩=>⟨tr,dO,h.trans hl,ht⟩
theorem dg.stop{P:Program}{Stop:Goroutine→St→Prop}{g:Goroutine}(h:Stop g s):dg P main Stop g s:=⟨.leaf,s,St.le_refl s,h⟩
section
variable {α:Type}
inductive One(r:α→α→Prop):List α→List α→Prop
 |mk (a:List α) (x y:α) (b:List α):r y x→One r (a++y::b) (a++x::b)
theorem One.cons_inv{r:α→α→Prop}{x:α}{l m:List α}(h:One r m (x::l)):(∃y,m=y::l∧r y x)∨∃l',m=x::l'∧One r l' l:=by
 generalize hk:x::l=k at h
 obtain⟨a,u,v,b,hr⟩:=h
 cases a with
 |nil=>simp only[List.nil_append,List.cons.injEq] at hk;obtain⟨rfl,rfl⟩:=hk;exact .inl ⟨v,rfl,hr⟩
 |cons c a=>simp only[List.cons_append,List.cons.injEq] at hk;obtain⟨rfl,rfl⟩:=hk;exact .inr ⟨_,rfl,.mk a u v b hr⟩
theorem One.acc{r:α→α→Prop}:∀l:List α,(∀x∈l,Acc r x)→Acc (One r) l
 | [],_=>⟨_,fun m h=>by
  generalize hk:([]:List α)=k at h
  obtain⟨a,u,v,b,hr⟩:=h
  cases a<;>simp at hk⟩
 |x::l,h=>by
  have hl:=One.acc l fun y hy=>h y (List.mem_cons_of_mem _ hy)
  have hx:=h x (List.mem_cons_self ..)
  clear h
  induction hx generalizing l with
  |intro x hx ihx=>
   clear hx
   induction hl with
   |intro l hl ihl=>
    refine⟨_,fun m hm=>?_⟩
    rcases hm.cons_inv with ⟨y,rfl,hr⟩| ⟨l',rfl,hr⟩
    ·exact ihx y hr l ⟨_,hl⟩
    exact ihl l' hr
theorem One.wf{r:α→α→Prop}(h:WellFounded r):WellFounded (One r):=⟨fun l=>One.acc l fun x _=>h.apply x⟩
theorem One.set{r:α→α→Prop}{l:List α}{x y:α}(h:l[i]?=some x) (hr:r y x):One r (l.set i y) l:=by
 obtain⟨hi,rfl⟩:=List.getElem?_eq_some_iff.1 h
 have e1:l=l.take i++l[i]::l.drop (i+1):=by
  rw[List.getElem_cons_drop,List.take_append_drop]
 have e2:l.set i y=l.take i++y::l.drop (i+1):=by
  rw[List.set_eq_take_append_cons_drop,if_pos hi]
 rw[e2]
 conv=>rhs;rw[e1]
 exact .mk _ _ _ _ hr
end
open Go.ConcR (KK wgBlock WgAt stA smA rd wr)
abbrev said(m:Mark):Event:=Go.ConcR.mk m
def Pure(P:Program)(main:Bool)(Live:World→Prop)(Stop:Goroutine→Prop):Nat→Goroutine→Prop
 |0,g=>Stop g
 |n+1,g=>g.status= .running∧∃g',(∀w,Live w→stepG P main g w= .go g' w #[])∧Pure P main Live Stop n g'
structure eH(ι:Type) where
 P:Program
 ty:TypeId
 Wg:Nat
 Ch:Nat
 max:Nat
 z:Value
 os:Os
 out:Array (Nat×ByteArray)
 aif:ι→Value→List (Nat×Obj)→Prop
section
variable {ι:Type} (E:eH ι)
def eH.live(w:World):Prop:=∃st sm,WgAt E.ty E.Wg w st sm
def eH.pure(main:Bool)(Stop:Goroutine→Prop)(g:Goroutine):Prop:=∃n,Pure E.P main E.live Stop n g
def eH.D4(g:Goroutine):Prop:=g.status= .running∧mayWake E.P g=true∧∃g',(∀w,WgAt E.ty E.Wg w 0 0→stepG E.P false g w= .go g' (w.setCell (smA E.Wg) (.int .u32 1)) (semEvents (smA E.Wg)))∧∃q,QuitsD E.P q 1 g'
def eH.D3(g:Goroutine):Prop:=g.status= .running∧∃g',(∀w,WgAt E.ty E.Wg w 1 0→stepG E.P false g w= .go g' (w.setCell (stA E.Wg) (.int .u64 0)) #[wr (stA E.Wg)])∧E.pure false E.D4 g'
def eH.D2(g:Goroutine):Prop:=g.status= .running∧∃g',(∀w,WgAt E.ty E.Wg w 1 0→stepG E.P false g w= .go g' w #[rd (stA E.Wg)])∧E.pure false E.D3 g'
def eH.D1(g:Goroutine):Prop:=g.status= .running∧∀v wt:Nat,wt≤1→v <E.max→
 ∃g',(∀w,WgAt E.ty E.Wg w (((v+1:Nat):Int)*KK+(wt:Int)) 0→stepG E.P false g w= .go g' (w.setCell (stA E.Wg) (.int .u64 ((v:Int)*KK+(wt:Int)))) #[rd (stA E.Wg),wr (stA E.Wg)])∧
  ((v=0∧wt=1)→E.pure false E.D2 g')∧(¬(v=0∧wt=1)→∃q,QuitsD E.P q 1 g')
def eH.K1(g:Goroutine):Prop:=g.status= .running∧∃g',(∀w,stepG E.P false g w= .go g' w #[said .disable])∧E.pure false E.D1 g'
def eH.R0(g:Goroutine):Prop:=g.status= .running∧∃g',(∀w,stepG E.P false g w= .go g' w #[said (.releaseMerge (stA E.Wg))])∧E.pure false E.K1 g'
inductive WK where
 |r0|k1|d1|d2|d3|d4
inductive aC(ι:Type) where
 |leave (q d:Nat) (cur:Bool)
 |work (o:ι) (tr:Tree)
 |gW (o:ι)
 |back (tr:Tree)
 |st (k:WK) (n:Nat)
 |closer
def WK.stop:WK→Goroutine→Prop
 | .r0=>E.R0| .k1=>E.K1| .d1=>E.D1| .d2=>E.D2| .d3=>E.D3| .d4=>E.D4
def WK.deaf:WK→Nat
 | .r0| .k1=>0
 |_=>1
def WK.said:WK→Bool
 | .r0=>false
 |_=>true
def WK.fO:WK→Nat
 | .r0=>6| .k1=>5| .d1=>4| .d2=>3| .d3=>2| .d4=>1
inductive CK where
 |kd|w1 (b:Nat)|w2 (b vs:Nat)|wr|w3|blk|w4|ke|aq|run (tr:Tree)
def CK.deaf:CK→Nat
 | .kd| .aq| .run _=>0
 |_=>1
def db(t:Trace)(i:Nat):Prop:=∀p,t.g? p=some i→t.counts p→∃j,t.g? j=some 0∧HappensBefore t p j
end
section
variable {ι:Type} {E:eH ι} {t u:Trace} {i j:Nat} {s:St} {g:Goroutine}
theorem Pure.running{P:Program}{Live:World→Prop}(hS:∀g,Stop g→g.status= .running):∀ {n:Nat} {g:Goroutine},Pure P main Live Stop n g→g.status= .running
 |0,_,h=>hS _ h
 |_+1,_,h=>h.1
theorem eH.pure.running(hS:∀g,Stop g→g.status= .running)(h:E.pure main Stop g):g.status= .running:=Pure.running hS h.choose_spec
theorem WK.running:∀(k:WK) (g:Goroutine),k.stop E g→g.status= .running
 | .r0,_,h=>h.1
 | .k1,_,h=>h.1
 | .d1,_,h=>h.1
 | .d2,_,h=>h.1
 | .d3,_,h=>h.1
 | .d4,_,h=>h.1
theorem lF.running{P:Program}{Stop:Goroutine→St→Prop}(hS:∀g s,Stop g s→g.status= .running):∀ {tr:Tree} {g:Goroutine} {s:St},lF P main Stop tr g s→g.status= .running
 | .leaf,_,_,h=>hS _ _ h
 | .node _,_,_,h=>h.1
theorem db.other(h:db t j)(hu:∀op∈u,op.g≠j):db (t++u) j:=by
 intro p hp hc
 obtain⟨op,ho,hg⟩:=Option.map_eq_some_iff.1 hp
 rcases getElem?_append_cases ho with ⟨bO,_⟩| ⟨_,hm⟩
 ·obtain⟨q,h1,h2⟩:=h p (by rw[←g?_old (u:=u) bO];exact hp) ((counts_old bO).1 hc)
  have hq:q <t.size:=by
   obtain⟨o,ho,_⟩:=Option.map_eq_some_iff.1 h1
   exact lt_size_of_getElem? ho
  exact⟨q,by rw[g?_old hq];exact h1,hb_app u h2⟩
 exact absurd hg (hu op hm)
theorem RelBy.other{a:Addr}{r:Nat}(h:ConcN.RelBy a t j r)(hu:∀op∈u,op.g≠j):ConcN.RelBy a (t++u) j r:=by
 refine h.app fun p hp hg=>?_
 obtain⟨op,ho,hgo⟩:=Option.map_eq_some_iff.1 hg
 rcases getElem?_append_cases ho with ⟨bO,_⟩| ⟨_,hm⟩
 ·omega
 exact absurd hgo (hu op hm)
theorem eP(t:Trace){g:Nat}(u:Trace)(hu:∀op∈u,op.g≠g):Deaf (t++u) g=Deaf t g:=by
 obtain⟨l⟩:=u
 rw[Deaf_append]
 induction l generalizing t with
 |nil=>rfl
 |cons y l ih=>
  have hy:y.g≠g:=hu y (by simp)
  have e1:deafStep g (Deaf t g) y=Deaf t g:=by
   unfold deafStep
   split<;>simp[hy]
  rw[List.foldl_cons,e1]
  exact ih t (fun op av=>hu op (by simp at av ⊢;exact .inr av))
def VS(w w':World):Prop:=w'.os=w.os∧w'.output=w.output
theorem dW{P:Program}{gs:Array Goroutine}{k:Nat}{g x:Goroutine}(hki:k≠i)(hk:gs[k]?=some x):((gs.map (woken P g g' w')).setIfInBounds i g')[k]?=some (woken P g g' w' x):=by
 rw[Array.getElem?_setIfInBounds_ne (Ne.symm hki)];simp[hk]
end
def CK.waits:CK→Prop
 | .wr| .w3| .blk=>True
 |_=>False
def CK.over:CK→Prop
 | .w4| .ke| .aq| .run _=>True
 |_=>False
inductive Md(mx:Nat):(n n4 n3 n2:Nat)→Option CK→Int→Int→Prop
 |start {n:Nat}:Md mx n 0 0 0 none ((n:Int)*KK) 0
 |kd {n:Nat}:Md mx n 0 0 0 (some .kd) ((n:Int)*KK) 0
 |w1 {n b:Nat}:n≤b→Md mx n 0 0 0 (some (.w1 b)) ((n:Int)*KK) 0
 |w2 {n b v:Nat}:n≤v→1≤v→v≤b+1→Md mx n 0 0 0 (some (.w2 b v)) ((n:Int)*KK) 0
 |reg {n:Nat} {c:CK}:c.waits→1≤n→Md mx n 0 0 0 (some c) ((n:Int)*KK+1) 0
 |l4 {c:CK}:c.waits→Md mx 0 1 0 0 (some c) 1 0
 |l3 {c:CK}:c.waits→Md mx 0 0 1 0 (some c) 1 0
 |l2 {c:CK}:c.waits→Md mx 0 0 0 1 (some c) 0 0
 |sema {c:CK}:c.waits→c≠ .blk→Md mx 0 0 0 0 (some c) 0 1
 |over {c:CK}:c.over→Md mx 0 0 0 0 (some c) 0 0
section
variable {ι:Type} (E:eH ι)
abbrev Bb:=Option (Nat×CK×Nat)
end
abbrev w9:Nat×Tree×Nat→Nat×Tree×Nat→Prop:=Prod.Lex (· < ·) (Prod.Lex Tree.Lt (· < ·))
theorem w9.wf:WellFounded w9:=(Prod.lex ⟨_,Nat.lt_wfRel.wf⟩ (Prod.lex ⟨_,Tree.wf⟩ ⟨_,Nat.lt_wfRel.wf⟩)).wf
theorem bZ{a b:Nat×Tree×Nat}(h:a.1 <b.1):w9 a b:=by
 obtain⟨a1,a2⟩:=a;obtain⟨b1,b2⟩:=b
 exact Prod.Lex.left _ _ h
theorem uy{a b:Tree}{x y:Nat}(h:Tree.Lt a b):w9 (n,a,x) (n,b,y):=Prod.Lex.right _ (Prod.Lex.left _ _ h)
theorem pn{a:Tree}{x y:Nat}(h:x <y):w9 (n,a,x) (n,a,y):=Prod.Lex.right _ (Prod.Lex.right _ h)
section
variable {ι:Type} {E:eH ι}
theorem C3{es:Array Event}(h:∀e∈es,Event.mute e=true):∀op∈MemOp.ofEvents i fn pos es,op.act.touch?=none:=by
 intro op av
 rw[ofEvents_eq] at av
 obtain⟨e,he,rfl⟩:=Array.mem_map.1 av
 have:=h e he
 obtain⟨loc,wr,sy⟩:=e
 cases loc with
 |mark m=>cases m<;>first|rfl| (simp[Event.mute] at this)
 |_=>simp[Event.mute] at this
theorem GX{es:Array Event}(h:∀e∈es,Event.mute e=true)(a:Addr):∀op∈MemOp.ofEvents i fn pos es,op.act≠ .mark (.release a):=by
 intro op av
 rw[ofEvents_eq] at av
 obtain⟨e,he,rfl⟩:=Array.mem_map.1 av
 have:=h e he
 obtain⟨loc,wr,sy⟩:=e
 cases loc with
 |mark m=>cases m<;>first| (simp[MemAct.ofEvent];done)| (simp[Event.mute] at this)
 |_=>simp[Event.mute] at this
variable {L:Nat→Option Obj} {K:Nat→St} {gs:Array Goroutine} {w w':World} {t:Trace} {D:List (aC ι)} {pend d0:Nat} {cl:Bb} {main:Goroutine} {sl:Option (Nat×Nat)}
end
section
variable {ι:Type} {E:eH ι} {L:Nat→Option Obj} {K:Nat→St} {gs:Array Goroutine} {w w':World} {t u:Trace} {D:List (aC ι)} {pend d0:Nat} {cl:Bb} {main:Goroutine} {sl:Option (Nat×Nat)}
 {i:Nat} {g g':Goroutine} {es:Array Event}
theorem fQ(K:Nat→St)(i:Nat):dL K i (K i)=K:=by
 funext j
 by_cases e:j=i
 ·subst e;rw[au]
 rw[aA _ _ e]
theorem db.quiet(h:db t j)(hu:∀op∈u,op.act.touch?=none):db (t++u) j:=by
 intro p hp hc
 obtain⟨op,ho,hg⟩:=Option.map_eq_some_iff.1 hp
 rcases getElem?_append_cases ho with ⟨bO,_⟩| ⟨_,hm⟩
 ·obtain⟨q,h1,h2⟩:=h p (by rw[←g?_old (u:=u) bO];exact hp) ((counts_old bO).1 hc)
  have hq:q <t.size:=by
   obtain⟨o,ho,_⟩:=Option.map_eq_some_iff.1 h1
   exact lt_size_of_getElem? ho
  exact⟨q,by rw[g?_old hq];exact h1,hb_app u h2⟩
 obtain⟨x,hx,_⟩:=hc
 obtain⟨o',KN,iM⟩:=touch_of hx
 rw[ho] at KN;cases KN
 rw[hu op hm] at iM;cases iM
theorem GW{e:Event}(h:Event.mute e=true):(MemAct.ofEvent e).touch?=none:=by
 obtain⟨loc,wr,sy⟩:=e
 cases loc with
 |mark m=>cases m<;>first|rfl| (simp[Event.mute] at h)
 |_=>simp[Event.mute] at h
theorem zx:∀(es:List Event) (d:Nat),(∀e∈es,Fz s n e)→es.foldl (fun d e=>match e.loc with| .mark .disable=>d+1| .mark .enable=>d-1|_=>d) d=d
 | [],_,_=>rfl
 |e::es,d,h=>by
  have he:=h e (by simp)
  have:(match e.loc with| .mark .disable=>d+1| .mark .enable=>d-1|_=>d)=d:=by
   unfold Fz at he
   split<;>simp_all[An]
  rw[List.foldl_cons,this]
  exact zx es d fun x hx=>h x (by simp[hx])
theorem Trans.deaf(ht:Trans s w s' w' es)(d:Nat):deafBehind d es=d:=by
 obtain⟨l⟩:=es
 rw[deafBehind,List.foldl_toArray']
 ·exact zx l d fun e he=>ht.tP e (by simpa using he)
 simp
end
theorem Md.d1{a c:Nat}{o:Option CK}(h:Md mx n a b c o st sm)(hn:1≤n)(ho:o≠none):
 ∃v wt:Nat,v+1=n∧wt≤1∧st=((v+1:Nat):Int)*KK+(wt:Int)∧sm=0∧a=0∧b=0∧c=0∧
  ((v=0∧wt=1)→Md mx v 1 0 0 o ((v:Int)*KK+(wt:Int)) 0)∧(¬(v=0∧wt=1)→Md mx v 0 0 0 o ((v:Int)*KK+(wt:Int)) 0):=by
 cases h with
 |start=>exact absurd rfl ho
 |kd=>exact⟨n-1,0,by omega,by omega,by rw[show n-1+1=n by omega];simp,rfl,rfl,rfl,rfl,fun h=>by omega,fun _=>by simpa using .kd⟩
 |w1 h1=>exact⟨n-1,0,by omega,by omega,by rw[show n-1+1=n by omega];simp,rfl,rfl,rfl,rfl,fun h=>by omega,fun _=>by simpa using .w1 (by omega)⟩
 |w2 h1 h2 h3=>exact⟨n-1,0,by omega,by omega,by rw[show n-1+1=n by omega];simp,rfl,rfl,rfl,rfl,fun h=>by omega,fun _=>by simpa using .w2 (by omega) h2 h3⟩
 |reg h1 h2=>
  refine⟨n-1,1,by omega,by omega,by rw[show n-1+1=n by omega];simp,rfl,rfl,rfl,rfl,fun h=>?_,fun h=>?_⟩
  ·rw[h.1];simpa using .l4 h1
  exact .reg h1 (by omega)
 |l4 _=>omega
 |l3 _=>omega
 |l2 _=>omega
 |sema _ _=>omega
 |over _=>omega
theorem Md.d2{a c:Nat}{o:Option CK}(h:Md mx n a b c o st sm)(hn:1≤a):st=1∧sm=0∧n=0∧a=1∧b=0∧c=0∧Md mx 0 0 1 0 o 1 0:=by
 cases h with
 |l4 h1=>exact⟨rfl,rfl,rfl,rfl,rfl,rfl,.l3 h1⟩
 |_=>omega
theorem Md.d3{a c:Nat}{o:Option CK}(h:Md mx n a b c o st sm)(hn:1≤b):st=1∧sm=0∧n=0∧a=0∧b=1∧c=0∧Md mx 0 0 0 1 o 0 0:=by
 cases h with
 |l3 h1=>exact⟨rfl,rfl,rfl,rfl,rfl,rfl,.l2 h1⟩
 |_=>omega
theorem Md.d4{a c:Nat}{o:Option CK}(h:Md mx n a b c o st sm)(hn:1≤c):st=0∧sm=0∧n=0∧a=0∧b=0∧c=1∧(o≠some .blk→Md mx 0 0 0 0 o 0 1):=by
 cases h with
 |l2 h1=>exact⟨rfl,rfl,rfl,rfl,rfl,rfl,fun h'=> .sema h1 fun e=>h' (by rw[e])⟩
 |_=>omega
theorem Md.run{a c:Nat}{o:Option CK}(h:Md mx n a b c o st sm){k:CK}(ho:o=some k)(hk:k.over):n=0∧a=0∧b=0∧c=0∧st=0∧sm=0:=by
 have nw:¬k.waits:=by cases k<;>simp_all[CK.over,CK.waits]
 cases h with
 |start=>cases ho
 |kd=>cases ho;exact hk.elim
 |w1 _=>cases ho;exact hk.elim
 |w2 _ _ _=>cases ho;exact hk.elim
 |reg h1 _=>cases ho;exact absurd h1 nw
 |l4 h1=>cases ho;exact absurd h1 nw
 |l3 h1=>cases ho;exact absurd h1 nw
 |l2 h1=>cases ho;exact absurd h1 nw
 |sema h1 _=>cases ho;exact absurd h1 nw
 |over _=>exact⟨rfl,rfl,rfl,rfl,rfl,rfl⟩
section
variable {ι:Type} {E:eH ι} {L:Nat→Option Obj} {K:Nat→St} {gs:Array Goroutine} {w w':World} {t u:Trace} {D:List (aC ι)} {pend d0:Nat} {cl:Bb} {main:Goroutine} {sl:Option (Nat×Nat)}
 {i:Nat} {g g':Goroutine} {es:Array Event}
structure bQ(E:eH ι)(w w':World):Prop where
 size:w'.heap.size=w.heap.size
 block:∀b,b≠E.Wg→w'.heap[b]?=w.heap[b]?
 same:VS w w'
theorem bQ.refl(w:World):bQ E w w:=⟨rfl,fun _ _=>rfl,rfl,rfl⟩
theorem bQ.set(w:World)(k:Nat)(v:Value):bQ E w (w.setCell ⟨E.Wg,k,none⟩ v):=
 ⟨by simp[World.setCell],fun b hb=>by simp[World.setCell,Array.getElem?_modify,Ne.symm hb],rfl,rfl⟩
end
def CK.phi(mx:Nat):CK→Nat
 | .kd=>2*mx+9
 | .w1 b=>2*b+8
 | .w2 b _=>2*b+9
 | .wr=>7
 | .w3| .blk=>6
 | .w4=>5
 | .ke=>4
 | .aq=>3
 | .run _=>2
def CK.tree:CK→Tree
 | .run tr=>tr
 |_=> .leaf
section
variable {ι:Type} {E:eH ι} {L:Nat→Option Obj} {K:Nat→St} {gs:Array Goroutine} {w w':World} {t u:Trace} {D:List (aC ι)} {pend d0:Nat} {main:Goroutine} {sl:Option (Nat×Nat)}
 {ic:Nat} {g g':Goroutine} {es:Array Event} {c:CK} {n:Nat}
theorem Md.zero{mx n a b c:Nat}{k:CK}{st sm:Int}(h:Md mx n a b c (some k) st sm)(hk:k= .kd∨(∃b,k= .w1 b)∨∃b v,k= .w2 b v):st=(n:Int)*KK∧sm=0∧a=0∧b=0∧c=0∧(∀b,k= .w1 b→n≤b)∧∀b v,k= .w2 b v→n≤v∧1≤v∧v≤b+1:=by
 have nw:¬k.waits∧¬k.over:=by rcases hk with rfl| ⟨_,rfl⟩| ⟨_,_,rfl⟩<;>exact⟨id,id⟩
 cases h with
 |kd=>exact⟨rfl,rfl,rfl,rfl,rfl,(fun _ e=>(by cases e)),(fun _ _ e=>(by cases e))⟩
 |w1 h1=>exact⟨rfl,rfl,rfl,rfl,rfl,(fun _ e=>by cases e;exact h1),(fun _ _ e=>(by cases e))⟩
 |w2 h1 h2 h3=>exact⟨rfl,rfl,rfl,rfl,rfl,(fun _ e=>(by cases e)),(fun _ _ e=>by cases e;exact⟨h1,h2,h3⟩)⟩
 |reg h1 _=>exact absurd h1 nw.1
 |l4 h1=>exact absurd h1 nw.1
 |l3 h1=>exact absurd h1 nw.1
 |l2 h1=>exact absurd h1 nw.1
 |sema h1 _=>exact absurd h1 nw.1
 |over h1=>exact absurd h1 nw.2
theorem Md.waiting{mx n a b c:Nat}{k k':CK}{st sm:Int}(h:Md mx n a b c (some k) st sm)(hk:k.waits)(iU:k'.waits)(hb:k'≠ .blk∨sm=0):Md mx n a b c (some k') st sm:=by
 cases h with
 |kd=>exact hk.elim
 |w1 _=>exact hk.elim
 |w2 _ _ _=>exact hk.elim
 |reg _ h2=>exact .reg iU h2
 |l4 _=>exact .l4 iU
 |l3 _=>exact .l3 iU
 |l2 _=>exact .l2 iU
 |sema _ _=>exact .sema iU (hb.resolve_right (by decide))
 |over h1=>cases k<;>first|exact hk.elim|exact h1.elim
theorem Md.up{mx n a b c:Nat}{k:CK}{st sm:Int}(h:Md mx n a b c (some k) st sm)(hk:k.waits):(∃x,x=st∧sm=0)∨(st=0∧sm=1∧n=0∧a=0∧b=0∧c=0):=by
 cases h with
 |kd=>exact hk.elim
 |w1 _=>exact hk.elim
 |w2 _ _ _=>exact hk.elim
 |reg _ _=>exact .inl ⟨_,rfl,rfl⟩
 |l4 _=>exact .inl ⟨_,rfl,rfl⟩
 |l3 _=>exact .inl ⟨_,rfl,rfl⟩
 |l2 _=>exact .inl ⟨_,rfl,rfl⟩
 |sema _ _=>exact .inr ⟨rfl,rfl,rfl,rfl,rfl,rfl⟩
 |over h1=>cases k<;>first|exact hk.elim|exact h1.elim
end
section
variable {ι:Type} {E:eH ι} {L:Nat→Option Obj} {K:Nat→St} {gs e8:Array Goroutine} {w w':World} {t u:Trace} {D:List (aC ι)} {pend d0:Nat} {cl:Bb} {main main':Goroutine} {sl:Option (Nat×Nat)}
 {i:Nat} {g g':Goroutine} {es:Array Event}
theorem fJ(t:Trace)(g:Nat)(u:Trace)(hu:∀op∈u,∀m,op.act≠ .mark m):Deaf (t++u) g=Deaf t g:=by
 obtain⟨l⟩:=u
 rw[Deaf_append]
 induction l generalizing t with
 |nil=>rfl
 |cons y l ih=>
  have hy:=hu y (by simp)
  have e1:deafStep g (Deaf t g) y=Deaf t g:=by
   unfold deafStep
   split
   ·rename_i e;exact absurd e (hy _)
   ·rename_i e;exact absurd e (hy _)
   rfl
  rw[List.foldl_cons,e1]
  exact ih t (fun op av=>hu op (by simp at av ⊢;exact .inr av))
end
def Ends(P:Program)(Q:Machine→Outcome→World→Trace→Prop)(m:Machine)(t:Trace):Prop:=
 ∃n last o w' t',runNT P (n+1) m t=(.ended o w',t')∧runN P n m= .next last∧step P last= .ended o w'∧Q last o w' t'
theorem Ends.next{P:Program}{Q:Machine→Outcome→World→Trace→Prop}{m m':Machine}{ops:Array MemOp}(hs:stepT P m=(.next m',ops))(h:Ends P Q m' (t++ops)):Ends P Q m t:=by
 obtain⟨n,last,o,w,t',h1,h2,h3,h4⟩:=h
 exact⟨n+1,last,o,w,t',by rw[runNT_succ_next hs];exact h1,by rw[runN_succ_next hs];exact h2,h3,h4⟩
section
variable {L:Nat→Option Obj} {K:Nat→St} {w:World} {t:Trace}
theorem aZ.at(h:aZ s w)(d:Nat):aZ s (w.at d):=⟨h.ro,h.rw,h.real,h.nodup,h.apart⟩
theorem Fit.at(h:Fit L K w t)(d:Nat):Fit L K (w.at d) t:=⟨h.wW,h.iB,fun i=>(h.iX i).at d,h.sep,h.perm,h.nq,h.old,h.clean,h.sync⟩
end
structure Lv(P:Program)(G:Trace→Nat→Prop)(L:Nat→Option Obj)(K:Nat→St)(gs:Array Goroutine)(w:World)(t:Trace)(q:List Nat):Prop where
 fit:Fit L K w t
 size:gs.size=q.length+1
 ok:∀i n,q[i]?=some n→∃g d,gs[i+1]?=some g∧QuitsD P n d g∧Deaf t (i+1)=d∧G t (i+1)
 none:∀i b,i≠0→¬(K i).knows b
 ops:∀op∈t,op.g <gs.size
structure LU(G:Trace→Nat→Prop):Prop where
 other:∀t u i,G t i→(∀op∈u,op.g≠i)→G (t++u) i
 quiet:∀t u i,G t i→(∀op∈u,op.act.touch?=none)→G (t++u) i
theorem sJ:LU db:=⟨fun _ _ _ h hu=>h.other hu,fun _ _ _ h hu=>h.quiet hu⟩
section
variable {P:Program} {G:Trace→Nat→Prop} {L:Nat→Option Obj} {K:Nat→St} {gs:Array Goroutine} {w:World} {t:Trace} {q:List Nat} {sl:Option (Nat×Nat)}
theorem Lv.at(h:Lv P G L K gs w t q)(d:Nat):Lv P G L K gs (w.at d) t q:=⟨h.fit.at d,h.size,h.ok,h.none,h.ops⟩
theorem Lv.le(h:Lv P G L K gs w t q)(hl:s.le (K 0)):Lv P G L (dL K 0 s) gs w t q:=
 ⟨h.fit.le fun j=>by
  by_cases e:j=0
  ·subst e;rw[au];exact hl
  rw[aA _ _ e];exact St.le_refl _,h.size,h.ok,fun i b hi hk=>by rw[aA _ _ hi] at hk;exact h.none i b hi hk,h.ops⟩
theorem Lv.leave(hG:LU G)(h:Lv P G L K gs w t q){g m:Goroutine}(hm:gs[0]?=some m) (tN:m.status= .running) (hg:gs[i+1]?=some g) (hs:g.status= .running):
 ∃e8 u q',runT P (crowd gs w sl) (i+1)=(.next (crowd e8 w sl),u)∧Lv P G L K e8 w (t++u) q'∧e8[0]?=some m∧Deaf (t++u) 0=Deaf t 0∧q'.sum <q.sum∧∀op∈u,∀a,op.act≠ .mark (.release a):=by
 have bO:i <q.length:=by have:=lt_size hg;have:=h.size;omega
 have hq:=List.getElem?_eq_getElem bO
 obtain⟨bk,d,aN,hqd,hd,hk⟩:=h.ok i _ hq
 obtain rfl:bk=g:=by rw[hg] at aN;exact(Option.some.inj aN).symm
 cases e:q[i] with
 |zero=>rw[e] at hqd;have:=hqd.1;rw[hs] at this;cases this
 |succ n=>
  rw[e] at hqd
  rcases hqd with ⟨h1,_⟩| ⟨_,g',es,zp,bE,Hj⟩
  ·rw[hs] at h1;cases h1
  have hu:=C3 (i:=i+1) (fn:=bk.frame.fn) (pos:=bk.frame.place) zp
  have hgi:∀op∈MemOp.ofEvents (i+1) bk.frame.fn bk.frame.place es,op.g=i+1:=fun op av=>Go.ConcR.g_of_ofEvents op av
  have tI:∀x:Goroutine,(x.status= .running∨x.status= .finished)→woken P bk g' w x=x:=fun x hx=>by
   unfold Go.Conc.woken
   split
   ·exact again_running _ hx
   rfl
  refine⟨_,_,q.set i n,runT_crowd_go (P:=P) (sl:=sl) (i:=i+1) hg (by simpa using bE w),⟨?_,by simp[h.size],fun k n' iU=>?_,h.none,fun op av=>?_⟩,?_,?_,?_,fun op av a=>GX zp a op av⟩
  ·exact h.fit.quiet w.heap.size (fun j hj=>absurd (h.fit.G6 hj) (Nat.lt_irrefl _)) (by
    cases hL:L w.heap.size with
    |none=>rfl
    |some o=>exact absurd (lt_size (h.fit.wW _ o hL)) (Nat.lt_irrefl _)) (Nat.le_refl _) (fun _ _ _=>rfl) hu
  ·by_cases hki:k=i
   ·subst hki
    have:n=n':=by simpa [List.getElem?_set,bO] using iU
    subst this
    exact⟨g',_,by simp[h.size,bO],Hj,by rw[Deaf_own,hd],hG.quiet _ _ _ hk hu⟩
   rw[List.getElem?_set_ne (Ne.symm hki)] at iU
   obtain⟨x,dx,hx,hqx,hdx,Cj⟩:=h.ok k n' iU
   have cF:∀op∈MemOp.ofEvents (i+1) bk.frame.fn bk.frame.place es,op.g≠k+1:=fun op av=>by rw[hgi op av];omega
   exact⟨x,dx,by rw[dW (by omega) hx,tI x hqx.status],hqx,by rw[eP _ _ cF];exact hdx,hG.other _ _ _ Cj cF⟩
  ·rw[Array.size_setIfInBounds,Array.size_map]
   rcases Array.mem_append.1 av with h'|h'
   ·exact h.ops op h'
   rw[hgi op h',h.size];omega
  ·rw[dW (by omega) hm,tI m (.inl tN)]
  ·exact eP _ _ fun op av=>by rw[hgi op av];omega
  have key:∀(l:List Nat) (i:Nat) (x:Nat),l[i]?=some x→∀y,y <x→(l.set i y).sum <l.sum:=by
   intro l
   induction l with
   |nil=>intro i x h;simp at h
   |cons a l ih=>
    intro i x hx y hy
    cases i with
    |zero=>simp only[List.getElem?_cons_zero,Option.some.injEq] at hx;subst hx;simp only[List.set_cons_zero,List.sum_cons];omega
    |succ i=>have:=ih i x (by simpa using hx) y hy;simp only[List.set_cons_succ,List.sum_cons];omega
  exact key q i _ (by rw[hq,e]) n (Nat.lt_succ_self n)
theorem Lv.own(hG:LU G)(h:Lv P G L K gs w t q){g:Goroutine}{es:Array Event}(hm:gs[0]?=some g) (bE:stepG P true g w= .go g' w' es) (ht:Trans (K 0) w s' w' es):
 ∃e8 u,runT P (crowd gs w sl) 0=(.next (crowd e8 w' sl),u)∧Lv P G L (dL K 0 s') e8 w' (t++u) q∧e8[0]?=some g'∧Deaf (t++u) 0=Deaf t 0∧∀op∈u,∀a,op.act≠ .mark (.release a):=by
 have hgi:∀op∈MemOp.ofEvents 0 g.frame.fn g.frame.place es,op.g=0:=fun op av=>Go.ConcR.g_of_ofEvents op av
 refine⟨_,_,runT_crowd_go (P:=P) (sl:=sl) (i:=0) hm (by simpa using bE),⟨h.fit.own ht _ _,by simp[h.size],fun k n hk=>?_,fun i b hi hk=>?_,fun op av=>?_⟩,?_,?_,fun op av a e=>?_⟩
 ·obtain⟨x,dx,hx,hqx,hdx,Cj⟩:=h.ok k n hk
  have cF:∀op∈MemOp.ofEvents 0 g.frame.fn g.frame.place es,op.g≠k+1:=fun op av=>by rw[hgi op av];omega
  exact⟨x,dx,by rw[dW (by omega) hx,woken_quitsD hqx],hqx,by rw[eP _ _ cF];exact hdx,hG.other _ _ _ Cj cF⟩
 ·rw[aA _ _ hi] at hk;exact h.none i b hi hk
 ·rw[Array.size_setIfInBounds,Array.size_map]
  rcases Array.mem_append.1 av with h'|h'
  ·exact h.ops op h'
  rw[hgi op h',h.size];omega
 ·simp[h.size]
 ·rw[Deaf_own,ht.deaf]
 rw[ofEvents_eq] at av
 obtain⟨e',he,rfl⟩:=Array.mem_map.1 av
 have hl:=Go.ConcR.loc_of_ofEvent e
 have:=ht.tP e' he
 unfold Fz at this
 rw[hl] at this
 simp[An] at this
structure Sr(I:(Nat→St)→World→Trace→Prop):Prop where
 grow:∀K w t u,I K w t→(∀op∈u,∀a,op.act≠ .mark (.release a))→I K w (t++u)
 drawn:∀K w t d,I K w t→I K (w.at d) t
 le:∀K w t s,I K w t→s.le (K 0)→I (dL K 0 s) w t
 own:∀K w t s' w' es u,I K w t→Trans (K 0) w s' w' es→(∀op∈u,∀a,op.act≠ .mark (.release a))→I (dL K 0 s') w' (t++u)
def TL(P:Program)(G:Trace→Nat→Prop)(L:Nat→Option Obj)(I:(Nat→St)→World→Trace→Prop)(Q:Machine→Outcome→World→Trace→Prop)(g:Goroutine)(s:St):Prop:=
 ∀K gs w t q sl,Lv P G L K gs w t q→gs[0]?=some g→s.le (K 0)→Deaf t 0=0→I K w t→Ends P Q (crowd gs w sl) t
theorem FB(hG:LU G){I:(Nat→St)→World→Trace→Prop}(hI:Sr I){Q:Machine→Outcome→World→Trace→Prop}{g:Goroutine}(hs:g.status= .running)
 (h:∀K gs w t q sl m,Lv P G L K gs w t q→gs[0]?=some g→K 0=s→Deaf t 0=0→I K w t→stepT P m=runT P (crowd gs w sl) 0→(m.gs=gs∧m.rest.timers= #[])→Ends P Q m t):TL P G L I Q g s:=by
 intro K gs w t q sl hL h0 hle hd hi
 generalize hn:q.sum=n
 induction n using Nat.strongRecOn generalizing K gs w t q sl with
 |_ n ih=>
  have hL:=hL.le hle
  have hi:=hI.le _ _ _ _ hi hle
  obtain⟨i,bk,d,CF,aN,wF,bE⟩:=crowd_pick (P:=P) (gs:=gs) (w:=w) (sl:=sl) (fun x hx=>by
   obtain⟨j,hj,rfl⟩:=Array.mem_iff_getElem.1 hx
   have XB:gs[j]?=some gs[j]:=Array.getElem?_eq_getElem hj
   intro k
   cases j with
   |zero=>rw[h0] at XB;rw[←Option.some.inj XB,hs];simp
   |succ j=>
    have bO:j <q.length:=by have:=hL.size;omega
    obtain⟨y,d,hy,hq,_⟩:=hL.ok j _ (List.getElem?_eq_getElem bO)
    rw[XB] at hy
    rw[Option.some.inj hy]
    rcases hq.status with e|e<;>rw[e]<;>simp) ⟨0,g,h0,hs⟩
  cases i with
  |zero=>exact h _ gs (w.at d) t q CF _ (hL.at d) h0 (au _ _ _) hd (hI.drawn _ _ _ _ hi) bE ⟨rfl,rfl⟩
  |succ i=>
   obtain⟨e8,u,q',hr,hL',KO,yE,bO,hrl⟩:=(hL.at d).leave (sl:=CF) hG h0 hs aN wF
   refine Ends.next (bE.trans hr) (ih q'.sum (hn▸bO) _ e8 _ _ q' CF hL' KO ?_ (by rw[yE];exact hd) (hI.grow _ _ _ _ (hI.drawn _ _ _ _ hi) hrl) rfl)
   rw[au];exact St.le_refl _
theorem Cw(hG:LU G){I:(Nat→St)→World→Trace→Prop}(hI:Sr I)(Q:Machine→Outcome→World→Trace→Prop):Closed P true (TL P G L I Q) where
 step:=fun g s hs h=>FB hG hI hs fun K gs w t q sl m hL h0 hK hd hi bE _=>by
  subst hK
  obtain⟨g',w',es,s',hgo,_,ht,hT⟩:=h w (hL.fit.iX 0)
  obtain⟨e8,u,hr,hL',KO,yE,hrl⟩:=hL.own (sl:=sl) hG h0 hgo ht
  exact Ends.next (bE.trans hr) (hT _ e8 w' _ q sl hL' KO (by rw[au];exact St.le_refl _) (by rw[yE];exact hd) (hI.own _ _ _ _ _ _ _ hi ht hrl))
 mono:=fun g s s' hl h K gs w t q sl hL h0 hle hd hi=>h K gs w t q sl hL h0 (hl.trans hle) hd hi
end
abbrev DY:=Option Value×Option Value
abbrev dr:DY:=(none,none)
def H8:DY→Nat→Option Value
 | (a,_),0=>a
 | (_,b),1=>b
 |_,_=>none
theorem R9(off:Nat):H8 dr off=none:=by
 match off with
 |0=>rfl
 |1=>rfl
 |_+2=>rfl
def NY:DY→Nat→Value→DY
 | (_,b),0,v=>(some v,b)
 | (a,_),1,v=>(a,some v)
 |c,_,_=>c
inductive RH(α:Type) where
 |ok (a:α)
 |halt (h:Halt)
structure VO(α:Type) where
 r:RH α
 ws:List (Nat×Value)
 es:List Event
 bs:List Nat
def wQ(P:Program)(ty:TypeId):Sem α→DY→Option (VO α)
 | .pure a,_=>some ⟨.ok a,[],[],[]⟩
 | .load m a k,c=>match a.spot with
  |some _=>none
  |none=>match H8 c a.off with
   |some v=>match wQ P ty (k v) c with
    |some o=>some ⟨o.r,o.ws,⟨.cell a,false,m== .atomic⟩::o.es,a.block::o.bs⟩
    |none=>none
   |none=>none
 | .store m a v k,c=>match a.spot with
  |some _=>none
  |none=>bif single v then (match H8 c a.off with
   |some _=>match wQ P ty k (NY c a.off v) with
    |some o=>some ⟨o.r,(a.off,v)::o.ws,⟨.cell a,true,m== .atomic⟩::o.es,a.block::o.bs⟩
    |none=>none
   |none=>none) else none
 | .shape r k,c=>match wQ P ty (k (some (ty,2))) c with
  |some o=>some ⟨o.r,o.ws,o.es,r::o.bs⟩
  |none=>none
 | .frozen a k,c=>match wQ P ty (k false) c with
  |some o=>some ⟨o.r,o.ws,o.es,a.block::o.bs⟩
  |none=>none
 | .program k,c=>wQ P ty (k P) c
 | .mark m k,c=>match wQ P ty k c with
  |some o=>some ⟨o.r,o.ws,⟨.mark m,false,true⟩::o.es,o.bs⟩
  |none=>none
 | .halt h,_=>some ⟨.halt h,[],[],[]⟩
 |_,_=>none
def fF(ty:TypeId)(W:Nat)(w:World)(c:DY):Prop:=∃a b,w.heap[W]?=some (.cells #[a,b] ty)∧(∀x,c.1=some x→a=x)∧∀x,c.2=some x→b=x
theorem fF.acx{W:Nat}{w:World}{c:DY}(h:fF ty W w c):∃a b,w.heap[W]?=some (.cells #[a,b] ty):=by
 obtain⟨a,b,h,_⟩:=h
 exact⟨a,b,h⟩
def CV(W:Nat)(w:World)(ws:List (Nat×Value)):World:=ws.foldl (fun w x=>w.setCell ⟨W,x.1,none⟩ x.2) w
def RH.to(w:World):RH α→Result α
 | .ok a=> .ok a w
 | .halt h=> .halt h w
theorem H7{W:Nat}{w:World}{c:DY}(h:fF ty W w c){v:Value}(hv:H8 c off=some v):w.cell? ⟨W,off,none⟩=some v:=by
 obtain⟨p,q,h,h1,h2⟩:=h
 unfold H8 at hv
 split at hv<;>try (cases hv;done)
 ·rw[←h1 _ hv];simp[World.cell?,h]
 rw[←h2 _ hv];simp[World.cell?,h]
theorem aaO{W:Nat}{w:World}{c:DY}(h:fF ty W w c){u v:Value}(hv:H8 c off=some u):fF ty W (w.setCell ⟨W,off,none⟩ v) (NY c off v):=by
 obtain⟨p,q,h,h1,h2⟩:=h
 unfold H8 at hv
 split at hv<;>try (cases hv;done)
 ·exact⟨v,q,by simp[World.setCell,Array.getElem?_modify,h],by simp[NY],fun x hx=>h2 x hx⟩
 exact⟨p,v,by simp[World.setCell,Array.getElem?_modify,h],fun x hx=>h1 x hx,by simp[NY]⟩
theorem ab5{W:Nat}{w:World}{a b:Value}(h:w.heap[W]?=some (.cells #[a,b] ty)) (off:Nat) (s:Option Nat):w.frozen? ⟨W,off,s⟩=false:=by
 simp[World.frozen?,h]
theorem MB{P:Program}{W:Nat}(x:Sem α):∀ {c:DY} {o:VO α} {w:World} (es:Array Event),wQ P ty x c=some o→(∀b∈o.bs,b=W)→((c=dr∧o.bs=[])∨fF ty W w c)→x.runT P w es=(o.r.to (CV W w o.ws),es++o.es.toArray):=by
 induction x with
 |pure a=>intro c o w es h hb hc;simp only[wQ,Option.some.injEq] at h;subst h;simp[Sem.runT,RH.to,CV]
 |halt a=>intro c o w es h hb hc;simp only[wQ,Option.some.injEq] at h;subst h;simp[Sem.runT,RH.to,CV]
 |load m a k ih=>
  intro c o w es h hb hc
  simp only[wQ] at h
  split at h<;>try (cases h;done)
  rename_i hs
  split at h<;>try (cases h;done)
  rename_i v hv
  split at h<;>try (cases h;done)
  rename_i o1 h1
  simp only[Option.some.injEq] at h;subst h
  have e:a=⟨W,a.off,none⟩:=by
   have:=hb a.block (by simp)
   rcases a with ⟨x,y,z⟩
   simp only at hs this
   subst hs this;rfl
  have uZ:fF ty W w c:=hc.elim (fun hh=>by rw[hh.1] at hv;rw[R9] at hv;cases hv) id
  have fY:w.cell? a=some v:=by rw[e];exact H7 uZ hv
  simp only[Sem.runT,fY]
  rw[ih v _ h1 (fun b hm=>hb b (by simp[hm])) (.inr uZ)]
  simp
 |store m a v k ih=>
  intro c o w es h hb hc
  simp only[wQ] at h
  split at h<;>try (cases h;done)
  rename_i hs
  cases hsg:single v with
  |false=>rw[hsg] at h;cases h
  |true=>
  rw[hsg] at h;simp only[cond_true] at h
  split at h<;>try (cases h;done)
  rename_i u hu
  split at h<;>try (cases h;done)
  rename_i o1 h1
  simp only[Option.some.injEq] at h;subst h
  have e:a=⟨W,a.off,none⟩:=by
   have:=hb a.block (by simp)
   rcases a with ⟨x,y,z⟩
   simp only at hs this
   subst hs this;rfl
  have uZ:fF ty W w c:=hc.elim (fun hh=>by rw[hh.1] at hu;rw[R9] at hu;cases hu) id
  have fY:w.cell? a=some u:=by rw[e];exact H7 uZ hu
  have zt:w.frozen? a=false:=by
   obtain⟨p,q,Xr⟩:=uZ.acx
   rw[e];exact ab5 Xr _ _
  have qe:=aaO (v:=v) uZ hu
  have key:(Sem.store m a v k).runT P w es=k.runT P (w.setCell a v) (es.push ⟨.cell a,true,m== .atomic⟩):=by
   cases v<;>first| (cases hsg;done)|simp[Sem.runT,fY,zt]
  rw[key,ih _ h1 (fun b hm=>hb b (by simp[hm])) (.inr (by rw[e];exact qe))]
  simp only[CV,List.foldl_cons]
  rw[←e]
  simp
 |shape r k ih=>
  intro c o w es h hb hc
  simp only[wQ] at h
  split at h<;>try (cases h;done)
  rename_i o1 h1
  simp only[Option.some.injEq] at h;subst h
  have e:r=W:=hb r (by simp)
  have uZ:fF ty W w c:=hc.elim (fun hh=>by cases hh.2) id
  have hsh:w.shape? r=some (ty,2):=by
   obtain⟨p,q,Xr⟩:=uZ.acx
   rw[e];simp[World.shape?,Xr]
  simp only[Sem.runT,hsh]
  exact ih _ _ h1 (fun b hm=>hb b (by simp[hm])) (.inr uZ)
 |frozen a k ih=>
  intro c o w es h hb hc
  simp only[wQ] at h
  split at h<;>try (cases h;done)
  rename_i o1 h1
  simp only[Option.some.injEq] at h;subst h
  have e:a.block=W:=hb a.block (by simp)
  have uZ:fF ty W w c:=hc.elim (fun hh=>by cases hh.2) id
  have hsh:w.frozen? a=false:=by
   obtain⟨p,q,Xr⟩:=uZ.acx
   rcases a with ⟨x,y,z⟩
   simp only at e;subst e;exact ab5 Xr _ _
  simp only[Sem.runT,hsh]
  exact ih _ _ h1 (fun b hm=>hb b (by simp[hm])) (.inr uZ)
 |program k ih=>
  intro c o w es h hb hc
  simp only[wQ] at h
  simp only[Sem.runT]
  exact ih _ _ h hb hc
 |mark m k ih=>
  intro c o w es h hb hc
  simp only[wQ] at h
  split at h<;>try (cases h;done)
  rename_i o1 h1
  simp only[Option.some.injEq] at h;subst h
  simp only[Sem.runT]
  rw[ih _ h1 (fun b hm=>hb b hm) hc]
  simp
 |new o k ih=>intro c o w es h;cases h
 |freeze a n k ih=>intro c o w es h;cases h
 |getObj r k ih=>intro c o w es h;cases h
 |setObj r o k ih=>intro c o w es h;cases h
 |choose q k ih=>intro c o w es h;cases h
 |sys q k ih=>intro c o w es h;cases h
def avq(fr:Frame):Option Frame:=
 match fr.todo with
 | []=>match fr.roundOf with
  |none=>some {fr with mode:= .returning}
  |some _=>none
 | .code .ret::_=>match fr.roundOf with
  |none=>some {fr with mode:= .returning}
  |some _=>none
 | .code .skip::k=>some {fr with todo:=k}
 | .code (.label _)::k=>some {fr with todo:=k}
 | .inBlock _::k=>some {fr with todo:=k}
 | .inScope _::k=>some {fr with todo:=k}
 | .code (.seq a b)::k=>some {fr with todo:= .code a:: .code b::k}
 | .code (.cond c x y)::k=>match fr.eval c with
  | .bool b=>some {fr with todo:= .code (if b then x else y)::k}
  |_=>none
 | .code (.block id body)::k=>some {fr with todo:= .code body:: .inBlock id::k}
 | .code (.loop body)::k=>some {fr with todo:= .code body:: .inLoop body::k}
 | .inLoop body::k=>some {fr with todo:= .code body:: .inLoop body::k}
 | .code (.scope body)::k=>some {fr with todo:= .code body:: .inScope body::k}
 | .code (.exit id)::k=>match exitTo id k with
  |some k'=>some {fr with todo:=k'}
  |none=>none
 | .code (.region _ ops false)::k=>some {fr with todo:= .inRegion ops (List.range ops.size)::k}
 | .inRegion _ []::k=>some {fr with todo:=k}
 | .inRegion ops (i::_)::_=>if ((ops[i]?).map (Region.wanted · (yielded ops fr.tmps))).getD false then none else some (fr.finish undef)
 |_=>none
theorem amK{P:Program}(hm:fr.mode= .run)(h:avq fr=some jO)(w:World):stepG P main (G fr cs) w= .go (G jO cs) w #[]:=by
 rcases fr with ⟨fn,tmps,todo,defers,mode,kind,ro⟩
 simp only at hm;subst hm
 unfold avq at h
 simp only at h
 split at h
 all_goals try (cases h;done)
 all_goals try (simp only[Option.some.injEq] at h;subst h;simp[G,stepG,stepG.exec];done)
 ·split at h<;>try (cases h;done)
  simp only[Option.some.injEq] at h;subst h;simp[G,stepG,stepG.exec]
 ·split at h<;>try (cases h;done)
  simp only[Option.some.injEq] at h;subst h;simp[G,stepG,stepG.exec]
 ·split at h<;>try (cases h;done)
  rename_i b hb
  simp only[Option.some.injEq] at h;subst h
  simp only[G,stepG,stepG.exec,hb]
 ·split at h<;>try (cases h;done)
  rename_i b hb
  simp only[Option.some.injEq] at h;subst h
  simp[G,stepG,stepG.exec,hb]
 split at h<;>try (cases h;done)
 rename_i hw
 simp only[Option.some.injEq] at h;subst h
 simp only[G,stepG,stepG.exec,hw]
 simp
inductive OV where
 |go (fr:Frame) (eB:List Frame)
 |ret (v:Value)
 |ajL
 |block
abbrev OVs:=Option (OV×List (Nat×Value)×List Event×List Nat)
def wB(P:Program)(fn:FuncId)(es:List Event):List Event:=(seen P fn es.toArray).toList
def FL:CallKind→Bool
 | .early=>true
 |_=>false
def adN(P:Program)(ty:TypeId)(c:DY)(fr:Frame)(eB:List Frame):OVs:=
 match fr.todo with
 | .inRegion ops (i::_)::_=>bif ((ops[i]?).map (Region.wanted · (yielded ops fr.tmps))).getD false&& !(FL fr.kind) then (match fr.roundOf,fr.oper? with
  |none,some o=>match wQ P ty (execOp fr.eval o) c with
   |some ⟨.ok (.value v),ws,es,bs⟩=>some (.go (fr.finish v) eB,ws,wB P fr.fn es,bs)
   |some ⟨.ok .skip,ws,es,bs⟩=>some (.go (fr.finish undef) eB,ws,wB P fr.fn es,bs)
   |some ⟨.ok (.enter f args),ws,es,bs⟩=>some (.go (Frame.enter P f args .normal) (fr::eB),ws,wB P fr.fn es,bs)
   |some ⟨.ok (.defer d),ws,es,bs⟩=>some (.go ({fr with defers:=d::fr.defers}.finish undef) eB,ws,wB P fr.fn es,bs)
   |some ⟨.halt .blocked,ws,_,bs⟩=>some (.block,ws,[],bs)
   |_=>none
  |_,_=>none) else none
 |_=>none
def aBs:Target→Bool
 | .fn .. =>true
 |_=>false
def aqK(P:Program)(ty:TypeId)(c:DY)(fr:Frame)(eB:List Frame):OVs:=
 match fr.defers with
 | []=>match P.funcs[fr.fn]? with
  |some fn=>match wQ P ty (results fn fr.tmps) c with
   |some ⟨.ok v,ws,es,bs⟩=>match eB with
    |q::dH=>match fr.kind with
     | .normal=>some (.go (q.finish v) dH,ws,wB P fr.fn es,bs)
     | .deferred=>match q.mode with
      | .returning=>some (.go q dH,ws,wB P fr.fn es,bs)
      |_=>none
     |_=>none
    | []=>match fr.kind with
     | .normal=>some (.ret v,ws,wB P fr.fn es,bs)
     | .deferred=>some (.ajL,ws,wB P fr.fn es,bs)
     |_=>none
   |_=>none
  |none=>none
 |d::ds=>bif aBs d.target then (match wQ P ty (invoke d.target d.args) c with
  |some ⟨.ok (.value _),ws,es,bs⟩=>some (.go {fr with defers:=ds} eB,ws,wB P fr.fn es,bs)
  |some ⟨.ok (.enter f args),ws,es,bs⟩=>some (.go (Frame.enter P f args .deferred) ({fr with defers:=ds}::eB),ws,wB P fr.fn es,bs)
  |_=>none) else none
def GN(P:Program)(ty:TypeId)(c:DY)(fr:Frame)(eB:List Frame):OVs:=
 match fr.mode with
 | .run=>match avq fr with
  |some jO=>some (.go jO eB,[],[],[])
  |none=>adN P ty c fr eB
 | .returning=>aqK P ty c fr eB
 |_=>none
def OV.is(P:Program)(main:Bool)(g:Goroutine)(w w':World)(es:Array Event)(cs:List Frame):OV→Prop
 | .go fr eB=>stepG P main g w= .go (G fr (eB++cs)) w' es
 | .ret v=>(∀c IZ,cs=c::IZ→stepG P main g w= .go (G (c.finish v) IZ) w' es)
 | .ajL=>(∀c IZ,cs=c::IZ→(c.mode= .returning∨∃ch,c.mode= .panicking [⟨ch,false,true⟩])→stepG P main g w= .go (G c IZ) w' es)
 | .block=>stepG P main g w= .go {g with status:= .blocked} w' es
section
variable {P:Program} {main:Bool} {ty:TypeId} {W:Nat} {c:DY} {fr:Frame} {eB cs:List Frame} {w:World} {o:OV} {ws:List (Nat×Value)} {es:List Event} {bs:List Nat}
theorem toArr(P:Program)(fn:FuncId)(es:List Event):(wB P fn es).toArray=seen P fn es.toArray:=by simp[wB]
theorem adM(hm:fr.mode= .run)(h:adN P ty c fr eB=some (o,ws,es,bs))(hb:∀b∈bs,b=W)(hc:(c=dr∧bs=[])∨fF ty W w c)(cs:List Frame)(main:Bool):o.is P main (G fr (eB++cs)) w (CV W w ws) es.toArray cs:=by
 rcases fr with ⟨fn,tmps,todo,defers,mode,kind,ro⟩
 simp only at hm;subst hm
 unfold adN at h
 simp only at h
 split at h<;>try (cases h;done)
 rename_i ops i rest k
 cases hw:(((ops[i]?).map (Region.wanted · (yielded ops tmps))).getD false&& !(FL kind)) with
 |false=>rw[hw] at h;cases h
 |true=>
 rw[hw] at h;simp only[cond_true] at h
 simp only[Bool.and_eq_true] at hw
 have hk:(kind==CallKind.early)=false:=by cases kind<;>first|rfl|cases hw.2
 split at h<;>try (cases h;done)
 rename_i op av
 have gz:∀cs,stepG P main (G ⟨fn,tmps,.inRegion ops (i::rest)::k,defers,.run,kind,none⟩ cs) w=stepG.apply P true ⟨fn,tmps,.inRegion ops (i::rest)::k,defers,.run,kind,none⟩ cs none (execOp (Frame.eval ⟨fn,tmps,.inRegion ops (i::rest)::k,defers,.run,kind,none⟩) op) w:=by
  intro cs
  simp only[G,stepG,stepG.exec,hw.1,if_true,stepG.oper,av]
 split at h<;>try (cases h;done)
 all_goals
  rename_i heq hv
  simp only[Option.some.injEq,Prod.mk.injEq] at h
  obtain⟨rfl,rfl,rfl,rfl⟩:=h
  have bx:=MB _ (w:=w) #[] hv hb hc
  simp only[RH.to,Array.empty_append] at bx
  simp only[OV.is]
  rw[gz]
  simp only[stepG.apply,bx,if_true,hk,Bool.false_eq_true,if_false,GStep.after,Array.append_empty,G,toArr]
 all_goals first|rfl| (simp[seen_none];done)
theorem ajg(hm:fr.mode= .returning)(h:aqK P ty c fr eB=some (o,ws,es,bs))(hb:∀b∈bs,b=W)(hc:(c=dr∧bs=[])∨fF ty W w c)(cs:List Frame)(main:Bool):o.is P main (G fr (eB++cs)) w (CV W w ws) es.toArray cs:=by
 rcases fr with ⟨fn,tmps,todo,defers,mode,kind,ro⟩
 simp only at hm;subst hm
 unfold aqK at h
 simp only at h
 split at h
 ·split at h<;>try (cases h;done)
  rename_i f hf
  split at h<;>try (cases h;done)
  rename_i v ws' eE oC hv
  have bx:=fun hb hc=>MB _ (w:=w) #[] hv (W:=W) hb hc
  simp only[RH.to,Array.empty_append] at bx
  have key:(∀b∈oC,b=W)→((c=dr∧oC=[])∨fF ty W w c)→∀cs,stepG P main (G ⟨fn,tmps,todo,[],.returning,kind,ro⟩ cs) w=GStep.after (seen P fn eE.toArray) (doReturn P main ⟨fn,tmps,todo,[],.returning,kind,ro⟩ cs none v (CV W w ws')):=by
   intro hb hc cs
   simp only[G,stepG,unwind,hf,bx hb hc]
  split at h
  ·split at h<;>try (cases h;done)
   ·simp only[Option.some.injEq,Prod.mk.injEq] at h
    obtain⟨rfl,rfl,rfl,rfl⟩:=h
    simp only[OV.is]
    rw[key hb hc]
    simp only[List.cons_append,doReturn,GStep.after,Array.append_empty,toArr,G]
   split at h<;>try (cases h;done)
   rename_i q dH hmq
   simp only[Option.some.injEq,Prod.mk.injEq] at h
   obtain⟨rfl,rfl,rfl,rfl⟩:=h
   simp only[OV.is]
   rw[key hb hc]
   simp only[List.cons_append,doReturn,hmq,GStep.after,Array.append_empty,toArr,G]
  split at h<;>try (cases h;done)
  ·simp only[Option.some.injEq,Prod.mk.injEq] at h
   obtain⟨rfl,rfl,rfl,rfl⟩:=h
   intro q IZ hq
   subst hq
   rw[key hb hc]
   simp only[List.nil_append,doReturn,GStep.after,Array.append_empty,toArr,G]
  simp only[Option.some.injEq,Prod.mk.injEq] at h
  obtain⟨rfl,rfl,rfl,rfl⟩:=h
  intro q IZ hq hmq
  subst hq
  rw[key hb hc]
  rcases hmq with hmq| ⟨ch,hmq⟩
  ·simp only[List.nil_append,doReturn,hmq,GStep.after,Array.append_empty,toArr,G]
  simp only[List.nil_append,doReturn,hmq,GStep.after,Array.append_empty,toArr,G]
 rename_i d ds
 cases hd:aBs d.target with
 |false=>rw[hd] at h;cases h
 |true=>
 rw[hd] at h;simp only[cond_true] at h
 rcases d with ⟨tg,args⟩
 cases tg with
 |fn f cap=>
  split at h<;>try (cases h;done)
  all_goals
   rename_i hv
   simp only[Option.some.injEq,Prod.mk.injEq] at h
   obtain⟨rfl,rfl,rfl,rfl⟩:=h
   have bx:=MB _ (w:=w) #[] hv hb hc
   simp only[RH.to,Array.empty_append] at bx
   simp only[OV.is]
   simp only[G,stepG,unwind,callDeferred,bx,GStep.after,toArr,Array.append_empty,Bool.false_and,Bool.false_eq_true,if_false,List.cons_append]
 |_=>cases hd
theorem kN(h:GN P ty c fr eB=some (o,ws,es,bs))(hb:∀b∈bs,b=W)(hc:(c=dr∧bs=[])∨fF ty W w c)(cs:List Frame)(main:Bool):o.is P main (G fr (eB++cs)) w (CV W w ws) es.toArray cs:=by
 unfold GN at h
 split at h<;>try (cases h;done)
 ·rename_i hm
  split at h
  ·rename_i jO UX
   simp only[Option.some.injEq,Prod.mk.injEq] at h
   obtain⟨rfl,rfl,rfl,rfl⟩:=h
   exact amK hm UX w
  exact adM hm h hb hc cs main
 rename_i hm
 exact ajg hm h hb hc cs main
end
def aht:Event→Option (Nat×Nat×List Nat)
 | ⟨.mark .disable,false,true⟩=>some (1,0,[])
 | ⟨.mark .enable,false,true⟩=>some (2,0,[])
 | ⟨.mark (.releaseMerge ⟨b,o,none⟩),false,true⟩=>some (3,o,[b])
 | ⟨.mark (.acquire ⟨b,o,none⟩),false,true⟩=>some (4,o,[b])
 | ⟨.mark (.read ⟨b,o,none⟩),false,true⟩=>some (5,o,[b])
 | ⟨.mark (.write ⟨b,o,none⟩),false,true⟩=>some (6,o,[b])
 | ⟨.cell ⟨b,o,none⟩,false,true⟩=>some (7,o,[b])
 | ⟨.cell ⟨b,o,none⟩,true,true⟩=>some (8,o,[b])
 |_=>none
def xX(W:Nat)(x:Nat×Nat):Event:=
 match x.1 with
 |1=>said .disable
 |2=>said .enable
 |3=>said (.releaseMerge ⟨W,x.2,none⟩)
 |4=>said (.acquire ⟨W,x.2,none⟩)
 |5=>said (.read ⟨W,x.2,none⟩)
 |6=>said (.write ⟨W,x.2,none⟩)
 |7=>⟨.cell ⟨W,x.2,none⟩,false,true⟩
 |_=>⟨.cell ⟨W,x.2,none⟩,true,true⟩
theorem ahs{W:Nat}{e:Event}{k o:Nat}{bs:List Nat}(h:aht e=some (k,o,bs))(hb:∀b∈bs,b=W):e=xX W (k,o):=by
 unfold aht at h
 split at h<;>try (cases h;done)
 all_goals
  simp only[Option.some.injEq,Prod.mk.injEq] at h
  obtain⟨rfl,rfl,rfl⟩:=h
 ·rfl
 ·rfl
 all_goals
  have:=hb _ (List.mem_singleton.2 rfl)
  subst this
  rfl
def H2:List Event→Option (List (Nat×Nat)×List Nat)
 | []=>some ([],[])
 |e::l=>match aht e,H2 l with
  |some (k,o,b),some (r,bs)=>some ((k,o)::r,b++bs)
  |_,_=>none
theorem Lu{W:Nat}:∀ {es:List Event} {ks:List (Nat×Nat)} {bs:List Nat},H2 es=some (ks,bs)→(∀b∈bs,b=W)→es=ks.map (xX W)
 | [],ks,bs,h,hb=>by simp only[H2,Option.some.injEq,Prod.mk.injEq] at h;obtain⟨rfl,rfl⟩:=h;rfl
 |e::l,ks,bs,h,hb=>by
  simp only[H2] at h
  split at h<;>try (cases h;done)
  rename_i k o b r oC h1 h2
  simp only[Option.some.injEq,Prod.mk.injEq] at h
  obtain⟨rfl,rfl⟩:=h
  rw[List.map_cons,←ahs h1 (fun x hx=>hb x (by simp[hx])),←Lu h2 (fun x hx=>hb x (by simp[hx]))]
abbrev Bl:=Option (List Nat)
def ah5:List Nat→Bl→Bl
 |a,some b=>some (a++b)
 |_,none=>none
def both:Bl→Bl→Bl
 |some a,some b=>some (a++b)
 |_,_=>none
def aa1(f:α→Bl):List α→Bl
 | []=>some []
 |x::l=>both (f x) (aa1 f l)
theorem Od{a bs:List Nat}{x:Bl}(h:ah5 a x=some bs){W:Nat}(hb:∀b∈bs,b=W):(∀b∈a,b=W)∧∃y,x=some y∧∀b∈y,b=W:=by
 cases x with
 |none=>cases h
 |some y=>
  simp only[ah5,Option.some.injEq] at h;subst h
  exact⟨fun b hm=>hb b (by simp[hm]),y,rfl,fun b hm=>hb b (by simp[hm])⟩
theorem sV{bs:List Nat}{x y:Bl}(h:both x y=some bs){W:Nat}(hb:∀b∈bs,b=W):(∃a,x=some a∧∀b∈a,b=W)∧∃a,y=some a∧∀b∈a,b=W:=by
 cases x with
 |none=>cases h
 |some a=>
  cases y with
  |none=>cases h
  |some b=>
   simp only[both,Option.some.injEq] at h;subst h
   exact⟨⟨a,rfl,fun b hm=>hb b (by simp[hm])⟩,b,rfl,fun b hm=>hb b (by simp[hm])⟩
theorem we{f:α→Bl}{W:Nat}:∀ {l:List α} {bs:List Nat},aa1 f l=some bs→(∀b∈bs,b=W)→∀x∈l,∃a,f x=some a∧∀b∈a,b=W
 | [],_,_,_,x,hx=>by cases hx
 |y::l,bs,h,hb,x,hx=>by
  obtain⟨h1,h2,h3,h4⟩:=sV h hb
  rcases List.mem_cons.1 hx with rfl|hx
  ·exact h1
  exact we h3 h4 x hx
def yI(P:Program)(ty:TypeId):Nat→Frame→List Frame→(Frame→List Frame→Bl)→Bl
 |0,_,_,_=>none
 |n+1,fr,eB,k=>match GN P ty dr fr eB with
  |some (.go jO dH,[],[],bs)=>ah5 bs (yI P ty n jO dH k)
  |_=>k fr eB
def SV(P:Program)(ty:TypeId)(c:DY)(fr:Frame)(eB:List Frame):Option (Frame×List Frame×List (Nat×Value)×List (Nat×Nat)×List Nat×List Nat):=
 match GN P ty c fr eB with
 |some (.go jO dH,ws,es,bs)=>match H2 es with
  |some (ks,b2)=>some (jO,dH,ws,ks,bs,b2)
  |none=>none
 |_=>none
def i64(n:Int):Value:= .int .u64 n
def i32(n:Int):Value:= .int .u32 n
def VH:List (Nat×Nat)→List (Nat×Nat)→Bool
 | [],[]=>true
 | (a,b)::l,(c,d)::m=>Nat.beq a c&&(Nat.beq b d&&VH l m)
 |_,_=>false
theorem Yh:∀ {l m:List (Nat×Nat)},VH l m=true→l=m
 | [],[],_=>rfl
 | (a,b)::l,(c,d)::m,h=>by
  simp only[VH,Bool.and_eq_true] at h
  rw[Nat.eq_of_beq_eq_true h.1,Nat.eq_of_beq_eq_true h.2.1,Yh h.2.2]
 | [],_::_,h=>by simp[VH] at h
 |_::_,[],h=>by simp[VH] at h
def aaT:List (Nat×Value)→Option (Nat×IntKind×Int)→Bool
 | [],none=>true
 | [(o,.int k n)],some (o',k',n')=>Nat.beq o o'&&(decide (k=k')&&decide (n=n'))
 |_,_=>false
theorem aaS{l:List (Nat×Value)}(h:aaT l none=true):l=[]:=by
 unfold aaT at h
 split at h
 ·rfl
 ·rename_i heq;cases heq
 cases h
theorem aaR{l:List (Nat×Value)}{o:Nat}{k:IntKind}{n:Int}(h:aaT l (some (o,k,n))=true):l=[(o,.int k n)]:=by
 unfold aaT at h
 split at h
 ·rename_i heq;cases heq
 ·rename_i heq
  cases heq
  simp only[Bool.and_eq_true,decide_eq_true_eq] at h
  rw[Nat.eq_of_beq_eq_true h.1,h.2.1,h.2.2]
 cases h
def yU(P:Program)(ty:TypeId)(c:DY)(m:Bool)(wr:Option (Nat×IntKind×Int))(ks:List (Nat×Nat))(fr:Frame)(eB:List Frame)(k:Frame→List Frame→Bl):Bl:=
 match SV P ty c fr eB with
 |some (jO,dH,ws,ks',b1,b2)=>bif aaT ws wr&&(VH ks' ks&&(!m||b1.isEmpty)) then ah5 b1 (ah5 b2 (k jO dH)) else none
 |none=>none
section
variable {P:Program} {ty:TypeId} {W:Nat}
theorem Bh{c:DY}{dH:List Frame}{ws:List (Nat×Value)}{ks:List (Nat×Nat)}{b1 b2:List Nat}(h:SV P ty c fr eB=some (jO,dH,ws,ks,b1,b2))(h1:∀b∈b1,b=W)(h2:∀b∈b2,b=W)
 {w:World}(hc:(c=dr∧b1=[])∨fF ty W w c)(cs:List Frame)(main:Bool):stepG P main (G fr (eB++cs)) w= .go (G jO (dH++cs)) (CV W w ws) (ks.map (xX W)).toArray:=by
 unfold SV at h
 split at h<;>try (cases h;done)
 rename_i h0
 split at h<;>try (cases h;done)
 rename_i hk
 simp only[Option.some.injEq,Prod.mk.injEq] at h
 obtain⟨rfl,rfl,rfl,rfl,rfl,rfl⟩:=h
 have:=kN h0 h1 hc cs main
 simp only[OV.is] at this
 rw[this,Lu hk h2]
def wrote(W:Nat)(w:World):Option (Nat×IntKind×Int)→World
 |none=>w
 |some (o,k,n)=>w.setCell ⟨W,o,none⟩ (.int k n)
theorem dv{c:DY}{m:Bool}{x:Option (Nat×IntKind×Int)}{ks:List (Nat×Nat)}{k:Frame→List Frame→Bl}{bs:List Nat}(h:yU P ty c m x ks fr eB k=some bs)(hb:∀b∈bs,b=W):
 ∃jO dH oC,k jO dH=some oC∧(∀b∈oC,b=W)∧∀cs main w,((c=dr∧m=true)∨fF ty W w c)→stepG P main (G fr (eB++cs)) w= .go (G jO (dH++cs)) (wrote W w x) (ks.map (xX W)).toArray:=by
 unfold yU at h
 split at h<;>try (cases h;done)
 rename_i jO dH ws ks' b1 b2 hv
 cases hq:(aaT ws x&&(VH ks' ks&&(!m||b1.isEmpty))) with
 |false=>rw[hq] at h;cases h
 |true=>
 rw[hq] at h;simp only[cond_true] at h
 simp only[Bool.and_eq_true] at hq
 obtain⟨q1,q2,q3⟩:=hq
 obtain⟨h1,y,hy,QJ⟩:=Od h hb
 obtain⟨h2,z,hz,zn⟩:=Od hy QJ
 refine⟨jO,dH,z,hz,zn,fun cs main w hc=>?_⟩
 have:=Bh hv h1 h2 (w:=w) (by
  rcases hc with ⟨hc,hm⟩|hc
  ·subst hm
   simp at q3
   exact .inl ⟨hc,q3⟩
  exact .inr hc) cs main
 rw[this,Yh q2]
 cases x with
 |none=>rw[aaS q1];rfl
 |some x=>
  obtain⟨o,kd,n⟩:=x
  rw[aaR q1];rfl
theorem NB{k:Frame→List Frame→Bl}:∀ {n:Nat} {fr:Frame} {eB:List Frame} {bs:List Nat},yI P ty n fr eB k=some bs→(∀b∈bs,b=W)→
 ∀(T:Frame→List Frame→Prop),(∀jO dH oC,k jO dH=some oC→(∀b∈oC,b=W)→T jO dH)→
 (∀fr eB jO dH,(∀cs main w,fF ty W w dr→stepG P main (G fr (eB++cs)) w= .go (G jO (dH++cs)) w #[])→T jO dH→T fr eB)→T fr eB
 |0,_,_,_,h,_,_,_,_=>by cases h
 |n+1,fr,eB,bs,h,hb,T,hk,hs=>by
  simp only[yI] at h
  split at h
  ·rename_i jO dH b1 h0
   obtain⟨h1,y,hy,QJ⟩:=Od h hb
   refine hs fr eB jO dH (fun cs main w hc=>?_) (NB hy QJ T hk hs)
   have:=kN h0 h1 (.inr hc) cs main
   simp only[OV.is] at this
   rw[this];rfl
  exact hk _ _ _ h hb
end
section
variable {ι:Type} (E:eH ι)
theorem nO{w:World}(h:E.live w):fF E.ty E.Wg w dr:=by
 obtain⟨st,sm,h⟩:=h
 exact⟨_,_,h,by simp,by simp⟩
theorem gf{w:World}(h:WgAt E.ty E.Wg w st sm):fF E.ty E.Wg w (some (i64 st),some (i32 sm)):=⟨_,_,h,by simp[i64],by simp[i32]⟩
theorem acy{w:World}(h:WgAt E.ty E.Wg w st sm):fF E.ty E.Wg w (none,some (i32 sm)):=⟨_,_,h,by simp,by simp[i32]⟩
variable {E}
theorem fw{k:Frame→List Frame→Bl}{bs:List Nat}(h:yI E.P E.ty n fr eB k=some bs)(hb:∀b∈bs,b=E.Wg)
 (hk:∀jO dH oC,k jO dH=some oC→(∀b∈oC,b=E.Wg)→Stop (G jO (dH++cs))):E.pure main Stop (G fr (eB++cs)):=by
 refine NB h hb (fun fr eB=>E.pure main Stop (G fr (eB++cs))) (fun jO dH oC h1 h2=>⟨0,hk _ _ _ h1 h2⟩) fun fr eB jO dH h1 ⟨m,hm⟩=>⟨m+1,rfl,_,fun w hw=>h1 cs main w (nO E hw),hm⟩
def goR(P:Program)(ty:TypeId):Nat→Frame→List Frame→Bl
 |0,_,_=>none
 |n+1,fr,eB=>match GN P ty dr fr eB with
  |some (.go jO dH,[],[],[])=>goR P ty n jO dH
  |some (.ret (.tuple ⟨[]⟩),[],[],[])=>some []
  |_=>none
theorem Dq{P:Program}{c:Frame}:∀ {n:Nat} {fr:Frame} {eB:List Frame} {bs:List Nat},goR P ty n fr eB=some bs→
 ∀(main:Bool) (T:Goroutine→Prop),T (G (c.finish (.tuple #[])) cs)→(∀g g',g.status= .running→g'.status= .running→(∀w,stepG P main g w= .go g' w #[])→T g'→T g)→T (G fr (eB++c::cs))
 |0,_,_,_,h,_,_,_,_=>by cases h
 |n+1,fr,eB,bs,h,main,T,hT,hs=>by
  simp only[goR] at h
  split at h
  ·rename_i jO dH h0
   refine hs _ _ rfl rfl (fun w=>?_) (Dq h main T hT hs)
   have:=kN (W:=0) (w:=w) h0 (by simp) (.inl ⟨rfl,rfl⟩) (c::cs) main
   simp only[OV.is] at this
   rw[this];rfl
  ·rename_i h0
   refine hs _ _ rfl rfl (fun w=>?_) hT
   have:=kN (W:=0) (w:=w) h0 (by simp) (.inl ⟨rfl,rfl⟩) (c::cs) main
   simp only[OV.is] at this
   have h2:=this c cs rfl
   rw[h2];rfl
  cases h
def Qk:List Event→Bool
 | []=>true
 |e::l=>e.mute&&Qk l
def goQ(P:Program)(ty:TypeId):Nat→Nat→Frame→List Frame→Bl
 |0,_,_,_=>none
 |n+1,d,fr,eB=>match GN P ty dr fr eB with
  |some (.go jO dH,[],es,[])=>bif Qk es then goQ P ty n (deafBehind d es.toArray) jO dH else none
  |some (.ajL,[],[],[])=>bif Nat.beq d 0 then some [] else none
  |_=>none
theorem Qj:∀ {es:List Event},Qk es=true→∀e∈es,e.mute=true
 | [],_,e,he=>by cases he
 |x::l,h,e,he=>by
  simp only[Qk,Bool.and_eq_true] at h
  rcases List.mem_cons.1 he with rfl|he
  ·exact h.1
  exact Qj h.2 e he
theorem Vf{P:Program}{c:Frame}{q:Nat}(hc:c.mode= .returning∨∃ch,c.mode= .panicking [⟨ch,false,true⟩])(hq:QuitsD P q 0 (G c cs)):∀ {n d:Nat} {fr:Frame} {eB:List Frame} {bs:List Nat},goQ P ty n d fr eB=some bs→
 ∃q,QuitsD P q d (G fr (eB++c::cs))
 |0,_,_,_,_,h=>by cases h
 |n+1,d,fr,eB,bs,h=>by
  simp only[goQ] at h
  split at h
  ·rename_i jO dH es h0
   cases hm:Qk es with
   |false=>rw[hm] at h;cases h
   |true=>
   rw[hm] at h;simp only[cond_true] at h
   obtain⟨q',Hj⟩:=Vf hc hq h
   refine⟨q'+1,.inr ⟨rfl,_,es.toArray,fun e he=>Qj hm e (by simpa using he),fun w=>?_,Hj⟩⟩
   have:=kN (W:=0) (w:=w) h0 (by simp) (.inl ⟨rfl,rfl⟩) (c::cs) false
   simp only[OV.is] at this
   rw[this];rfl
  ·rename_i h0
   cases hd:Nat.beq d 0 with
   |false=>rw[hd] at h;cases h
   |true=>
   have:d=0:=Nat.eq_of_beq_eq_true hd
   subst this
   refine⟨q+1,.ctl rfl (fun w=>?_) hq⟩
   have:=kN (W:=0) (w:=w) h0 (by simp) (.inl ⟨rfl,rfl⟩) (c::cs) false
   simp only[OV.is] at this
   have h2:=this c cs rfl hc
   rw[h2];rfl
  cases h
end
section
variable (P:Program) (ty:TypeId)
abbrev AZ(a b:Int):DY:=(some (i64 a),some (i32 b))
abbrev Pz:List (Nat×Nat):=[(1,0),(7,1),(8,1),(2,0)]
def ahI(f:Frame)(s:List Frame):Bl:=bif mayWake P (G f []) then yU P ty (AZ 0 0) false (some (1,.u32,1)) Pz f s (goQ P ty 300 1) else none
def apG(f:Frame)(s:List Frame):Bl:=yU P ty (AZ 1 0) false (some (0,.u64,0)) [(8,0)] f s fun f s=>yI P ty 300 f s (ahI P ty)
def apH(f:Frame)(s:List Frame):Bl:=yU P ty (AZ 1 0) false none [(7,0)] f s fun f s=>yI P ty 300 f s (apG P ty)
def Vz(f:Frame)(s:List Frame)(v wt:Nat):Bl:=
 yU P ty (AZ (((v+1:Nat):Int)*KK+(wt:Int)) 0) false (some (0,.u64,(v:Int)*KK+(wt:Int))) [(7,0),(8,0)] f s fun f s=>bif Nat.beq v 0&&Nat.beq wt 1 then yI P ty 300 f s (apH P ty) else goQ P ty 300 1 f s
def apI(mx:Nat)(f:Frame)(s:List Frame):Bl:=aa1 (fun v=>both (Vz P ty f s v 0) (Vz P ty f s v 1)) (List.range mx)
def apF(mx:Nat)(f:Frame)(s:List Frame):Bl:=yU P ty dr true none [(1,0)] f s fun f s=>yI P ty 300 f s (apI P ty mx)
def apE(mx:Nat)(f:Frame)(s:List Frame):Bl:=yU P ty dr true none [(3,0)] f s fun f s=>yI P ty 300 f s (apF P ty mx)
def vV(mx:Nat)(f:Frame):Bl:=yI P ty 300 f [] (apE P ty mx)
def ahN(f:Frame)(s:List Frame):Bl:=yU P ty dr true none [(4,0)] f s (goR P ty 300)
def LC(f:Frame)(s:List Frame):Bl:=yU P ty dr true none [(2,0)] f s fun f s=>yI P ty 300 f s (ahN P ty)
def ahA(f:Frame)(s:List Frame):Bl:=yU P ty (AZ 0 0) false none [(7,0)] f s fun f s=>yI P ty 300 f s (LC P ty)
def ahV(c:DY)(f:Frame)(s:List Frame):Bl:=match GN P ty c f s with
 |some (.block,[],[],bs)=>some bs
 |_=>none
def ahC(f:Frame)(s:List Frame):Bl:=both (ahV P ty (none,some (i32 0)) f s) (yU P ty (AZ 0 1) false (some (1,.u32,0)) Pz f s fun f s=>yI P ty 300 f s (ahA P ty))
def X6(f:Frame)(s:List Frame):Bl:=yU P ty dr true none [(6,1)] f s fun f s=>yI P ty 300 f s (ahC P ty)
end
section
variable {ι:Type} {E:eH ι}
section leave
variable {c:Frame} {cs:List Frame} (hc:c.mode= .returning∨∃ch,c.mode= .panicking [⟨ch,false,true⟩]) {q0:Nat} (hq:QuitsD E.P q0 0 (G c cs))
include hc hq
theorem ahH{s:List Frame}{bs:List Nat}(h:ahI E.P E.ty f s=some bs)(hb:∀b∈bs,b=E.Wg):E.D4 (G f (s++c::cs)):=by
 unfold ahI at h
 cases hm:mayWake E.P (G f []) with
 |false=>rw[hm] at h;cases h
 |true=>
 rw[hm] at h;simp only[cond_true] at h
 obtain⟨f',s',oC,h1,h2,h3⟩:=dv h hb
 exact⟨rfl,hm,_,fun w hw=>h3 _ _ w (.inr (gf E hw)),Vf hc hq h1⟩
theorem ahJ{s:List Frame}{bs:List Nat}(h:apG E.P E.ty f s=some bs)(hb:∀b∈bs,b=E.Wg):E.D3 (G f (s++c::cs)):=by
 obtain⟨f',s',oC,h1,h2,h3⟩:=dv h hb
 exact⟨rfl,_,fun w hw=>h3 _ _ w (.inr (gf E hw)),fw h1 h2 fun _ _ _ k1 k2=>ahH hc hq k1 k2⟩
theorem ahK{s:List Frame}{bs:List Nat}(h:apH E.P E.ty f s=some bs)(hb:∀b∈bs,b=E.Wg):E.D2 (G f (s++c::cs)):=by
 obtain⟨f',s',oC,h1,h2,h3⟩:=dv h hb
 exact⟨rfl,_,fun w hw=>h3 _ _ w (.inr (gf E hw)),fw h1 h2 fun _ _ _ k1 k2=>ahJ hc hq k1 k2⟩
theorem ahL{s:List Frame}{bs:List Nat}(h:apI E.P E.ty E.max f s=some bs)(hb:∀b∈bs,b=E.Wg):E.D1 (G f (s++c::cs)):=by
 refine⟨rfl,fun v wt hwt hv=>?_⟩
 obtain⟨a,h1,h2⟩:=we h hb v (List.mem_range.2 hv)
 have key:∃a,Vz E.P E.ty f s v wt=some a∧∀b∈a,b=E.Wg:=by
  obtain⟨k1,k2⟩:=sV h1 h2
  match wt,hwt with
  |0,_=>exact k1
  |1,_=>exact k2
 obtain⟨a',k1,k2⟩:=key
 obtain⟨f',s',oC,j1,j2,j3⟩:=dv k1 k2
 refine⟨_,fun w hw=>j3 _ _ w (.inr (gf E hw)),fun hh=>?_,fun hh=>?_⟩
 ·obtain⟨rfl,rfl⟩:=hh
  exact fw j1 j2 fun _ _ _ k1 k2=>ahK hc hq k1 k2
 have:(Nat.beq v 0&&Nat.beq wt 1)=false:=by
  cases hx:(Nat.beq v 0&&Nat.beq wt 1) with
  |false=>rfl
  |true=>
   simp only[Bool.and_eq_true] at hx
   exact absurd ⟨Nat.eq_of_beq_eq_true hx.1,Nat.eq_of_beq_eq_true hx.2⟩ hh
 rw[this] at j1;simp only[cond_false] at j1
 exact Vf hc hq j1
theorem ahG{s:List Frame}{bs:List Nat}(h:apF E.P E.ty E.max f s=some bs)(hb:∀b∈bs,b=E.Wg):E.K1 (G f (s++c::cs)):=by
 obtain⟨f',s',oC,h1,h2,h3⟩:=dv h hb
 exact⟨rfl,_,fun w=>h3 _ _ w (.inl ⟨rfl,rfl⟩),fw h1 h2 fun _ _ _ k1 k2=>ahL hc hq k1 k2⟩
theorem ahF{s:List Frame}{bs:List Nat}(h:apE E.P E.ty E.max f s=some bs)(hb:∀b∈bs,b=E.Wg):E.R0 (G f (s++c::cs)):=by
 obtain⟨f',s',oC,h1,h2,h3⟩:=dv h hb
 exact⟨rfl,_,fun w=>h3 _ _ w (.inl ⟨rfl,rfl⟩),fw h1 h2 fun _ _ _ k1 k2=>ahG hc hq k1 k2⟩
theorem H4{bs:List Nat}(h:vV E.P E.ty E.max f=some bs)(hb:∀b∈bs,b=E.Wg):E.pure false E.R0 (G f (c::cs)):=
 fw (eB:=[]) h hb fun _ _ _ k1 k2=>ahF hc hq k1 k2
end leave
end
def CA(P:Program):Class:=fun main T=>Closed P main T
def acD:Code→Nat
 | .seq a b=>acD a+acD b+1
 |_=>0
def jF(l:List Code):List Code:=l.flatMap jT
section
variable {P:Program} {main:Bool} {T:Goroutine→St→Prop} {b:Frame} {k:List Item} {cs:List Frame} {a:Act} {s:St} {n LF:Nat} {D:List Deferred} {call:cM} {ops:Array Oper}
 {ρ:bz} {ce e:Env} {m:Mem} {F:Nat×Obj→Prop} {R:Nat→Option Obj}
abbrev On(T:Goroutine→St→Prop)(b:Frame)(a:Act)(l:List Code)(k:List Item)(cs:List Frame)(s:St):Prop:=T (G (aW b a (l.map .code++k)) cs) s
theorem qV(hT:Closed P main T){c0:Code}{rest:List Code}:∀ {l:List Code},jF l=c0::rest→(∀l',jF l'=rest→T (G (aW b a (.code c0::(l'.map .code++k))) cs) s)→On T b a l k cs s:=by
 intro l
 generalize hn:(l.map acD).sum=q
 induction q using Nat.strongRecOn generalizing l with
 |_ q ih=>
  intro hl h
  cases l with
  |nil=>cases hl
  |cons c l=>
   cases hc:c with
   |seq x y=>
    subst hc
    refine hT.go rfl rfl (g':=G (aW b a ((x::y::l).map .code++k)) cs) (fun w=>by simp[G,stepG,stepG.exec,aW])<|ih ((x::y::l).map acD).sum ?_ rfl ?_ h
    ·rw[←hn];simp[acD];omega
    rw[←hl];simp[jF,jT]
   |_=>
    subst hc
    simp only[jF,List.flatMap_cons,jT,List.singleton_append,List.cons.injEq] at hl
    obtain⟨rfl,hl⟩:=hl
    exact h l hl
theorem C1(hT:Closed P main T){rest:List Code}(hl:jF l= .region id ops false::rest)(h:∀l',jF l'=rest→T (G (aW b a (.inRegion ops (List.range ops.size)::(l'.map .code++k))) cs) s):On T b a l k cs s:=
 qV hT hl fun l' Dl=>hT.go rfl rfl (g':=G (aW b a (.inRegion ops (List.range ops.size)::(l'.map .code++k))) cs) (fun w=>by simp[G,stepG,stepG.exec,aW]) (h l' Dl)
theorem akk(hT:Closed P main T){c:Operand}{x y:Code}{t:Bool}{rest:List Code}(hl:jF l= .cond c x y::rest)(hc:a.eval c= .bool t)(h:∀l',jF l'=rest→T (G (aW b a (.code (if t then x else y)::(l'.map .code++k))) cs) s):On T b a l k cs s:=
 qV hT hl fun l' Dl=>hT.go rfl rfl (g':=G (aW b a (.code (if t then x else y)::(l'.map .code++k))) cs) (fun w=>by
  have he:=oQ b a (.code (.cond c x y)::(l'.map .code++k))
  simp only[aW] at he
  simp only[G,stepG,stepG.exec,aW,he,hc]) (h l' Dl)
theorem adS(hT:Closed P main T){c:Code}{rest:List Code}(hl:jF l= .block id c::rest)(h:∀l',jF l'=rest→On T b a [c] (.inBlock id::(l'.map .code++k)) cs s):On T b a l k cs s:=
 qV hT hl fun l' Dl=>hT.go rfl rfl (g':=G (aW b a (.code c:: .inBlock id::(l'.map .code++k))) cs) (fun w=>by simp[G,stepG,stepG.exec,aW]) (show T (G (aW b a (.code c:: .inBlock id::(l'.map .code++k))) cs) s from h l' Dl)
theorem aaC(hT:Closed P main T)(h:T (G (aW b a k) cs) s):T (G (aW b a (.inBlock id::k)) cs) s:=
 hT.go rfl rfl (g':=G (aW b a k) cs) (fun w=>by simp[G,stepG,stepG.exec,aW]) h
theorem akj(hT:Closed P main T){c:Code}{rest:List Code}(hl:jF l= .loop c::rest)(h:∀l',jF l'=rest→On T b a [c] (.inLoop c::(l'.map .code++k)) cs s):On T b a l k cs s:=
 qV hT hl fun l' Dl=>hT.go rfl rfl (g':=G (aW b a (.code c:: .inLoop c::(l'.map .code++k))) cs) (fun w=>by simp[G,stepG,stepG.exec,aW]) (show T (G (aW b a (.code c:: .inLoop c::(l'.map .code++k))) cs) s from h l' Dl)
theorem VL(hT:Closed P main T){c:Code}(h:On T b a [c] (.inLoop c::k) cs s):T (G (aW b a (.inLoop c::k)) cs) s:=
 hT.go rfl rfl (g':=G (aW b a (.code c:: .inLoop c::k)) cs) (fun w=>by simp[G,stepG,stepG.exec,aW]) h
theorem amH(hT:Closed P main T)(h:T (G (aW b a k) cs) s):T (G (aW b a (.code .skip::k)) cs) s:=
 hT.go rfl rfl (g':=G (aW b a k) cs) (fun w=>by simp[G,stepG,stepG.exec,aW]) h
theorem amI(hT:Closed P main T){k':List Item}(hk:exitTo id k=some k')(h:T (G (aW b a k') cs) s):T (G (aW b a (.code (.exit id)::k)) cs) s:=
 hT.go rfl rfl (g':=G (aW b a k') cs) (fun w=>by simp[G,stepG,stepG.exec,aW,hk]) h
theorem mZ(hT:Closed P main T)(h:T (G (aW b a k) cs) s):T (G (aW b a (.inRegion ops []::k)) cs) s:=
 hT.go rfl rfl (g':=G (aW b a k) cs) (fun w=>by simp[G,stepG,stepG.exec,aW]) h
theorem AT(id:Nat):∀(l:List Code) (k:List Item),exitTo id (l.map .code++k)=exitTo id k
 | [],k=>rfl
 |c::l,k=>by
  rw[List.map_cons,List.cons_append]
  exact AT id l k
theorem xz(hT:Closed P main T){rest:List Nat}{o:Oper}(ho:ops[i]?=some o) (hw:Region.wanted o (yielded ops a.tmps)=true) (hk:b.kind≠ .early) (hb:b.roundOf=none)
 (h:cu P (execOp a.eval o) s (fun nx s'=>∃v,nx= .value v∧T (G (aW b (a.put o.dst v) (.inRegion ops rest::k)) cs) s') (fun _ _=>False)):T (G (aW b a (.inRegion ops (i::rest)::k)) cs) s:=by
 have iU:(b.kind==CallKind.early)=false:=by simpa using hk
 have gz:∀w,stepG P main (G (aW b a (.inRegion ops (i::rest)::k)) cs) w=stepG.apply P true (aW b a (.inRegion ops (i::rest)::k)) cs none (execOp a.eval o) w:=by
  intro w
  have he:=oQ b a (.inRegion ops (i::rest)::k)
  simp only[aW] at he
  simp only[G,stepG,stepG.exec,aW,ho,Option.map_some,Option.getD_some,hw,if_true,stepG.oper,Frame.oper?,he]
  rw[hb]
 refine hT.step _ _ rfl fun w rU=>?_
 obtain⟨r,es,hr,hl⟩:=gC _ _ _ _ w #[] h rU
 rw[Array.empty_append] at hr
 have nE:=gz w
 simp only[stepG.apply,if_true,hr] at nE
 simp only[aW,iU,Bool.false_eq_true,if_false] at nE
 cases r with
 |ok nx w'=>
  obtain⟨s',ht,v,rfl,hv⟩:=hl
  simp only[GStep.after,Array.append_empty] at nE
  have lY:=iO b a ops i rest k v
  rw[ho] at lY
  simp only[Option.bind_some] at lY
  rw[←lY] at hv
  exact⟨_,_,_,s',nE,rfl,ht.sub (iz P b.fn es),hv⟩
 |halt hh w'=>
  obtain⟨s',ht,hu⟩:=hl
  exact hu.elim
theorem fb(o:Oper)(f:Nat→Option Bool)(h:o.guard=none):Region.wanted o f=true:=by unfold Region.wanted;rw[h]
end
def St.freeze(s:St):St:=⟨fun b=>match s.rw.find? (fun x=>x.1==b) with
 |some x=>some x.2
 |none=>s.ro b,[]⟩
theorem BS{l:List (Nat×Obj)}{x:Nat×Obj}(h:l.find? (fun x=>x.1==b)=some x):x∈l∧x.1=b:=
 ⟨List.mem_of_find?_eq_some h,by simpa using List.find?_some h⟩
theorem EA{l:List (Nat×Obj)}(hn:(l.map (·.1)).Nodup)(h:(b,o)∈l):l.find? (fun x=>x.1==b)=some (b,o):=by
 induction l with
 |nil=>cases h
 |cons y l ih=>
  rw[List.map_cons,List.nodup_cons] at hn
  rcases List.mem_cons.1 h with rfl|h'
  ·simp
  have:y.1≠b:=fun e=>hn.1 (e▸List.mem_map.2 ⟨_,h',rfl⟩)
  rw[List.find?_cons_of_neg (by simpa using this)]
  exact ih hn.2 h'
theorem St.aau(s:St):s.freeze.le s:=by
 refine⟨s.rw,by simp[St.freeze],fun b o h=>?_⟩
 simp only[St.freeze] at h
 split at h
 ·rename_i x hx
  obtain⟨h1,h2⟩:=BS hx
  cases h
  subst h2
  exact .inr h1
 exact .inl h
theorem St.Dt(h:s.ro b=some o)(ha:∀b o,(b,o)∈s.rw→s.ro b=none):s.freeze.ro b=some o:=by
 simp only[St.freeze]
 split
 ·rename_i x hx
  obtain⟨h1,h2⟩:=BS hx
  subst h2
  rw[ha x.1 x.2 h1] at h;cases h
 exact h
theorem St.Ds(h:(b,o)∈s.rw)(hn:(s.rw.map (·.1)).Nodup):s.freeze.ro b=some o:=by
 simp only[St.freeze,EA hn h]
section
variable {P:Program} {ρ:bz} {m:Mem} {F:Nat×Obj→Prop} {R:Nat→Option Obj} {s:St}
theorem Closed.iX(hT:Closed P main T){g:Goroutine}(hs:g.status= .running)(h:(∃w,aZ s w)→T g s):T g s:=by
 by_cases ha:∃w,aZ s w
 ·exact h ha
 exact hT.step _ _ hs fun w hw=>absurd ⟨w,hw⟩ ha
end
section
variable {P:Program} {main:Bool} {T:Goroutine→St→Prop} {b:Frame} {k:List Item} {cs:List Frame} {a:Act} {s:St} {n LF:Nat} {D:List Deferred} {call:cM} {ops:Array Oper}
 {ρ:bz} {ce e:Env} {m:Mem} {F:Nat×Obj→Prop} {R:Nat→Option Obj}
theorem GL(hT:Closed P main T){rest:List Nat}{o:Oper}(ho:ops[i]?=some o) (hg:o.guard=none) (hk:b.kind≠ .early) (hb:b.roundOf=none) {f:FuncId} {xs:Array Operand} {ats:Array TypeId} (av:o.op= .call ⟨.value (.func f),xs,ats⟩) (hf:FF P f)
 (h:T (G (Frame.enter P f (xs.map a.eval) .normal) (aW b a (.inRegion ops (i::rest)::k)::cs)) s):T (G (aW b a (.inRegion ops (i::rest)::k)) cs) s:=by
 have iU:(b.kind==CallKind.early)=false:=by simpa using hk
 have hw:Region.wanted o (yielded ops a.tmps)=true:=fb o _ hg
 have vD:cu P (execOp a.eval o) s (fun nx s'=>nx= .enter f (xs.map a.eval)∧s'=s) (fun _ _=>False):=by
  have e1:a.eval (.func f)= .func (.func f) #[] #[]:=rfl
  simp only[execOp,av,resolve,e1,Deferred.ofValue,af,aj,invoke]
  have:(#[]++xs.map a.eval:Array Value)++ #[]=xs.map a.eval:=by simp
  rw[this]
  exact jZ hf ⟨rfl,rfl⟩
 have gz:∀w,stepG P main (G (aW b a (.inRegion ops (i::rest)::k)) cs) w=stepG.apply P true (aW b a (.inRegion ops (i::rest)::k)) cs none (execOp a.eval o) w:=by
  intro w
  have he:=oQ b a (.inRegion ops (i::rest)::k)
  simp only[aW] at he
  simp only[G,stepG,stepG.exec,aW,ho,Option.map_some,Option.getD_some,hw,if_true,stepG.oper,Frame.oper?,he]
  rw[hb]
 refine hT.step _ _ rfl fun w rU=>?_
 obtain⟨r,es,hr,hl⟩:=gC _ _ _ _ w #[] vD rU
 rw[Array.empty_append] at hr
 have nE:=gz w
 simp only[stepG.apply,if_true,hr] at nE
 simp only[aW,iU,Bool.false_eq_true,if_false] at nE
 cases r with
 |ok nx w'=>
  obtain⟨s',ht,rfl,rfl⟩:=hl
  simp only[GStep.after,Array.append_empty] at nE
  exact⟨_,_,_,_,nE,rfl,ht.sub (iz P b.fn es),h⟩
 |halt hh w'=>
  obtain⟨s',ht,hu⟩:=hl
  exact hu.elim
def dR(P:Program):Frame:={(default:Frame) with fn:=P.funcs.size,defers:=[],mode:= .panicking [goexitEntry]}
theorem PO(P:Program):QuitsD P 1 0 (G (dR P) []):=by
 have hc:(dR P).catches P=false:=by
  simp[Frame.catches,dR]
  rfl
 refine .ctl (g':={(G (dR P) []) with status:= .finished}) rfl (fun w=>?_) ⟨rfl,rfl⟩
 have bE:stepG P false (G (dR P) []) w=unwind P false (dR P) [] none w:=rfl
 rw[bE]
 unfold unwind
 have h1:(dR P).defers=[]:=rfl
 have h2:(dR P).mode= .panicking [goexitEntry]:=rfl
 simp only[h1,h2,hc,Bool.false_eq_true,if_false]
 simp[goexitEntry,G]
theorem tx{fn:Func}(hm:fr.mode= .returning)(hd:fr.defers=[])(hk:fr.kind= .deferred)(hf:P.funcs[fr.fn]?=some fn) (hr:fn.results= #[]):QuitsD P 2 0 (G fr [dR P]):=by
 refine .ctl rfl (fun w=>?_) (PO P)
 have h1:∀tm,results fn tm=Sem.pure (.tuple #[]):=by intro tm;simp[results,hr];rfl
 rcases fr with ⟨fn',tmps,todo,defers,mode,kind,ro⟩
 simp only at hm hd hk hf
 subst hm hd hk
 simp only[G,stepG,unwind,hf,h1,Sem.runT,seen_none,GStep.after,doReturn,dR,goexitEntry,Array.append_empty]
end
structure Sn where
 f:FuncId
 n:Nat
 cl:List Code
 o7:Array Oper
 o:Oper
 sc:Operand
 sv:Operand
 done:FuncId
theorem kA(h:jF l=[]):l=[]:=by
 cases l with
 |nil=>rfl
 |cons y l=>
  exfalso
  have:∀c:Code,jT c≠[]:=by
   intro c
   induction c with
   |seq p q ihp ihq=>simp[jT,ihp]
   |_=>simp[jT]
  simp only[jF,List.flatMap_cons,List.append_eq_nil_iff] at h
  exact this y h.1
theorem Dw{b:Frame}(h:b.roundOf=none)(a:Act)(todo:List Item):aW b a todo=b.at a todo:=by simp[aW,Frame.at,h]
def TZ(P:Program):Sem Next→Nat→Option (Obj×Value)
 | .new o k,b=>match bN P (k b) with
  |some (.value v)=>bif Obj.real o then some (o,v) else none
  |_=>none
 | .program k,b=>TZ P (k P) b
 |_,_=>none
theorem aec{P:Program}{f:Nat→Value}{K:Next→St→Prop}{E:Halt→St→Prop}(hK:∀b,¬s.knows b→K (.value (f b)) ⟨s.ro,(b,o)::s.rw⟩):∀(x:Sem Next),(∀b,TZ P x b=some (o,f b))→cu P x s K E:=by
 intro x
 induction x with
 |new o' k ih=>
  intro h
  have key:∀b,Obj.real o'=true∧o'=o∧bN P (k b)=some (.value (f b)):=fun b=>by
   have h':=h b
   simp only[TZ] at h'
   split at h'<;>try (cases h';done)
   rename_i v hv
   cases hr:Obj.real o'<;>rw[hr] at h'<;>simp only[cond_true,cond_false,Option.some.injEq,Prod.mk.injEq,reduceCtorEq] at h'
   obtain⟨h1,rfl⟩:=h'
   exact⟨rfl,h1,hv⟩
  refine⟨(key 0).1,fun b hb=>?_⟩
  obtain⟨_,rfl,hv⟩:=key b
  exact pz hv (hK b hb)
 |program k ih=>intro h;exact ih P h
 |_=>intro h;have:=h 0;simp[TZ] at this
def cX(l:List Code)(i:Nat):Array Oper:=match l[i]? with
 |some (.region _ ops _)=>ops
 |_=> #[]
def bV(o:Array Oper)(i:Nat):Oper:=(o[i]?).getD default
def codeOf(P:Program)(f:FuncId):List Code:=match P.funcs[f]? with
 |some fn=>match fn.body with
  |some c=>jT c
  |none=>[]
 |none=>[]
open Go.ConcM (OsLater)
def Ce(os:Os)(out:Array (Nat×ByteArray)):(Nat→St)→World→Trace→Prop:=fun _ w t=>(∀a,NoRelease a t)∧OsLater os w.os∧w.output=out
theorem EM(os:Os)(out:Array (Nat×ByteArray)):Sr (Ce os out) where
 grow:=fun _ _ _ _ h hu=>⟨fun a=>(h.1 a).app fun op av=>hu op av a,h.2⟩
 drawn:=fun _ _ _ _ h=>h
 le:=fun _ _ _ _ h _=>h
 own:=fun _ _ _ _ _ _ _ h ht hu=>⟨fun a=>(h.1 a).app fun op av=>hu op av a,by rw[ht.os];exact h.2.1,ht.output.trans h.2.2⟩
def T0L(P:Program)(os:Os)(out:Array (Nat×ByteArray))(Post:Value→World→Prop):Goroutine→St→Prop:=TL P db (fun _=>none) (Ce os out) (Good P Post)
theorem Ad(P:Program)(os:Os)(out:Array (Nat×ByteArray))(Post:Value→World→Prop):Closed P true (T0L P os out Post):=Cw sJ (EM os out) _
def C0L(P:Program):Class:=fun main T=>main=true∧∃mg eg Post,T=T0L P mg eg Post
theorem vX{P:Program}:∀main T,C0L P main T→Closed P main T:=by
 rintro main T ⟨rfl,mg,eg,Post,rfl⟩
 exact Ad P mg eg Post
theorem S8{P:Program}{os:Os}{out:Array (Nat×ByteArray)}{Post:Value→World→Prop}{g:Goroutine}(hs:g.status= .running)
 (bE:∀w,aZ s w→OsLater os w.os→w.output=out→∃v w' es s',stepG P true g w= .ended (.done v) w' es∧Post v w'∧Trans s w s' w' es):T0L P os out Post g s:=by
 refine FB sJ (EM os out) hs fun K gs w t q sl m hL h0 hK hd hi hm hmg=>?_
 subst hK
 obtain⟨v,w',es,s',hgo,hp,ht⟩:=bE w (hL.fit.iX 0) hi.2.1 hi.2.2
 have hr:=ConcN.runT_crowd_ended (P:=P) (sl:=sl) (i:=0) h0 (by simpa using hgo)
 have jP:=hL.fit.own ht g.frame.fn g.frame.place
 generalize hu:MemOp.ofEvents 0 g.frame.fn g.frame.place es=u at hr jP
 have wX:∀op∈u,op.g=0:=by rw[←hu];exact fun op av=>Go.ConcR.g_of_ofEvents op av
 refine⟨0,m,.done v,w',t++u,by simp[runNT,hm,hr],rfl,by simp[step,hm,hr],v,rfl,hp,jP.clean,fun i k hk cF hc=>?_,⟨fun x hx=>?_,by rw[hmg.2];rfl⟩,fun i x hx cF=>?_⟩
 ·obtain⟨op,ho,aae⟩:=Option.map_eq_some_iff.1 hk
  cases k with
  |zero=>exact absurd rfl cF
  |succ k=>
   have bO:op.g <gs.size:=by
    rcases Array.mem_append.1 (mem_of_getElem? ho) with h'|h'
    ·exact hL.ops op h'
    rw[wX op h',hL.size];omega
   have hkq:k <q.length:=by have:=hL.size;omega
   obtain⟨_,_,_,_,_,bR⟩:=hL.ok k _ (List.getElem?_eq_getElem hkq)
   exact(bR.other fun op av=>by rw[wX op av];omega) i hk hc
 ·rw[hmg.1] at hx
  obtain⟨j,hj⟩:=List.getElem?_of_mem hx
  rw[List.getElem?_drop,Array.getElem?_toList] at hj
  have hjq:j <q.length:=by have:=lt_size hj;have:=hL.size;omega
  obtain⟨y,d,hy,hq,_⟩:=hL.ok j _ (List.getElem?_eq_getElem hjq)
  rw[Nat.add_comm] at hj
  rw[hj] at hy
  obtain rfl:=Option.some.inj hy
  exact⟨_,hq.leaves⟩
 rw[hmg.1] at hx
 cases i with
 |zero=>exact absurd rfl cF
 |succ j=>
  have hjq:j <q.length:=by have:=lt_size hx;have:=hL.size;omega
  obtain⟨y,d,hy,hq,Ew,_⟩:=hL.ok j _ (List.getElem?_eq_getElem hjq)
  rw[hx] at hy
  obtain rfl:=Option.some.inj hy
  refine⟨q[j],?_⟩
  have e:(t++u).deaf (j+1) (t++u).size=d:=by
   have:=eP t u (g:=j+1) fun op av=>by rw[wX op av];omega
   unfold Deaf at this Ew
   rw[this];exact Ew
  rw[e]
  exact hq.hears m.world
theorem YM{P:Program}{Post:Value→World→Prop}{g:Goroutine}{w:World}(ha:aZ s w)(h:T0L P w.os w.output Post g s):Ends P (Good P Post) (solo g w) #[]:=by
 rw[solo_eq_crowd]
 have tL:∀p x,touchAt #[] p=some x→False:=fun p x hx=>by simp[touchAt,Trace.act?] at hx
 have hn:∀i,i≠0→∀b,¬((if i=0 then s else ⟨fun _=>none,[]⟩:St)).knows b:=fun i hi b hk=>by
  rw[if_neg hi] at hk
  rcases hk with hk| ⟨o,ho⟩
  ·exact hk rfl
  cases ho
 refine h (fun j=>if j=0 then s else ⟨fun _=>none,[]⟩) #[g] w #[] [] none ⟨⟨(fun _ _ e=>(by cases e)),fun _ _ _=>rfl,fun i=>?_,fun i j b IQ ho hk=>?_,fun _ _ _ p x hx=>(tL p x hx).elim,fun _ _ _ p x hx=>(tL p x hx).elim,
  fun p x _ hx=>(tL p x hx).elim,(fun said ⟨i,j,_,⟨a,b,h1,_⟩,_⟩=>by simp[Trace.act?] at h1),fun p x _ hx=>(tL p x hx).elim⟩,rfl,fun i n hi=>by simp at hi,fun i b hi hk=>hn i hi b hk,by simp⟩ rfl (by simp only[if_true];exact St.le_refl _) rfl ⟨fun a i=>by simp[Trace.act?],OsLater.refl _,rfl⟩
 ·by_cases e:i=0
  ·simp only[e,if_true];exact ha
  simp only[if_neg e];exact⟨(fun _ _ e=>(by cases e)),(fun _ _ e=>(by cases e)),(fun _ _ e=>(by cases e)),by simp,(fun _ _ e=>(by cases e))⟩
 by_cases e:j=0
 ·exact hn i (fun e'=>IQ (e'.trans e.symm)) b (.inr ho)
 exact hn j e b hk
structure Wd where
 L:Bool
 W:Bool
 S:Bool
 c:Nat
 deriving DecidableEq
def Wd.enc(o:Wd):Int:=(if o.L then 1 else 0)+(if o.W then 2 else 0)+(if o.S then 4 else 0)+8*(o.c:Int)
inductive aJ where
 |out (k:Nat)
 |ld (k:Nat)|l0 (k:Nat)|r0 (k:Nat)
 |sq (k:Nat) (o:Wd) (aw sv:Bool) (it:Nat) (ws:Bool)
 |c1 (k:Nat) (o:Wd) (aw sv:Bool) (it:Nat) (ws:Bool)
 |r1 (k:Nat) (aw sv:Bool) (it:Nat) (ws:Bool)
 |c2 (k:Nat) (o:Wd) (aw sv:Bool) (it:Nat) (ws:Bool)
 |r3 (k:Nat) (aw sv:Bool) (it:Nat) (ws:Bool)
 |t1 (k:Nat) (sv:Bool)|s1 (k:Nat) (sv:Bool)|t2 (k:Nat) (sv:Bool)|r2 (k:Nat) (sv:Bool)|a1 (k:Nat) (ex:Bool)
 |le (k:Nat)|la (k:Nat)|own (k:Nat)|ui (k:Nat)|ur (k:Nat)|ud (k:Nat)|u0 (k:Nat)
 |uc (k:Nat) (o:Wd)|ux (k:Nat)|us (k:Nat)|ue (k:Nat)
def AI(k:Nat)(o:Wd)(aw sv:Bool)(it:Nat)(ws:Bool):aJ:=if o.L&& !o.S then .sq k o aw sv it ws else .c2 k o aw sv it ws
def Wd.nw(o:Wd)(aw sv:Bool):Wd:=⟨o.L|| !o.S,o.W&& !aw,o.S||(sv&&o.L),if o.L||o.S then o.c+1 else o.c⟩
def Wd.rest(o:Wd):Bool:=o.c==0||o.L||o.W||o.S
def YG(k:Nat)(o:Wd):aJ:=if o.rest then .ue k else .uc k o
inductive Nx:aJ→Wd→Nat→aJ→Wd→Nat→Prop
 |out {k w m}:Nx (.out (k+1)) w m (.ld k) w m
 |ld {k w m}:Nx (.ld k) w m (.l0 k) w m
 |l0y {k m}:Nx (.l0 k) ⟨false,false,false,0⟩ m (.le k) ⟨true,false,false,0⟩ m
 |l0n {k w m}:w≠⟨false,false,false,0⟩→Nx (.l0 k) w m (.r0 k) w m
 |r0 {k w m}:Nx (.r0 k) w m (AI k w false false 0 false) w m
 |sqn {k o aw sv it ws w m}:Nx (.sq k o aw sv it ws) w m (.c2 k o aw sv it ws) w m
 |sqy {k o aw sv it ws w m}:it <4→Nx (.sq k o aw sv it ws) w m (if !aw&& !o.W&&o.c != 0 then .c1 k o aw sv it ws else .r1 k aw sv it ws) w m
 |c1y {k o aw sv it ws m}:Nx (.c1 k o aw sv it ws) o m (.r1 k true sv it ws) ⟨o.L,true,o.S,o.c⟩ m
 |c1n {k o aw sv it ws w m}:w≠o→Nx (.c1 k o aw sv it ws) w m (.r1 k aw sv it ws) w m
 |r1 {k aw sv it ws w m}:Nx (.r1 k aw sv it ws) w m (AI k w aw sv (it+1) ws) w m
 |c2y {k o aw sv it ws m}:Nx (.c2 k o aw sv it ws) o m (if o.L||o.S then (if ws then .s1 k sv else .t1 k sv) else .le k) (o.nw aw sv) m
 |c2n {k o aw sv it ws w m}:w≠o→Nx (.c2 k o aw sv it ws) w m (.r3 k aw sv it ws) w m
 |r3 {k aw sv it ws w m}:Nx (.r3 k aw sv it ws) w m (AI k w aw sv it ws) w m
 |t1 {k sv w m}:Nx (.t1 k sv) w m (.s1 k sv) w m
 |s1 {k sv w m}:Nx (.s1 k sv) w (m+1) (.t2 k sv) w m
 |s1s {k w m}:Nx (.s1 k true) w (m+1) (.r2 k true) w m
 |t2 {k sv w m} (b:Bool):Nx (.t2 k sv) w m (.r2 k (sv||b)) w m
 |r2y {k sv w m}:w.S=true→Nx (.r2 k sv) w m (.a1 k (!sv||w.c==1)) w m
 |r2n {k sv w m} (ws:Bool):w.S=false→Nx (.r2 k sv) w m (AI k w true sv 0 ws) w m
 |a1 {k ex w m}:Nx (.a1 k ex) w m (.le k) ⟨true,w.W,w.S&& !ex,w.c-1⟩ m
 |le {k w m}:Nx (.le k) w m (.la k) w m
 |la {k w m}:Nx (.la k) w m (.own k) w m
 |own {k w m}:Nx (.own k) w m (.ui k) w m
 |ui {k w m}:Nx (.ui k) w m (.ur k) w m
 |ur {k w m}:Nx (.ur k) w m (.ud k) w m
 |ud {k w m}:Nx (.ud k) w m (.u0 k) w m
 |u0 {k w m}:Nx (.u0 k) w m (if w.S then .us k else YG k ⟨false,w.W,w.S,w.c⟩) ⟨false,w.W,w.S,w.c⟩ m
 |ucy {k o m}:Nx (.uc k o) o m (.us k) ⟨o.L,true,o.S,o.c-1⟩ m
 |ucn {k o w m}:w≠o→Nx (.uc k o) w m (.ux k) w m
 |ux {k w m}:Nx (.ux k) w m (YG k w) w m
 |us {k w m}:Nx (.us k) w m (.ue k) w (m+1)
 |ue {k w m}:Nx (.ue k) w m (.out k) w m
def aJ.H:aJ→Nat
 | .le _| .la _| .own _| .ui _| .ur _| .ud _| .u0 _=>1
 |_=>0
def aJ.Q:aJ→Nat
 | .t1 .. | .s1 .. =>1
 |_=>0
def aJ.U:aJ→Nat
 | .us _=>1
 |_=>0
def aJ.A:aJ→Nat
 | .a1 .. =>1
 |_=>0
def aJ.G:aJ→Nat
 | .t2 .. | .r2 .. =>1
 |_=>0
def aJ.B:aJ→Nat
 | .sq _ _ aw _ _ _| .c1 _ _ aw _ _ _| .r1 _ aw _ _ _| .c2 _ _ aw _ _ _| .r3 _ aw _ _ _=>aw.toNat
 |_=>0
def aJ.X:aJ→Nat
 | .uc .. | .ux _=>1
 |_=>0
def aJ.Ok:aJ→Prop
 | .sq _ o aw sv it _=>o.L=true∧o.S=false∧(aw=true→o.W=true)∧(sv=true→aw=true)∧it≤4
 | .c1 _ o aw sv it _=>o.L=true∧o.S=false∧o.W=false∧o.c≠0∧aw=false∧sv=false∧it <4
 | .c2 _ o aw sv it _=>(aw=true→o.W=true∧o.S=false)∧(sv=true→aw=true)∧it≤4
 | .r1 _ aw sv it _=>(sv=true→aw=true)∧it <4
 | .r3 _ aw sv it _=>(sv=true→aw=true)∧it≤4
 | .uc _ o=>o.rest=false
 |_=>True
def fA(f:α→Nat)(T:List α):Nat:=(T.map f).sum
theorem eT(f:α→Nat){x y:α}:∀ {T:List α} {i:Nat},T[i]?=some x→fA f (T.set i y)+f x=fA f T+f y
 | [],i,h=>by simp at h
 |a::T,0,h=>by simp only[List.getElem?_cons_zero,Option.some.injEq] at h;subst h;simp[fA];omega
 |a::T,i+1,h=>by
  have:=eT f (y:=y) (T:=T) (i:=i) (by simpa using h)
  simp only[fA,List.set_cons_succ,List.map_cons,List.sum_cons] at this ⊢;omega
theorem jk(f:α→Nat){x:α}:∀ {T:List α},x∈T→f x≤fA f T
 |a::T,h=>by
  rcases List.mem_cons.1 h with rfl|h
  ·simp[fA]
  have:=jk f h;simp only[fA,List.map_cons,List.sum_cons] at this ⊢;omega
structure l9(T:List aJ)(w:Wd)(m:Nat):Prop where
 held:fA aJ.H T=w.L.toNat
 norm:w.S=false→m+fA aJ.U T+fA aJ.G T+fA aJ.B T=w.W.toNat∧w.c+m+fA aJ.U T=fA aJ.Q T∧fA aJ.A T=0
 star:w.S=true→w.W=false∧fA aJ.B T=0∧m+fA aJ.U T+fA aJ.G T+fA aJ.A T+w.L.toNat=1∧w.c=fA aJ.Q T+fA aJ.G T+fA aJ.A T
 axD:w.L=false→w.S=false→w.W=false→w.c≠0→1≤fA aJ.X T
 ok:∀x∈T,x.Ok
theorem arF{T:List aJ}{x':aJ}(h:∀x∈T,x.Ok)(h':x'.Ok):∀x∈T.set i x',x.Ok:=fun x hx=>by
 rcases List.mem_or_eq_of_mem_set hx with h1|rfl
 ·exact h x h1
 exact h'
theorem Ns{k:Nat}{o:Wd}{aw:Bool}(h1:aw=true→o.W=true∧o.S=false)(h2:sv=true→aw=true)(h3:it≤4):(AI k o aw sv it ws).Ok:=by
 unfold AI
 split
 ·rename_i h
  simp only[Bool.and_eq_true,Bool.not_eq_true'] at h
  exact⟨h.1,h.2,fun e=>(h1 e).1,h2,h3⟩
 exact⟨h1,h2,h3⟩
section
variable {k:Nat} {o:Wd} {aw sv:Bool} {it:Nat} {ws:Bool}
theorem ao3:(AI k o aw sv it ws).H=0:=by unfold AI;split<;>rfl
theorem ao2:(AI k o aw sv it ws).Q=0:=by unfold AI;split<;>rfl
theorem ao1:(AI k o aw sv it ws).U=0:=by unfold AI;split<;>rfl
theorem ao6:(AI k o aw sv it ws).A=0:=by unfold AI;split<;>rfl
theorem ao4:(AI k o aw sv it ws).G=0:=by unfold AI;split<;>rfl
theorem ao5:(AI k o aw sv it ws).B=aw.toNat:=by unfold AI;split<;>rfl
theorem ao0:(AI k o aw sv it ws).X=0:=by unfold AI;split<;>rfl
end
section
variable {T:List aJ} {w w':Wd} {m m' i:Nat} {x x':aJ}
theorem l9.mk'(h:l9 T w m)(hi:T[i]?=some x) (bF:x'.Ok)
 (k:∀sH sQ sU sA sG sB sX:Nat,∀tH tQ tU tA tG tB tX:Nat,
  tH+x.H=sH+x'.H→tQ+x.Q=sQ+x'.Q→tU+x.U=sU+x'.U→tA+x.A=sA+x'.A→tG+x.G=sG+x'.G→tB+x.B=sB+x'.B→tX+x.X=sX+x'.X→
  x.H≤sH→x.Q≤sQ→x.U≤sU→x.A≤sA→x.G≤sG→x.B≤sB→x.X≤sX→
  sH=w.L.toNat→(w.S=false→m+sU+sG+sB=w.W.toNat∧w.c+m+sU=sQ∧sA=0)→(w.S=true→w.W=false∧sB=0∧m+sU+sG+sA+w.L.toNat=1∧w.c=sQ+sG+sA)→
  (w.L=false→w.S=false→w.W=false→w.c≠0→1≤sX)→
  tH=w'.L.toNat∧(w'.S=false→m'+tU+tG+tB=w'.W.toNat∧w'.c+m'+tU=tQ∧tA=0)∧(w'.S=true→w'.W=false∧tB=0∧m'+tU+tG+tA+w'.L.toNat=1∧w'.c=tQ+tG+tA)∧
  (w'.L=false→w'.S=false→w'.W=false→w'.c≠0→1≤tX)):l9 (T.set i x') w' m':=by
 have hm:=List.mem_of_getElem? hi
 obtain⟨h1,h2,h3,h4⟩:=k _ _ _ _ _ _ _ _ _ _ _ _ _ _ (eT aJ.H (y:=x') hi) (eT aJ.Q (y:=x') hi) (eT aJ.U (y:=x') hi) (eT aJ.A (y:=x') hi) (eT aJ.G (y:=x') hi) (eT aJ.B (y:=x') hi) (eT aJ.X (y:=x') hi)
  (jk aJ.H hm) (jk aJ.Q hm) (jk aJ.U hm) (jk aJ.A hm) (jk aJ.G hm) (jk aJ.B hm) (jk aJ.X hm) h.held h.norm h.star h.axD
 exact⟨h1,h2,h3,h4,arF h.ok bF⟩
theorem l9.aw(h:l9 T w m)(hi:T[i]?=some x) {aw:Bool} (hB:aw=true→x.B=1):aw=true→w.W=true∧w.S=false:=fun e=>by
 have h2:=jk aJ.B (List.mem_of_getElem? hi)
 rw[hB e] at h2
 have hS:w.S=false:=by
  cases hS:w.S
  ·rfl
  have:=(h.star hS).2.1;omega
 have h1:=(h.norm hS).1
 refine⟨?_,hS⟩
 cases hW:w.W
 ·rw[hW] at h1;simp only[Bool.toNat_false] at h1;omega
 rfl
theorem l9.step(h:l9 T w m)(hi:T[i]?=some x) (hs:Nx x w m x' w' m'):l9 (T.set i x') w' m':=by
 have hx:=h.ok x (List.mem_of_getElem? hi)
 obtain⟨L,W,S,c⟩:=w
 cases hs
 case sqy k o aw sv it ws hit=>
  split
  ·rename_i hc
   simp only[Bool.and_eq_true,Bool.not_eq_true',bne_iff_ne,ne_eq] at hc
   refine h.mk' hi ⟨hx.1,hx.2.1,hc.1.2,hc.2,hc.1.1,?_,hit⟩ fun sH sQ sU sA sG sB sX tH tQ tU tA tG tB tX e1 e2 e3 e4 e5 e6 e7 f1 f2 f3 f4 f5 f6 f7 a1 a2 a3 a4=>?_
   ·cases sv
    ·rfl
    have:=hx.2.2.2.1 rfl;rw[hc.1.1] at this;cases this
   simp only[aJ.H,aJ.Q,aJ.U,aJ.A,aJ.G,aJ.B,aJ.X,Nat.add_zero,Nat.zero_add] at e1 e2 e3 e4 e5 e6 e7
   cases L<;>cases W<;>cases S<;>simp at a1 a2 a3 a4 ⊢ <;>(try and_intros)<;>intros<;>omega
  refine h.mk' hi ⟨hx.2.2.2.1,hit⟩ fun sH sQ sU sA sG sB sX tH tQ tU tA tG tB tX e1 e2 e3 e4 e5 e6 e7 f1 f2 f3 f4 f5 f6 f7 a1 a2 a3 a4=>?_
  simp only[aJ.H,aJ.Q,aJ.U,aJ.A,aJ.G,aJ.B,aJ.X,Nat.add_zero,Nat.zero_add] at e1 e2 e3 e4 e5 e6 e7
  cases L<;>cases W<;>cases S<;>simp at a1 a2 a3 a4 ⊢ <;>(try and_intros)<;>intros<;>omega
 case c2y k aw sv it ws=>
  obtain⟨h1,h2,_⟩:=hx
  cases L<;>cases S<;>cases ws<;>cases aw<;>cases sv<;>cases W<;>(try (simp at h1 h2;done))<;>
   simp only[Bool.true_or,Bool.false_or,Bool.or_self,Bool.or_true,Bool.or_false,Bool.and_true,Bool.and_false,Bool.true_and,Bool.false_and,Bool.not_true,Bool.not_false,reduceIte,Bool.false_eq_true,Wd.nw]<;>
   refine h.mk' hi True.intro fun sH sQ sU sA sG sB sX tH tQ tU tA tG tB tX e1 e2 e3 e4 e5 e6 e7 f1 f2 f3 f4 f5 f6 f7 a1 a2 a3 a4=>?_<;>
   simp[aJ.H,aJ.Q,aJ.U,aJ.A,aJ.G,aJ.B,aJ.X] at e1 e2 e3 e4 e5 e6 e7 f6 a1 a2 a3 a4 ⊢ <;>(try and_intros)<;>intros<;>omega
 case u0 k=>
  cases S
  ·simp only[Bool.false_eq_true,reduceIte]
   unfold YG Wd.rest
   cases W
   ·cases c with
    |zero=>
     refine h.mk' hi True.intro fun sH sQ sU sA sG sB sX tH tQ tU tA tG tB tX e1 e2 e3 e4 e5 e6 e7 f1 f2 f3 f4 f5 f6 f7 a1 a2 a3 a4=>?_
     simp[aJ.H,aJ.Q,aJ.U,aJ.A,aJ.G,aJ.B,aJ.X] at e1 e2 e3 e4 e5 e6 e7 f1
     cases L<;>simp at a1 a2 a3 a4 ⊢ <;>(try and_intros)<;>intros<;>omega
    |succ c=>
     refine h.mk' (x':= .uc k ⟨false,false,false,c+1⟩) hi rfl fun sH sQ sU sA sG sB sX tH tQ tU tA tG tB tX e1 e2 e3 e4 e5 e6 e7 f1 f2 f3 f4 f5 f6 f7 a1 a2 a3 a4=>?_
     simp[aJ.H,aJ.Q,aJ.U,aJ.A,aJ.G,aJ.B,aJ.X] at e1 e2 e3 e4 e5 e6 e7 f1
     cases L<;>simp at a1 a2 a3 a4 ⊢ <;>(try and_intros)<;>intros<;>omega
   simp only[Bool.or_true,Bool.true_or,reduceIte]
   refine h.mk' hi True.intro fun sH sQ sU sA sG sB sX tH tQ tU tA tG tB tX e1 e2 e3 e4 e5 e6 e7 f1 f2 f3 f4 f5 f6 f7 a1 a2 a3 a4=>?_
   simp[aJ.H,aJ.Q,aJ.U,aJ.A,aJ.G,aJ.B,aJ.X] at e1 e2 e3 e4 e5 e6 e7 f1
   cases L<;>simp at a1 a2 a3 a4 ⊢ <;>(try and_intros)<;>intros<;>omega
  simp only[reduceIte]
  refine h.mk' hi True.intro fun sH sQ sU sA sG sB sX tH tQ tU tA tG tB tX e1 e2 e3 e4 e5 e6 e7 f1 f2 f3 f4 f5 f6 f7 a1 a2 a3 a4=>?_
  simp[aJ.H,aJ.Q,aJ.U,aJ.A,aJ.G,aJ.B,aJ.X] at e1 e2 e3 e4 e5 e6 e7 f1
  cases L<;>cases W<;>simp at a1 a2 a3 a4 ⊢ <;>(try and_intros)<;>intros<;>omega
 case ux k=>
  unfold YG
  split
  ·rename_i hr
   simp only[Wd.rest] at hr
   refine h.mk' hi True.intro fun sH sQ sU sA sG sB sX tH tQ tU tA tG tB tX e1 e2 e3 e4 e5 e6 e7 f1 f2 f3 f4 f5 f6 f7 a1 a2 a3 a4=>?_
   simp[aJ.H,aJ.Q,aJ.U,aJ.A,aJ.G,aJ.B,aJ.X] at e1 e2 e3 e4 e5 e6 e7
   cases L<;>cases W<;>cases S<;>simp at hr a1 a2 a3 a4 ⊢ <;>(try and_intros)<;>intros<;>omega
  rename_i hr
  refine h.mk' hi (show Wd.rest _=false by simpa using hr) fun sH sQ sU sA sG sB sX tH tQ tU tA tG tB tX e1 e2 e3 e4 e5 e6 e7 f1 f2 f3 f4 f5 f6 f7 a1 a2 a3 a4=>?_
  simp[aJ.H,aJ.Q,aJ.U,aJ.A,aJ.G,aJ.B,aJ.X] at e1 e2 e3 e4 e5 e6 e7 f7
  cases L<;>cases W<;>cases S<;>simp at a1 a2 a3 a4 ⊢ <;>(try and_intros)<;>intros<;>omega
 all_goals
  refine h.mk' hi ?_ fun sH sQ sU sA sG sB sX tH tQ tU tA tG tB tX e1 e2 e3 e4 e5 e6 e7 f1 f2 f3 f4 f5 f6 f7 a1 a2 a3 a4=>?_
 case r0.refine_1=>exact Ns (by simp) (by simp) (by omega)
 case sqn.refine_1=>exact⟨fun e=>⟨hx.2.2.1 e,hx.2.1⟩,hx.2.2.2.1,hx.2.2.2.2⟩
 case c1y.refine_1=>exact⟨fun _=>rfl,hx.2.2.2.2.2.2⟩
 case c1n.refine_1 k o aw sv it ws cF=>exact⟨fun e=>(by have:=hx.2.2.2.2.2.1;rw[e] at this;cases this),hx.2.2.2.2.2.2⟩
 case r1.refine_1=>exact Ns (h.aw hi (by intro e;simp[aJ.B,e])) hx.1 (by have:=hx.2;omega)
 case r3.refine_1=>exact Ns (h.aw hi (by intro e;simp[aJ.B,e])) hx.1 hx.2
 case c2n.refine_1=>exact⟨hx.2.1,hx.2.2⟩
 case r2n.refine_1 k sv ws hS=>
  refine Ns (fun _=>⟨?_,hS⟩) (fun _=>rfl) (by omega)
  have h1:=(h.norm hS).1
  have h2:=jk aJ.G (List.mem_of_getElem? hi)
  simp only[aJ.G] at h2
  simp only at h1 ⊢
  cases W
  ·simp only[Bool.toNat_false] at h1;omega
  rfl
 all_goals try exact True.intro
 all_goals
  try simp only[ao3,ao2,ao1,ao6,ao4,ao5,ao0] at e1 e2 e3 e4 e5 e6 e7
 all_goals
  simp only[aJ.H,aJ.Q,aJ.U,aJ.A,aJ.G,aJ.B,aJ.X,ao3,ao2,ao1,ao6,ao4,ao5,ao0,Nat.add_zero,Nat.zero_add,Bool.toNat_false,Bool.toNat_true] at e1 e2 e3 e4 e5 e6 e7 f1 f2 f3 f4 f5 f6 f7
 all_goals
  first
  | (cases L<;>cases W<;>cases S<;>simp at a1 a2 a3 a4 ⊢ <;>(try and_intros)<;>intros<;>omega)
  | (simp at a1 a2 a3 a4 ⊢ <;>(try and_intros)<;>intros<;>omega)
  | (have hy:=hx.2.2.2.2.1;subst hy;have h1:=hx.1;have h2:=hx.2.1;have h3:=hx.2.2.1;simp only at h1 h2 h3;subst h1 h2 h3;simp only[Bool.toNat_false] at e6 f6;simp at a1 a2 a3 a4 ⊢ <;>(try and_intros)<;>intros<;>omega)
  | (rename_i hS;simp only at hS;subst hS;cases L<;>cases W<;>simp at a1 a2 a3 a4 ⊢ <;>(try and_intros)<;>intros<;>omega)
  | (simp only[aJ.Ok,Wd.rest,Bool.or_eq_false_iff,beq_eq_false_iff_ne,ne_eq] at hx;obtain⟨⟨⟨h1,h2⟩,h3⟩,h4⟩:=hx;subst h2 h3 h4;simp at a1 a2 a3 a4 ⊢ <;>(try and_intros)<;>intros<;>omega)
  |skip
end
def aJ.Cf:aJ→Nat
 | .out k=>7*k
 | .ld k| .l0 k| .r0 k=>7*k+7
 | .sq k _ aw _ _ _| .c1 k _ aw _ _ _| .r1 k aw _ _ _| .c2 k _ aw _ _ _| .r3 k aw _ _ _=>7*k+(if aw then 6 else 7)
 | .t1 k _| .s1 k _=>7*k+5
 | .t2 k _| .r2 k _| .a1 k _=>7*k+6
 | .le k| .la k| .own k| .ui k| .ur k| .ud k| .u0 k=>7*k+5
 | .uc k _| .ux k=>7*k+4
 | .us k=>7*k+3
 | .ue k=>7*k
def aJ.fO(w:Wd):aJ→Nat
 | .out _=>50
 | .ld _=>22| .l0 _=>21| .r0 _=>20
 | .sq _ o _ _ it _=>3*(4-it)+(if o=w then 6 else 46)
 | .c1 _ o _ _ it _=>3*(4-it)+(if o=w then 5 else 45)
 | .r1 _ _ _ it _=>3*(4-it)+4
 | .c2 _ o _ _ _ _=>if o=w then 1 else 30
 | .r3 .. =>29
 | .t1 .. =>1| .s1 .. =>0| .t2 .. =>24| .r2 .. =>23| .a1 .. =>1
 | .le _=>7| .la _=>6| .own _=>5| .ui _=>4| .ur _=>3| .ud _=>2| .u0 _=>1
 | .uc _ o=>if o=w then 1 else 11
 | .ux _=>10| .us _=>1| .ue _=>60
section
variable {w w':Wd} {m m':Nat} {x x':aJ}
theorem FR{k:Nat}{o:Wd}{aw:Bool}:(AI k o aw sv it ws).Cf=7*k+(if aw then 6 else 7):=by unfold AI;split<;>rfl
theorem BL{k:Nat}{o:Wd}{aw:Bool}:(AI k o aw sv it ws).fO o≤3*(4-it)+6:=by
 unfold AI;split<;>simp[aJ.fO]
theorem Nx.lt(h:Nx x w m x' w' m')(hx:x.Ok)(BG:∀k,x≠ .out k):x'.Cf+2*m' <x.Cf+2*m∨(w'=w∧m'=m∧x'.Cf≤x.Cf∧x'.fO w <x.fO w):=by
 cases h
 case out=>exact absurd rfl (BG _)
 case ld=>exact .inr ⟨rfl,rfl,Nat.le_refl _,by simp[aJ.fO]⟩
 case l0y=>exact .inl (by simp[aJ.Cf])
 case l0n=>exact .inr ⟨rfl,rfl,Nat.le_refl _,by simp[aJ.fO]⟩
 case r0=>exact .inr ⟨rfl,rfl,by rw[FR];simp[aJ.Cf],Nat.lt_of_le_of_lt BL (by simp only[aJ.fO];omega)⟩
 case sqn k o aw sv it ws=>exact .inr ⟨rfl,rfl,Nat.le_refl _,by simp only[aJ.fO];split<;>omega⟩
 case sqy k o aw sv it ws hit=>
  refine .inr ⟨rfl,rfl,by split<;>exact Nat.le_refl _,?_⟩
  split<;>(simp only[aJ.fO];split<;>omega)
 case c1y k aw sv it ws=>exact .inl (by have:=hx.2.2.2.2.1;subst this;simp[aJ.Cf])
 case c1n k o aw sv it ws cF=>exact .inr ⟨rfl,rfl,Nat.le_refl _,by simp only[aJ.fO];rw[if_neg (Ne.symm cF)];omega⟩
 case r1 k aw sv it ws=>exact .inr ⟨rfl,rfl,by rw[FR];exact Nat.le_refl _,Nat.lt_of_le_of_lt BL (by have:=hx.2;simp only[aJ.fO];omega)⟩
 case c2y k aw sv it ws=>
  refine .inl ?_
  split
  ·split<;>(simp only[aJ.Cf];split<;>omega)
  simp only[aJ.Cf];split<;>omega
 case c2n k o aw sv it ws cF=>exact .inr ⟨rfl,rfl,Nat.le_refl _,by simp only[aJ.fO];rw[if_neg (Ne.symm cF)];omega⟩
 case r3 k aw sv it ws=>exact .inr ⟨rfl,rfl,by rw[FR];exact Nat.le_refl _,Nat.lt_of_le_of_lt BL (by simp only[aJ.fO];omega)⟩
 case t1=>exact .inr ⟨rfl,rfl,Nat.le_refl _,by simp[aJ.fO]⟩
 case s1=>exact .inl (by simp only[aJ.Cf];omega)
 case s1s=>exact .inl (by simp only[aJ.Cf];omega)
 case t2=>exact .inr ⟨rfl,rfl,Nat.le_refl _,by simp[aJ.fO]⟩
 case r2y=>exact .inr ⟨rfl,rfl,Nat.le_refl _,by simp[aJ.fO]⟩
 case r2n k sv ws hS=>exact .inr ⟨rfl,rfl,by rw[FR];exact Nat.le_refl _,Nat.lt_of_le_of_lt BL (by simp only[aJ.fO];omega)⟩
 case a1=>exact .inl (by simp[aJ.Cf])
 case le=>exact .inr ⟨rfl,rfl,Nat.le_refl _,by simp[aJ.fO]⟩
 case la=>exact .inr ⟨rfl,rfl,Nat.le_refl _,by simp[aJ.fO]⟩
 case own=>exact .inr ⟨rfl,rfl,Nat.le_refl _,by simp[aJ.fO]⟩
 case ui=>exact .inr ⟨rfl,rfl,Nat.le_refl _,by simp[aJ.fO]⟩
 case ur=>exact .inr ⟨rfl,rfl,Nat.le_refl _,by simp[aJ.fO]⟩
 case ud=>exact .inr ⟨rfl,rfl,Nat.le_refl _,by simp[aJ.fO]⟩
 case u0 k=>
  refine .inl ?_
  unfold YG
  split
  ·simp[aJ.Cf]
  split<;>simp[aJ.Cf]
 case ucy=>exact .inl (by simp[aJ.Cf])
 case ucn k o cF=>exact .inr ⟨rfl,rfl,Nat.le_refl _,by simp only[aJ.fO];rw[if_neg (Ne.symm cF)];omega⟩
 case ux k=>
  unfold YG
  split
  ·exact .inl (by simp[aJ.Cf])
  exact .inr ⟨rfl,rfl,Nat.le_refl _,by simp[aJ.fO]⟩
 case us=>exact .inl (by simp only[aJ.Cf];omega)
 case ue=>exact .inr ⟨rfl,rfl,Nat.le_refl _,by simp[aJ.fO]⟩
def aJ.busy:aJ→Prop
 | .out _| .s1 .. =>False
 |_=>True
theorem qO(f:α→Nat):∀ {T:List α},(∀x∈T,f x=0)→fA f T=0
 | [],_=>rfl
 |a::T,h=>by
  have:=qO f (T:=T) fun x hx=>h x (List.mem_cons_of_mem _ hx)
  have:=h a (List.mem_cons_self ..)
  simp only[fA,List.map_cons,List.sum_cons] at*;omega
theorem l9.live{T:List aJ}(h:l9 T w 0){k:Nat}(hs: .s1 k sv∈T):∃y∈T,y.busy:=by
 refine Classical.byContradiction fun hn=>?_
 have hb:∀y∈T,¬y.busy:=fun y hy hb=>hn ⟨y,hy,hb⟩
 have z:∀f:aJ→Nat,(∀y,¬y.busy→f y=0)→fA f T=0:=fun f hf=>qO f fun y hy=>hf y (hb y hy)
 have zH:=z aJ.H fun y hy=>by cases y<;>first|rfl|exact absurd True.intro hy
 have zU:=z aJ.U fun y hy=>by cases y<;>first|rfl|exact absurd True.intro hy
 have zA:=z aJ.A fun y hy=>by cases y<;>first|rfl|exact absurd True.intro hy
 have zG:=z aJ.G fun y hy=>by cases y<;>first|rfl|exact absurd True.intro hy
 have zB:=z aJ.B fun y hy=>by cases y<;>first|rfl|exact absurd True.intro hy
 have zX:=z aJ.X fun y hy=>by cases y<;>first|rfl|exact absurd True.intro hy
 have hQ:=jk aJ.Q hs
 simp only[aJ.Q] at hQ
 obtain⟨L,W,S,c⟩:=w
 have a1:=h.held;have a2:=h.norm;have a3:=h.star;have a4:=h.axD
 rw[zH] at a1;rw[zU,zG,zB,zA] at a2;rw[zU,zG,zB,zA] at a3;rw[zX] at a4
 cases L<;>cases W<;>cases S<;>simp at a1 a2 a3 a4
 omega
theorem acj(f g h:α→Nat){T:List α}(hle:∀x,f x+g x+h x≤1):fA f T+fA g T+fA h T≤T.length:=by
 induction T with
 |nil=>simp[fA]
 |cons a T ih=>
  have:=hle a
  simp only[fA,List.map_cons,List.sum_cons,List.length_cons] at*;omega
theorem l9.few{T:List aJ}(h:l9 T w m):w.c≤T.length∧m≤1:=by
 have h1:=acj aJ.Q aJ.G aJ.A (T:=T) fun x=>by cases x<;>simp[aJ.Q,aJ.G,aJ.A]
 cases hS:w.S
 ·obtain⟨a,b,c⟩:=h.norm hS
  have:w.W.toNat≤1:=Bool.toNat_le _
  exact⟨by omega,by omega⟩
 obtain⟨a,b,c,d⟩:=h.star hS
 exact⟨by omega,by omega⟩
theorem l9.one{T:List aJ}(h:l9 T w m){x y:aJ}(hi:T[i]?=some x) (hj:T[j]?=some y) (hx:x.H=1) (hy:y.H=1):i=j:=by
 refine Classical.byContradiction fun cF=>?_
 have e:=eT aJ.H (y:=aJ.out 0) hi
 have XB:(T.set i (aJ.out 0))[j]?=some y:=by rw[List.getElem?_set_ne cF];exact hj
 have l:=jk aJ.H (List.mem_of_getElem? XB)
 have:=h.held
 have hb:w.L.toNat≤1:=Bool.toNat_le _
 rw[show (aJ.out 0).H=0 from rfl] at e
 omega
theorem l9.start{T:List aJ}(h:∀x∈T,∃k,x= .out k):l9 T ⟨false,false,false,0⟩ 0:=by
 have z:∀f:aJ→Nat,(∀k,f (.out k)=0)→fA f T=0:=fun f hf=>qO f fun y hy=>by obtain⟨k,rfl⟩:=h y hy;exact hf k
 refine⟨by rw[z _ fun _=>rfl];rfl,fun _=>⟨by rw[z _ fun _=>rfl,z _ fun _=>rfl,z _ fun _=>rfl];rfl,by rw[z _ fun _=>rfl,z _ fun _=>rfl],z _ fun _=>rfl⟩,fun e=>(by cases e),fun _ _ _ e=>absurd rfl e,fun x hx=>?_⟩
 obtain⟨k,rfl⟩:=h x hx;exact True.intro
end
end Go.L
