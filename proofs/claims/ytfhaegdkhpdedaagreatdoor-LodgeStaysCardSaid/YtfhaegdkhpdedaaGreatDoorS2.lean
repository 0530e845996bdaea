/- Part 2 of the proof. -/
import Derived.Test.YtfhaegdkhpdedaaGreatDoorS1
import Derived.Conc.CrowdBase
import Derived.Conc.CrowdComm
import Derived.Conc.CrowdStepC
import Derived.Conc.CrowdTrace
import Derived.Conc.Holds
import Derived.Conc.Know
import Derived.Conc.MuSpec
import Derived.Conc.Own2
import Derived.Conc.QuitsD
import Derived.Conc.TokenWalk
import Derived.Conc.WrBase2
import Derived.Conc.WrWorld
set_option maxRecDepth 100000
set_option maxHeartbeats 4000000
set_option linter.all false
namespace Go.L
open Go Go.Conc
variable {i b n mx id it j x off:Nat} {Stop:Goroutine→St→Prop} {ι α:Type} {main sv ws:Bool} {ty:TypeId} {cs jv:List Frame} {s':St} {l:List Code} {st sm:Int} {f fr oe:Frame} {w':World} {t u:Trace} {g':Goroutine} {gs:Array Goroutine} {o:Obj} {pos:String} {fn:FuncId}
def gV(K:Nat->St)(i:Nat)(s:St):Nat->St:=λj=>if j=i then s else K j
theorem aV(K:Nat->St)(i:Nat)(s:St):gV K i s i=s:=by simp[gV]
theorem bz(K:Nat->St)(s:St)(h:j≠i):gV K i s j=K j:=by grind [gV]
def ET(s:St)(l:Loc):Prop:=∃a c t,l= .cell a/\s.ro a.block=some (.pending c t)/\a.off=wL
def ET.congr{s:St}{l:Loc}(hb:blk l=some b)(h:s'.ro b=s.ro b)(k:ET s l):ET s' l:=by
 obtain⟨a,c,t,rfl,h1,h2⟩:=k;cases hb;exact⟨a,c,t,rfl,h.trans h1,h2⟩
structure Fit(L:Nat->Option Obj)(K:Nat->St)(w:World)(t:Trace):Prop where
 C0:∀b o,L b=some o->w.heap[b]?=some o
 mN:∀i b,(K i).owns b->L b=none
 ny:∀i,dh (K i) w
 sep:∀i j b,i≠j->(K i).owns b->¬(K j).knows b
 perm:∀i b,(K i).owns b->∀p x,touchAt t p=some x->blk x.loc=some b->Knows t i p
 sw:∀i b,(K i).ro b≠none->∀p x,touchAt t p=some x->blk x.loc=some b->x.write=true->¬ET (K i) x.loc->Knows t i p
 old:∀p x b,touchAt t p=some x->blk x.loc=some b->b <w.heap.size
 clean:∀said,¬Race said t
 sync:∀p x b,touchAt t p=some x->x.kind≠ .plain->blk x.loc=some b->L b=none/\∀i,¬(K i).knows b
theorem lt_size{a:Array α}{x:α}(h:a[i]?=some x):i <a.size:=by
 grind
theorem cm{p:Nat}{x:Touch}(h:touchAt (t++u) p=some x):(p <t.size/\touchAt t p=some x)\/(t.size<=p/\∃op∈u,(t++u)[p]?=some op/\op.act.touch?=some x):=by
 rcases Dr p t.size with hp|hp
 .grind [touchAt_old]
 obtain⟨op,ho,hx⟩:=touch_of h
 grind
theorem y6{s:St}{n i:Nat}{fn:FuncId}{pos:String}{es:Array Event}(h:∀e∈es,N0 s n e){op:MemOp}(ho:op∈MemOp.ofEvents i fn pos es):
 op.g=i/\∀x,op.act.touch?=some x->x.kind= .plain/\∃b,blk x.loc=some b/\(n<=b\/s.owns b\/(x.write=false/\s.ro b≠none/\¬ET s x.loc))/\∃e∈es,blk e.loc=some b:=by
 rw[ofEvents_eq] at ho;obtain⟨e,he,rfl⟩:=Array.mem_map.1 ho;refine⟨rfl,λx hx=>?_⟩;have hk:=h e he;obtain⟨loc,wr,sy⟩:=e;cases loc with
 |cell a=>
  obtain⟨h1,h2⟩:=hk;simp only at h1 h2;subst h1;have h2:n<=a.block\/s.owns a.block\/(wr=false/\s.ro a.block≠none/\¬ET s (.cell a)):=
   h2.imp id λh=>h.imp id λh=>⟨h.1,h.2.1,λ⟨a',c,t,e,k1,k2⟩=>by cases e;exact h.2.2 c t k1 k2⟩
  cases wr<;>(simp only[MemAct.ofEvent,MemAct.touch?,Option.some.injEq] at hx;subst hx;exact⟨rfl,_,rfl,h2,_,he,rfl⟩)
 |obj r=>
  obtain⟨h1,h2⟩:=hk;simp only at h1 h2;subst h1;have h2:n<=r\/s.owns r\/(wr=false/\s.ro r≠none/\¬ET s (.obj r)):=
   h2.imp id λh=>h.imp id λh=>⟨h.1,h.2,λ⟨a',c,t,e,_⟩=>by cases e⟩
  cases wr<;>(simp only[MemAct.ofEvent,MemAct.touch?,Option.some.injEq] at hx;subst hx;exact⟨rfl,_,rfl,h2,_,he,rfl⟩)
 |mark m=>
  cases m<;>simp only[N0,GW,Bool.false_eq_true] at hk<;>(cases hx)
 |_=>exact hk.elim
theorem E9{p:Nat}(hu:∀op∈u,op.g=i)(hp:t.size<=p){op:MemOp}(ho:(t++u)[p]?=some op):Knows (t++u) i p:=by
 rcases getElem?_append_cases ho with ⟨h',_⟩| ⟨_,hm⟩
 .omega
 grind [knows_own]
theorem Fit.own{L:Nat->Option Obj}{K:Nat->St}{w:World}(h:Fit L K w t){es:Array Event}(ht:Trans (K i) w s' w' es)(fn:FuncId)(pos:String):
 Fit L (gV K i s') w' (t++MemOp.ofEvents i fn pos es):=by
 have hu:=λop (ho:op∈MemOp.ofEvents i fn pos es)=>y6 ht.Aw ho;have hg:∀op∈MemOp.ofEvents i fn pos es,op.g=i:=λop ho=>(hu op ho).1;have other:∀j b,j≠i->(K j).knows b->b <w.heap.size/\¬(K i).owns b:=λj b hj hk=>by
  refine⟨?_,λho=>h.sep i j b (jz hj) ho hk⟩;rcases hk with hk| ⟨o,hk⟩
  .cases hr:(K j).ro b with
   |none=>exact absurd hr hk
   |some o=>exact(h.ny j).lt (.inl hr)
  exact(h.ny j).lt (.inr hk)
 have ahi:∀b o,L b=some o->b <w.heap.size:=λb o hl=>lt_size (h.C0 b o hl);refine⟨λb o hl=>?_,λj b ho=>?_,λj=>?_,λj k b JE ho hk=>?_,λj b ho p x hx hb=>?_,λj b ho p x hx hb hw hh=>?_,λp x b hx hb=>?_,λsaid=>?_,λp x b hx hk hb=>?_⟩
 .rw[ht.frame b (ahi b o hl) (λho=>by have:=h.mN i b ho;rw[hl] at this;cases this)];exact h.C0 b o hl
 .by_cases hj:j=i
  .subst hj;rw[aV] at ho;rcases ht.own b ho with h1|h1
   .cases hl:L b with
    |none=>rfl
    |some o=>have:=ahi b o hl;omega
   exact h.mN j b h1
  rw[bz K s' hj] at ho;exact h.mN j b ho
 .by_cases hj:j=i
  .subst hj;rw[aV];exact ht.ny
  rw[bz K s' hj];have a:=h.ny j;refine⟨λb o hb=>?_,λb o hb=>?_,a.real,a.nodup,a.apart⟩
  .have:=other j b hj (.inl (by rw[hb];simp));rw[ht.frame b this.1 this.2];exact a.ro b o hb
  have:=other j b hj (.inr ⟨o,hb⟩);rw[ht.frame b this.1 this.2];exact a.rw b o hb
 .by_cases hj:j=i
  .subst hj;rw[aV] at ho;rw[bz K s' (jz JE)] at hk;have:=other k b (jz JE) hk;rcases ht.own b ho with h1|h1
   .omega
   exact this.2 h1
  rw[bz K s' hj] at ho;by_cases mA:k=i
  .subst mA;rw[aV] at hk;have:=other j b hj (.inr ho);rcases hk with hk|hk
   .rcases ht.RZ b hk with h1|h1|h1
    .omega
    .exact h.sep j k b hj ho (.inl (h1▸hk))
    exact this.2 h1
   rcases ht.own b hk with h1|h1
   .omega
   exact this.2 h1
  rw[bz K s' mA] at hk;exact h.sep j k b JE ho hk
 .rcases cm hx with ⟨hp,mO⟩| ⟨hp,op,hm,aX,vI⟩
  .by_cases hj:j=i
   .subst hj;rw[aV] at ho;rcases ht.own b ho with h1|h1
    .exact absurd (h.old p x b mO hb) (by omega)
    exact(h.perm j b h1 p x mO hb).app _
   rw[bz K s' hj] at ho;exact(h.perm j b ho p x mO hb).app _
  by_cases hj:j=i
  .subst hj;exact E9 hg hp aX
  rw[bz K s' hj] at ho;obtain⟨_,b',mB,hc,e',Uh,hbe⟩:=(hu op hm).2 x vI;obtain rfl:b'=b:=by rw[hb] at mB;exact(aK mB).symm
  have:=other j b' hj (.inr ho);rcases hc with h1|h1|h1
  .omega
  .exact absurd h1 this.2
  exact absurd (.inl h1.2.1) (h.sep j i b' hj ho)
 .rcases cm hx with ⟨hp,mO⟩| ⟨hp,op,hm,aX,vI⟩
  .by_cases hj:j=i
   .subst hj;rw[aV] at ho;rcases ht.RZ b ho with h1|h1|h1
    .exact absurd (h.old p x b mO hb) (by omega)
    .exact(h.sw j b (h1▸ho) p x mO hb hw λk=>hh (by rw[aV];exact k.congr hb h1)).app _
    exact(h.perm j b h1 p x mO hb).app _
   rw[bz K s' hj] at ho hh;exact(h.sw j b ho p x mO hb hw hh).app _
  by_cases hj:j=i
  .subst hj;exact E9 hg hp aX
  rw[bz K s' hj] at ho;obtain⟨_,b',mB,hc,e',Uh,hbe⟩:=(hu op hm).2 x vI;obtain rfl:b'=b:=by rw[hb] at mB;exact(aK mB).symm
  have:=other j b' hj (.inl ho);rcases hc with h1|h1|h1
  .omega
  .exact absurd h1 this.2
  rw[h1.1] at hw;cases hw
 .rcases cm hx with ⟨hp,mO⟩| ⟨hp,op,hm,aX,vI⟩
  .exact HG (h.old p x b mO hb) ht.size
  obtain⟨_,b',mB,hc,e',Uh,hbe⟩:=(hu op hm).2 x vI;obtain rfl:b'=b:=by rw[hb] at mB;exact(aK mB).symm
  exact ht.low e' Uh b' hbe
 case refine_9=>
  rcases cm hx with ⟨hp,mO⟩| ⟨hp,op,hm,aX,vI⟩
  .have hs:=h.sync p x b mO hk hb;refine⟨hs.1,λj hj=>?_⟩;by_cases e:j=i
   .subst e;rw[aV] at hj;have ei:=h.old p x b mO hb;rcases hj with hj|hj
    .rcases ht.RZ b hj with h1|h1|h1
     .omega
     .exact hs.2 j (.inl (h1▸hj))
     exact hs.2 j (.inr h1)
    rcases ht.own b hj with h1|h1
    .omega
    exact hs.2 j (.inr h1)
   rw[bz K s' e] at hj;exact hs.2 j hj
  exact absurd ((hu op hm).2 x vI).1 hk
 case refine_8=>
  refine noRace_append (h.clean said) hg λp a ha op hm b hb hc=>?_;obtain⟨hk,c,hbc,xv,_⟩:=(hu op hm).2 b hb;have aHJ:blk a.loc=some c:=by rw[hc.1];exact hbc
  rcases xv with h1|h1|h1
  .exact absurd (h.old p a c ha aHJ) (by omega)
  .exact h.perm i c h1 p a ha aHJ
  refine h.sw i c h1.2.1 p a ha aHJ ?_ (by rw[hc.1];exact h1.2.2);rcases hc.2.2.1 with hw|hw
  .exact hw
  rw[h1.1] at hw;cases hw
def VW{said:Bool}(h:¬Race said t)(hu:∀op∈u,op.act.touch?=none):¬Race said (t++u):=by
 rintro⟨i,j,Og,⟨a,b,ha,hb,hc⟩,n1,n2⟩;obtain⟨y,hy,hyb⟩:=touch_of hb;rcases getElem?_append_cases hy with ⟨hj,_⟩| ⟨_,hyu⟩
 .have hi:i <t.size:=Nat.lt_trans Og hj;exact h ⟨i,j,Og,⟨a,b,by rw[<-act?_old (u:=u) hi];exact ha,by rw[<-act?_old (u:=u) hj];exact hb,hc⟩,λe=>n1 (hb_app u e),λe=>n2 (hb_app u e)⟩
 rw[hu y hyu] at hyb;cases hyb
section
variable {L:Nat->Option Obj} {K:Nat->St} {w w':World} {t u:Trace}
theorem Fit.P8(h:Fit L K w t)(hk:(K i).knows b):b <w.heap.size:=by
 rcases hk with hk| ⟨o,hk⟩
 .cases hr:(K i).ro b with
  |none=>grind
  |some o=>exact(h.ny i).lt (.inl hr)
 exact(h.ny i).lt (.inr hk)
theorem dh.congr{s:St}(h:dh s w)(hf:∀b,s.knows b->w'.heap[b]?=w.heap[b]?):dh s w':=
 ⟨λb o hb=>by rw[hf b (.inl (by grind))];exact h.ro b o hb,λb o hb=>by rw[hf b (.inr ⟨o,hb⟩)];exact h.rw b o hb,h.real,h.nodup,h.apart⟩
def Fit.quiet(h:Fit L K w t)(B:Nat)(hB:∀j,¬(K j).knows B)(hBL:L B=none)(hs:w.heap.size<=w'.heap.size)(hf:∀b,b≠B->b <w.heap.size->w'.heap[b]?=w.heap[b]?)
 (hu:∀op∈u,op.act.touch?=none):Fit L K w' (t++u):=by
 have old:∀p x,touchAt (t++u) p=some x->touchAt t p=some x:=λp x hx=>by
  rcases cm hx with ⟨_,h'⟩| ⟨_,op,hm,_,vI⟩
  .exact h'
  rw[hu op hm] at vI;cases vI
 refine⟨λb o hl=>?_,h.mN,λi=>?_,h.sep,λi b ho p x hx hb=>(h.perm i b ho p x (old p x hx) hb).app u,λi b ho p x hx hb hw hh=>(h.sw i b ho p x (old p x hx) hb hw hh).app u,
  λp x b hx hb=>HG (h.old p x b (old p x hx) hb) hs,λsaid=>VW (h.clean said) hu,λp x b hx hk hb=>h.sync p x b (old p x hx) hk hb⟩
 .rw[hf b (λe=>by rw[e,hBL] at hl;cases hl) (lt_size (h.C0 b o hl))];exact h.C0 b o hl
 exact(h.ny i).congr λb hb=>hf b (λe=>hB i (e▸hb)) (h.P8 hb)
def Fit.beside(h:Fit L K w t)(B i:Nat)(hB:∀j,¬(K j).knows B)(hBL:L B=none)(hBw:B <w.heap.size)(hs:w.heap.size<=w'.heap.size)(hf:∀b,b≠B->b <w.heap.size->w'.heap[b]?=w.heap[b]?)
 (hg:∀op∈u,op.g=i) (hu:∀op∈u,∀x,op.act.touch?=some x->blk x.loc=some B/\∀said p a,touchAt t p=some a->a.conflicts said x->Knows t i p):Fit L K w' (t++u):=by
 have old:∀b,b≠B->∀p x,touchAt (t++u) p=some x->blk x.loc=some b->touchAt t p=some x:=λb eA p x hx hb=>by
  rcases cm hx with ⟨_,h'⟩| ⟨_,op,hm,_,vI⟩
  .exact h'
  have:=(hu op hm x vI).1;rw[hb] at this;exact absurd (aK this) eA
 have ne:∀j b,(K j).knows b->b≠B:=λj b hk e=>hB j (e▸hk);refine⟨λb o hl=>?_,h.mN,λi=>?_,h.sep,λj b ho p x hx hb=>(h.perm j b ho p x (old b (ne j b (.inr ho)) p x hx hb) hb).app u,
  λj b ho p x hx hb hw hh=>(h.sw j b ho p x (old b (ne j b (.inl ho)) p x hx hb) hb hw hh).app u,
  λp x b hx hb=>?_,λsaid=>noRace_append (h.clean said) hg λp a ha op hm b hb hc=>(hu op hm b hb).2 said p a ha hc,λp x b hx hk hb=>?_⟩
 .rw[hf b (λe=>by rw[e,hBL] at hl;cases hl) (lt_size (h.C0 b o hl))];exact h.C0 b o hl
 .exact(h.ny i).congr λb hb=>hf b (λe=>hB i (e▸hb)) (h.P8 hb)
 .by_cases e:b=B
  .subst e;omega
  exact HG (h.old p x b (old b e p x hx hb) hb) hs
 by_cases e:b=B
 .subst e;exact⟨hBL,hB⟩
 exact h.sync p x b (old b e p x hx hb) hk hb
theorem St.le.owns{s:St}(h:s.le s')(hb:s.owns b):s'.owns b:=by
 obtain⟨R,h1,_⟩:=h;obtain⟨o,ho⟩:=hb;exact⟨o,h1.mem_iff.2 (by grind)⟩
theorem St.le.ro{s:St}(h:s.le s')(hb:s.ro b≠none):s'.ro b≠none\/s'.owns b:=by
 obtain⟨R,h1,h2⟩:=h;cases hr:s.ro b with
 |none=>grind
 |some o=>
  rcases h2 b o hr with h3|h3
  .grind
  exact .inr ⟨o,h1.mem_iff.2 (by grind)⟩
theorem St.le.bU{s:St}(h:s.le s')(hb:s.ro b≠none):s.ro b=s'.ro b\/s'.owns b:=by
 obtain⟨R,h1,h2⟩:=h;cases hr:s.ro b with
 |none=>grind
 |some o=>
  rcases h2 b o hr with h3|h3
  .grind
  exact .inr ⟨o,h1.mem_iff.2 (by grind)⟩
def St.le.knows{s:St}(h:s.le s')(hb:s.knows b):s'.knows b:=hb.elim (λhr=>(h.ro hr).elim .inl .inr) λho=> .inr (h.owns ho)
def Fit.le{K':Nat->St}(h:Fit L K w t)(hK:∀i,(K' i).le (K i)):Fit L K' w t:=
 ⟨h.C0,λi b ho=>h.mN i b ((hK i).owns ho),λi=>(h.ny i).of_le (hK i),λi j b Og ho hk=>h.sep i j b Og ((hK i).owns ho) ((hK j).knows hk),
  λi b ho p x hx hb=>h.perm i b ((hK i).owns ho) p x hx hb,
  λi b ho p x hx hb hw hh=>((hK i).bU ho).elim (λhr=>h.sw i b (hr▸ho) p x hx hb hw λk=>hh (k.congr hb hr)) λhr=>h.perm i b hr p x hx hb,h.old,h.clean,
  λp x b hx hk hb=>⟨(h.sync p x b hx hk hb).1,λi hi=>(h.sync p x b hx hk hb).2 i ((hK i).knows hi)⟩⟩
def Fit.share(h:Fit L K w t)(uM:i≠n)(s:St)(SO:s.rw=[])(qX:∀b o,s.ro b=some o->(K i).ro b=some o)
 (hk:∀b,s.ro b≠none->∀p x,touchAt t p=some x->blk x.loc=some b->x.write=true->¬ET s x.loc->Knows t n p):Fit L (gV K n s) w t:=by
 have no:∀b,¬s.owns b:=λb ⟨o,ho⟩=>by rw[SO] at ho;cases ho
 have kn:∀b,s.ro b≠none->(K i).ro b≠none:=λb hb=>by
  cases hr:s.ro b with
  |none=>exact absurd hr hb
  |some o=>rw[qX b o hr];simp
 refine⟨h.C0,λk b ho=>?_,λk=>?_,λk l b hkl ho hb=>?_,λk b ho p x hx hb=>?_,λk b ho p x hx hb hw hh=>?_,h.old,h.clean,λp x b hx mA hb=>⟨(h.sync p x b hx mA hb).1,λk ep=>?_⟩⟩
 case refine_6=>
  have hs:=(h.sync p x b hx mA hb).2;by_cases a:k=n
  .subst a;rw[aV] at ep;exact hs i (.inl (kn b (ep.resolve_right (no b))))
  rw[bz _ _ a] at ep;exact hs k ep
 .by_cases a:k=n
  .subst a;rw[aV] at ho;exact absurd ho (no b)
  rw[bz _ _ a] at ho;exact h.mN k b ho
 .by_cases a:k=n
  .subst a;rw[aV];exact⟨λb o hb=>(h.ny i).ro b o (qX b o hb),λb o hb=>absurd ⟨o,hb⟩ (no b),λb o hb=>absurd ⟨o,hb⟩ (no b),by rw[SO];simp,λb o hb=>absurd ⟨o,hb⟩ (no b)⟩
  rw[bz _ _ a];exact h.ny k
 .by_cases a:k=n
  .subst a;rw[aV] at ho;exact no b ho
  rw[bz _ _ a] at ho;by_cases c:l=n
  .subst c;rw[aV] at hb;have hr:=kn b (hb.resolve_right (no b));by_cases d:k=i
   .subst d;obtain⟨o,ho⟩:=ho;exact hr ((h.ny k).apart b o ho)
   exact h.sep k i b d ho (.inl hr)
  rw[bz _ _ c] at hb;exact h.sep k l b hkl ho hb
 .by_cases a:k=n
  .subst a;rw[aV] at ho;exact absurd ho (no b)
  rw[bz _ _ a] at ho;exact h.perm k b ho p x hx hb
 by_cases a:k=n
 .subst a;rw[aV] at ho hh;exact hk b ho p x hx hb hw hh
 rw[bz _ _ a] at ho hh;exact h.sw k b ho p x hx hb hw hh
def Fit.alone(h:Fit L K w t)(hK:∀j,j≠i->∀b,¬(K j).knows b)(s:St)(ha:dh s w)
 (uM:∀b,s.knows b->L b≠none\/(K i).knows b)(mA:∀b,s.knows b->∀p x,touchAt t p=some x->x.kind= .plain->blk x.loc=some b->Knows t i p):
 Fit (λ_=>none) (gV K i s) w t:=by
 have aPY:∀b,s.knows b->∀p x,touchAt t p=some x->blk x.loc=some b->x.kind= .plain:=λb hb p x hx Yl=>by
  by_cases e:x.kind= .plain
  .exact e
  have hs:=h.sync p x b hx e Yl;exact((uM b hb).elim (λh'=>h' hs.1) λh'=>hs.2 i h').elim
 have hk:∀b,s.knows b->∀p x,touchAt t p=some x->blk x.loc=some b->Knows t i p:=λb hb p x hx Yl=>mA b hb p x hx (aPY b hb p x hx Yl) Yl;refine⟨λb o hl=>((by cases hl)),λ_ _ _=>rfl,λk=>?_,λk l b hkl ho hb=>?_,λk b ho p x hx hb=>?_,λk b ho p x hx hb hw hh=>?_,h.old,h.clean,λp x b hx hkd hb=>⟨rfl,λk ep=>?_⟩⟩
 case refine_5=>
  by_cases a:k=i
  .subst a;rw[aV] at ep;exact hkd (aPY b ep p x hx hb)
  rw[bz _ _ a] at ep;exact hK k a b ep
 .by_cases a:k=i
  .subst a;rw[aV];exact ha
  rw[bz _ _ a];exact h.ny k
 .by_cases a:k=i
  .rw[bz _ _ (λe=>hkl (a.trans e.symm))] at hb;exact hK l (λe=>hkl (a.trans e.symm)) b hb
  rw[bz _ _ a] at ho;exact hK k a b (.inr ho)
 .by_cases a:k=i
  .subst a;rw[aV] at ho;exact hk b (.inr ho) p x hx hb
  rw[bz _ _ a] at ho;exact absurd (.inr ho) (hK k a b)
 by_cases a:k=i
 .subst a;rw[aV] at ho;exact hk b (.inl ho) p x hx hb
 rw[bz _ _ a] at ho;exact absurd (.inl ho) (hK k a b)
end
inductive Tree:Type
 |leaf
 |node (f:World->Tree)
inductive Tree.Lt:Tree->Tree->Prop
 |mk (f:World->Tree) (w:World):Tree.Lt (f w) (.node f)
theorem Tree.wf:WellFounded Tree.Lt:=by
 refine⟨λt=>?_⟩
 induction t with
 |leaf=>exact⟨_,λy h=>(by cases h)⟩
 |node f ih=>exact⟨_,λy h=>by cases h;grind⟩
def qw(P:Program)(main:Bool)(Stop:Goroutine->St->Prop):Tree->Goroutine->St->Prop
 | .leaf,g,s=>Stop g s
 | .node f,g,s=>g.status= .running/\∀w,dh s w->∃g' w' es s',stepG P main g w= .go g' w' es/\g'.status= .running/\Trans s w s' w' es/\qw P main Stop (f w) g' s'
theorem St.le.trans{a b c:St}(h:a.le b)(k:b.le c):a.le c:=by
 obtain⟨R,h1,h2⟩:=h;obtain⟨R',k1,k2⟩:=k;refine⟨R++R',?_,λx o hx=>?_⟩
 .rw[<-bx];exact k1.trans (h1.append_right R')
 grind
theorem Trans.le{s s' ig:St}{w w':World}{es:Array Event}(h:Trans s w s' w' es)(hl:ig.le s'):Trans s w ig w' es:=
 ⟨h.ny.of_le hl,h.size,h.frame,λb hb=>h.own b (hl.owns hb),λb hb=>(hl.bU hb).elim (λe=>by rw[e];exact h.RZ b (e▸hb)) λho=>(h.own b ho).imp id .inr,h.os,h.output,h.tape,h.Aw,h.low⟩
def gx(P:Program)(main:Bool)(Stop:Goroutine->St->Prop)(g:Goroutine)(s:St):Prop:=∃tr ig,ig.le s/\qw P main Stop tr g ig
def fJ(P:Program)(main:Bool)(Stop:Goroutine->St->Prop):Closed P main (gx P main Stop) where
 step:=λg s hs h=>by
  have key:∀w,∃tr,dh s w->∃g' w' es s',stepG P main g w= .go g' w' es/\g'.status= .running/\Trans s w s' w' es/\qw P main Stop tr g' s':=λw=>by
   by_cases ha:dh s w
   .obtain⟨g',w',es,s',h1,h2,h3,tr,ig,hl,h4⟩:=h w ha;exact⟨tr,λ_=>⟨g',w',es,ig,h1,h2,h3.le hl,h4⟩⟩
   exact⟨.leaf,λwo=>absurd wo ha⟩
  refine⟨.node λw=>(key w).choose,s,St.le_refl s,hs,λw ha=>(key w).choose_spec ha⟩
 mono:=λg s s' hl ⟨tr,ig,h,ht⟩=>⟨tr,ig,h.trans hl,ht⟩
def gx.stop{P:Program}{g:Goroutine}{s:St}(h:Stop g s):gx P main Stop g s:=⟨.leaf,s,St.le_refl s,h⟩
section
variable {α:Type}
inductive One(r:α->α->Prop):List α->List α->Prop
 |mk (a:List α) (x y:α) (b:List α):r y x->One r (a++y::b) (a++x::b)
theorem One.cons_inv{r:α->α->Prop}{x:α}{l m:List α}(h:One r m (x::l)):(∃y,m=y::l/\r y x)\/∃l',m=x::l'/\One r l' l:=by
 generalize hk:x::l=k at h;obtain⟨a,u,v,b,hr⟩:=h;cases a with
 |nil=>grind
 |cons c a=>obtain⟨rfl,rfl⟩:=hk;exact .inr ⟨_,rfl,.mk a u v b hr⟩
def One.acc{r:α->α->Prop}:∀l:List α,(∀x∈l,Acc r x)->Acc (One r) l
 | [],_=>⟨_,λm h=>by
  generalize hk:([]:List α)=k at h;obtain⟨a,u,v,b,hr⟩:=h;cases a<;>simp at hk⟩
 |x::l,h=>by
  have hl:=One.acc l λy hy=>h y (cb _ hy);have hx:=h x (dQ ..);clear h
  induction hx generalizing l with
  |intro x hx ihx=>
   clear hx
   induction hl with
   |intro l hl ihl=>
    refine⟨_,λm hm=>?_⟩;rcases hm.cons_inv with ⟨y,rfl,hr⟩| ⟨l',rfl,hr⟩
    .exact ihx y hr l ⟨_,hl⟩
    exact ihl l' hr
def One.wf{r:α->α->Prop}(h:WellFounded r):WellFounded (One r):=⟨λl=>One.acc l λx _=>h.apply x⟩
theorem One.set{r:α->α->Prop}{l:List α}{x y:α}(h:l[i]?=some x) (hr:r y x):One r (l.set i y) l:=by
 obtain⟨hi,rfl⟩:=aA.1 h;have e1:l=l.take i++l[i]::l.drop (i+1):=by
  rw[List.getElem_cons_drop,fH]
 have e2:l.set i y=l.take i++y::l.drop (i+1):=by
  rw[List.set_eq_take_append_cons_drop,dN hi]
 rw[e2]
 conv=>rhs;rw[e1]
 exact .mk _ _ _ _ hr
end
open Go.ConcR (KK wgBlock WgAt stA smA rd wr)
abbrev said(m:Mark):Event:=Go.ConcR.mk m
def Pure(P:Program)(main:Bool)(Live:World->Prop)(Stop:Goroutine->Prop):Nat->Goroutine->Prop
 |0,g=>Stop g
 |n+1,g=>g.status= .running/\∃g',(∀w,Live w->stepG P main g w= .go g' w #[])/\Pure P main Live Stop n g'
structure iZ(ι:Type) where
 P:Program
 ty:TypeId
 Wg:Nat
 Ch:Nat
 max:Nat
 z:Value
 os:Os
 out:Array (Nat×ByteArray)
 aub:ι->Value->List (Nat×Obj)->Prop
section
variable {ι:Type} (E:iZ ι)
def iZ.live(w:World):Prop:=∃st sm,WgAt E.ty E.Wg w st sm
def iZ.pure(main:Bool)(Stop:Goroutine->Prop)(g:Goroutine):Prop:=∃n,Pure E.P main E.live Stop n g
def iZ.D4(g:Goroutine):Prop:=g.status= .running/\mayWake E.P g=true/\∃g',(∀w,WgAt E.ty E.Wg w 0 0->stepG E.P false g w= .go g' (w.setCell (smA E.Wg) (.int .u32 1)) (semEvents (smA E.Wg)))/\∃q,QuitsD E.P q 1 g'
def iZ.D3(g:Goroutine):Prop:=g.status= .running/\∃g',(∀w,WgAt E.ty E.Wg w 1 0->stepG E.P false g w= .go g' (w.setCell (stA E.Wg) (.int .u64 0)) #[wr (stA E.Wg)])/\E.pure false E.D4 g'
def iZ.D2(g:Goroutine):Prop:=g.status= .running/\∃g',(∀w,WgAt E.ty E.Wg w 1 0->stepG E.P false g w= .go g' w #[rd (stA E.Wg)])/\E.pure false E.D3 g'
def iZ.D1(g:Goroutine):Prop:=g.status= .running/\∀v wt:Nat,wt<=1->v <E.max->
 ∃g',(∀w,WgAt E.ty E.Wg w (((v+1:Nat):Int)*KK+(wt:Int)) 0->stepG E.P false g w= .go g' (w.setCell (stA E.Wg) (.int .u64 ((v:Int)*KK+(wt:Int)))) #[rd (stA E.Wg),wr (stA E.Wg)])/\
  ((v=0/\wt=1)->E.pure false E.D2 g')/\(¬(v=0/\wt=1)->∃q,QuitsD E.P q 1 g')
def iZ.K1(g:Goroutine):Prop:=g.status= .running/\∃g',(∀w,stepG E.P false g w= .go g' w #[said .disable])/\E.pure false E.D1 g'
def iZ.R0(g:Goroutine):Prop:=g.status= .running/\∃g',(∀w,stepG E.P false g w= .go g' w #[said (.releaseMerge (stA E.Wg))])/\E.pure false E.K1 g'
inductive WK where
 |r0|k1|d1|d2|d3|d4
inductive bG(ι:Type) where
 |leave (q d:Nat) (cur:Bool)
 |work (o:ι) (tr:Tree)
 |mz (o:ι)
 |back (tr:Tree)
 |st (k:WK) (n:Nat)
 |closer
def WK.stop:WK->Goroutine->Prop
 | .r0=>E.R0| .k1=>E.K1| .d1=>E.D1| .d2=>E.D2| .d3=>E.D3| .d4=>E.D4
def WK.deaf:WK->Nat
 | .r0| .k1=>0
 |_=>1
def WK.said:WK->Bool
 | .r0=>false
 |_=>true
def WK.kB:WK->Nat
 | .r0=>6| .k1=>5| .d1=>4| .d2=>3| .d3=>2| .d4=>1
inductive CK where
 |kd|w1 (b:Nat)|w2 (b vs:Nat)|wr|w3|blk|w4|ke|aq|run (tr:Tree)
def CK.deaf:CK->Nat
 | .kd| .aq| .run _=>0
 |_=>1
def fW(t:Trace)(i:Nat):Prop:=∀p,t.g? p=some i->t.counts p->∃j,t.g? j=some 0/\HappensBefore t p j
end
section
variable {ι:Type} {E:iZ ι} {t u:Trace} {i j:Nat} {s:St} {g:Goroutine}
theorem Pure.running{P:Program}{Live:World->Prop}{Stop:Goroutine->Prop}(hS:∀g,Stop g->g.status= .running):∀ {n:Nat} {g:Goroutine},Pure P main Live Stop n g->g.status= .running
 |0,_,h=>hS _ h
 |_+1,_,h=>h.1
theorem iZ.pure.running{Stop:Goroutine->Prop}(hS:∀g,Stop g->g.status= .running)(h:E.pure main Stop g):g.status= .running:=Pure.running hS h.choose_spec
theorem WK.running:∀(k:WK) (g:Goroutine),k.stop E g->g.status= .running
 | .r0,_,h=>h.1
 | .k1,_,h=>h.1
 | .d1,_,h=>h.1
 | .d2,_,h=>h.1
 | .d3,_,h=>h.1
 | .d4,_,h=>h.1
theorem qw.running{P:Program}(hS:∀g s,Stop g s->g.status= .running):∀ {tr:Tree} {g:Goroutine} {s:St},qw P main Stop tr g s->g.status= .running
 | .leaf,_,_,h=>hS _ _ h
 | .node _,_,_,h=>h.1
def fW.other(h:fW t j)(hu:∀op∈u,op.g≠j):fW (t++u) j:=by
 intro p hp hc;obtain⟨op,ho,hg⟩:=fo.1 hp;rcases getElem?_append_cases ho with ⟨ei,_⟩| ⟨_,hm⟩
 .obtain⟨q,h1,h2⟩:=h p (by rw[<-g?_old (u:=u) ei];exact hp) ((counts_old ei).1 hc);have hq:q <t.size:=by
   obtain⟨o,ho,_⟩:=fo.1 h1;exact lt_size_of_getElem? ho
  exact⟨q,by rw[g?_old hq];exact h1,hb_app u h2⟩
 exact absurd hg (hu op hm)
theorem RelBy.other{a:Addr}{r:Nat}(h:ConcN.RelBy a t j r)(hu:∀op∈u,op.g≠j):ConcN.RelBy a (t++u) j r:=by
 refine h.app λp hp hg=>?_;obtain⟨op,ho,hgo⟩:=fo.1 hg
 grind
theorem jq(t:Trace){g:Nat}(u:Trace)(hu:∀op∈u,op.g≠g):Deaf (t++u) g=Deaf t g:=by
 obtain⟨l⟩:=u;rw[Deaf_append]
 induction l generalizing t with
 |nil=>rfl
 |cons y l ih=>
  have hy:y.g≠g:=hu y (by simp);have e1:deafStep g (Deaf t g) y=Deaf t g:=by
   unfold deafStep;split<;>simp[hy]
  rw[lS,e1];exact ih t (λop aX=>hu op (by simp at aX ⊢;exact .inr aX))
def agf(w w':World):Prop:=w'.os=w.os/\w'.output=w.output
theorem iA{P:Program}{k:Nat}{g x:Goroutine}(hki:k≠i)(hk:gs[k]?=some x):((gs.map (woken P g g' w')).setIfInBounds i g')[k]?=some (woken P g g' w' x):=by grind
end
def jD(f:bG ι->Nat)(D:List (bG ι)):Nat:=(D.map f).sum
def CK.waits:CK->Prop
 | .wr| .w3| .blk=>True
 |_=>False
def CK.over:CK->Prop
 | .w4| .ke| .aq| .run _=>True
 |_=>False
inductive Md(mx:Nat):(n n4 n3 n2:Nat)->Option CK->Int->Int->Prop
 |start {n:Nat}:Md mx n 0 0 0 none ((n:Int)*KK) 0
 |kd {n:Nat}:Md mx n 0 0 0 (some .kd) ((n:Int)*KK) 0
 |w1 {n b:Nat}:n<=b->Md mx n 0 0 0 (some (.w1 b)) ((n:Int)*KK) 0
 |w2 {n b v:Nat}:n<=v->1<=v->v<=b+1->Md mx n 0 0 0 (some (.w2 b v)) ((n:Int)*KK) 0
 |reg {n:Nat} {c:CK}:c.waits->1<=n->Md mx n 0 0 0 (some c) ((n:Int)*KK+1) 0
 |l4 {c:CK}:c.waits->Md mx 0 1 0 0 (some c) 1 0
 |l3 {c:CK}:c.waits->Md mx 0 0 1 0 (some c) 1 0
 |l2 {c:CK}:c.waits->Md mx 0 0 0 1 (some c) 0 0
 |sema {c:CK}:c.waits->c≠ .blk->Md mx 0 0 0 0 (some c) 0 1
 |over {c:CK}:c.over->Md mx 0 0 0 0 (some c) 0 0
section
variable {ι:Type} (E:iZ ι)
abbrev HN:=Option (Nat×CK×Nat)
end
abbrev Df:Nat×Tree×Nat->Nat×Tree×Nat->Prop:=Prod.Lex (· < ·) (Prod.Lex Tree.Lt (· < ·))
def Df.wf:WellFounded Df:=(Prod.lex _ (Prod.lex ⟨_,Tree.wf⟩ _)).wf
def eG{a b:Nat×Tree×Nat}(h:a.1 <b.1):Df a b:=by
 omega
theorem A8{a b:Tree}{y:Nat}(h:Tree.Lt a b):Df (n,a,x) (n,b,y):=by grind
theorem u9{a:Tree}{y:Nat}(h:x <y):Df (n,a,x) (n,a,y):=by grind
section
variable {ι:Type} {E:iZ ι}
theorem Kp{es:Array Event}(h:∀e∈es,Event.mute e=true):∀op∈MemOp.ofEvents i fn pos es,op.act.touch?=none:=by
 intro op aX;rw[ofEvents_eq] at aX;obtain⟨e,he,rfl⟩:=Array.mem_map.1 aX;have:=h e he;obtain⟨loc,wr,sy⟩:=e;cases loc with
 |mark m=>cases m<;>first|rfl|grind [Event.mute]
 |_=>simp[Event.mute] at this
theorem PV{es:Array Event}(h:∀e∈es,Event.mute e=true)(a:Addr):∀op∈MemOp.ofEvents i fn pos es,op.act≠ .mark (.release a):=by
 intro op aX;rw[ofEvents_eq] at aX;obtain⟨e,he,rfl⟩:=Array.mem_map.1 aX;have:=h e he;obtain⟨loc,wr,sy⟩:=e;cases loc with
 |mark m=>grind [MemAct.ofEvent,Event.mute]
 |_=>simp[Event.mute] at this
variable {L:Nat->Option Obj} {K:Nat->St} {gs:Array Goroutine} {w w':World} {t:Trace} {D:List (bG ι)} {pend d0:Nat} {cl:HN} {main:Goroutine} {sl:Option (Nat×Nat)}
end
section
variable {ι:Type} {E:iZ ι} {L:Nat->Option Obj} {K:Nat->St} {gs:Array Goroutine} {w w':World} {t u:Trace} {D:List (bG ι)} {pend d0:Nat} {cl:HN} {main:Goroutine} {sl:Option (Nat×Nat)}
 {i:Nat} {g g':Goroutine} {es:Array Event}
theorem kE(K:Nat->St)(i:Nat):gV K i (K i)=K:=by
 grind [aV,bz]
def fW.quiet(h:fW t j)(hu:∀op∈u,op.act.touch?=none):fW (t++u) j:=by
 intro p hp hc;obtain⟨op,ho,hg⟩:=fo.1 hp;rcases getElem?_append_cases ho with ⟨ei,_⟩| ⟨_,hm⟩
 .obtain⟨q,h1,h2⟩:=h p (by rw[<-g?_old (u:=u) ei];exact hp) ((counts_old ei).1 hc);have hq:q <t.size:=by
   obtain⟨o,ho,_⟩:=fo.1 h1;exact lt_size_of_getElem? ho
  exact⟨q,by rw[g?_old hq];exact h1,hb_app u h2⟩
 obtain⟨x,hx,_⟩:=hc;obtain⟨o',ho',mO⟩:=touch_of hx;rw[ho] at ho';cases ho';rw[hu op hm] at mO;cases mO
theorem PU{e:Event}(h:Event.mute e=true):(MemAct.ofEvent e).touch?=none:=by
 obtain⟨loc,wr,sy⟩:=e;cases loc with
 |mark m=>cases m<;>first|rfl|grind [Event.mute]
 |_=>grind [Event.mute]
def Gu{s:St}:∀(es:List Event) (d:Nat),(∀e∈es,N0 s n e)->es.foldl (λd e=>match e.loc with| .mark .disable=>d+1| .mark .enable=>d-1|_=>d) d=d
 | [],_,_=>rfl
 |e::es,d,h=>by
  have he:=h e (by simp);have:(match e.loc with| .mark .disable=>d+1| .mark .enable=>d-1|_=>d)=d:=by
   unfold N0 at he;split<;>simp_all[GW]
  rw[lS,this];exact Gu es d λx hx=>h x (by simp[hx])
theorem Trans.deaf{s:St}(ht:Trans s w s' w' es)(d:Nat):deafBehind d es=d:=by
 obtain⟨l⟩:=es;rw[deafBehind,List.foldl_toArray']
 .exact Gu l d λe he=>ht.Aw e (by grind)
 grind
end
def Md.d1{a c:Nat}{o:Option CK}(h:Md mx n a b c o st sm)(hn:1<=n)(ho:o≠none):
 ∃v wt:Nat,v+1=n/\wt<=1/\st=((v+1:Nat):Int)*KK+(wt:Int)/\sm=0/\a=0/\b=0/\c=0/\
  ((v=0/\wt=1)->Md mx v 1 0 0 o ((v:Int)*KK+(wt:Int)) 0)/\(¬(v=0/\wt=1)->Md mx v 0 0 0 o ((v:Int)*KK+(wt:Int)) 0):=by
 cases h with
 |start=>exact absurd rfl ho
 |kd=>exact⟨n-1,0,by omega,by omega,by rw[show n-1+1=n by omega];simp,rfl,rfl,rfl,rfl,λh=>by omega,λ_=>by simpa using .kd⟩
 |w1 h1=>exact⟨n-1,0,by omega,by omega,by rw[show n-1+1=n by omega];simp,rfl,rfl,rfl,rfl,λh=>by omega,λ_=>by simpa using .w1 (by omega)⟩
 |w2 h1 h2 h3=>exact⟨n-1,0,by omega,by omega,by rw[show n-1+1=n by omega];simp,rfl,rfl,rfl,rfl,λh=>by omega,λ_=>by simpa using .w2 (by omega) h2 h3⟩
 |reg h1 h2=>
  refine⟨n-1,1,by omega,by omega,by rw[show n-1+1=n by omega];simp,rfl,rfl,rfl,rfl,λh=>?_,λh=>?_⟩
  .rw[h.1];simpa using .l4 h1
  exact .reg h1 (by omega)
 |l4 _=>omega
 |l3 _=>omega
 |l2 _=>omega
 |sema _ _=>omega
 |over _=>omega
def Md.d2{a c:Nat}{o:Option CK}(h:Md mx n a b c o st sm)(hn:1<=a):st=1/\sm=0/\n=0/\a=1/\b=0/\c=0/\Md mx 0 0 1 0 o 1 0:=by
 cases h with
 |l4 h1=>exact⟨rfl,rfl,rfl,rfl,rfl,rfl,.l3 h1⟩
 |_=>omega
def Md.d3{a c:Nat}{o:Option CK}(h:Md mx n a b c o st sm)(hn:1<=b):st=1/\sm=0/\n=0/\a=0/\b=1/\c=0/\Md mx 0 0 0 1 o 0 0:=by
 cases h with
 |l3 h1=>exact⟨rfl,rfl,rfl,rfl,rfl,rfl,.l2 h1⟩
 |_=>omega
theorem Md.d4{a c:Nat}{o:Option CK}(h:Md mx n a b c o st sm)(hn:1<=c):st=0/\sm=0/\n=0/\a=0/\b=0/\c=1/\(o≠some .blk->Md mx 0 0 0 0 o 0 1):=by
 cases h with
 |l2 h1=>exact⟨rfl,rfl,rfl,rfl,rfl,rfl,λh'=> .sema h1 λe=>h' (by grind)⟩
 |_=>omega
theorem Md.run{a c:Nat}{o:Option CK}(h:Md mx n a b c o st sm){k:CK}(ho:o=some k)(hk:k.over):n=0/\a=0/\b=0/\c=0/\st=0/\sm=0:=by
 have nw:¬k.waits:=by cases k<;>simp_all[CK.over,CK.waits]
 cases h with
 |start=>cases ho
 |kd=>cases ho;exact hk.elim
 |w1 _=>cases ho;exact hk.elim
 |w2 _ _ _=>cases ho;exact hk.elim
 |reg h1 _=>grind
 |l4 h1=>cases ho;exact absurd h1 nw
 |l3 h1=>cases ho;exact absurd h1 nw
 |l2 h1=>grind
 |sema h1 _=>cases ho;exact absurd h1 nw
 |over _=>simp
section
variable {ι:Type} {E:iZ ι} {L:Nat->Option Obj} {K:Nat->St} {gs:Array Goroutine} {w w':World} {t u:Trace} {D:List (bG ι)} {pend d0:Nat} {cl:HN} {main:Goroutine} {sl:Option (Nat×Nat)}
 {i:Nat} {g g':Goroutine} {es:Array Event}
structure ek(E:iZ ι)(w w':World):Prop where
 size:w'.heap.size=w.heap.size
 block:∀b,b≠E.Wg->w'.heap[b]?=w.heap[b]?
 same:agf w w'
def ek.refl(w:World):ek E w w:=⟨rfl,λ_ _=>rfl,rfl,rfl⟩
theorem ek.set(w:World)(k:Nat)(v:Value):ek E w (w.setCell ⟨E.Wg,k,none⟩ v):=
 ⟨by simp,λb hb=>by simp[World.setCell,fI,jz hb],rfl,rfl⟩
end
def CK.phi(mx:Nat):CK->Nat
 | .kd=>2*mx+9
 | .w1 b=>2*b+8
 | .w2 b _=>2*b+9
 | .wr=>7
 | .w3| .blk=>6
 | .w4=>5
 | .ke=>4
 | .aq=>3
 | .run _=>2
def CK.tree:CK->Tree
 | .run tr=>tr
 |_=> .leaf
section
variable {ι:Type} {E:iZ ι} {L:Nat->Option Obj} {K:Nat->St} {gs:Array Goroutine} {w w':World} {t u:Trace} {D:List (bG ι)} {pend d0:Nat} {main:Goroutine} {sl:Option (Nat×Nat)}
 {ic:Nat} {g g':Goroutine} {es:Array Event} {c:CK} {n:Nat}
theorem Md.zero{mx n a b c:Nat}{k:CK}{st sm:Int}(h:Md mx n a b c (some k) st sm)(hk:k= .kd\/(∃b,k= .w1 b)\/∃b v,k= .w2 b v):st=(n:Int)*KK/\sm=0/\a=0/\b=0/\c=0/\(∀b,k= .w1 b->n<=b)/\∀b v,k= .w2 b v->n<=v/\1<=v/\v<=b+1:=by
 have nw:¬k.waits/\¬k.over:=by rcases hk with rfl| ⟨_,rfl⟩| ⟨_,_,rfl⟩<;>exact⟨id,id⟩
 cases h with
 |kd=>simp
 |w1 h1=>grind
 |w2 h1 h2 h3=>grind
 |reg h1 _=>exact absurd h1 nw.1
 |l4 h1=>exact absurd h1 nw.1
 |l3 h1=>exact absurd h1 nw.1
 |l2 h1=>exact absurd h1 nw.1
 |sema h1 _=>exact absurd h1 nw.1
 |over h1=>exact absurd h1 nw.2
def Md.waiting{mx n a b c:Nat}{k k':CK}{st sm:Int}(h:Md mx n a b c (some k) st sm)(hk:k.waits)(mA:k'.waits)(hb:k'≠ .blk\/sm=0):Md mx n a b c (some k') st sm:=by
 cases h with
 |kd=>exact hk.elim
 |w1 _=>exact hk.elim
 |w2 _ _ _=>exact hk.elim
 |reg _ h2=>exact .reg mA h2
 |l4 _=>exact .l4 mA
 |l3 _=>exact .l3 mA
 |l2 _=>exact .l2 mA
 |sema _ _=>exact .sema mA (hb.resolve_right (by decide))
 |over h1=>cases k<;>first|exact hk.elim|exact h1.elim
theorem Md.up{mx n a b c:Nat}{k:CK}{st sm:Int}(h:Md mx n a b c (some k) st sm)(hk:k.waits):(∃x,x=st/\sm=0)\/(st=0/\sm=1/\n=0/\a=0/\b=0/\c=0):=by
 cases h with
 |kd=>simp
 |w1 _=>simp
 |w2 _ _ _=>simp
 |reg _ _=>simp
 |l4 _=>simp
 |l3 _=>simp
 |l2 _=>simp
 |sema _ _=>simp
 |over h1=>simp
end
section
variable {ι:Type} {E:iZ ι} {L:Nat->Option Obj} {K:Nat->St} {gs jN:Array Goroutine} {w w':World} {t u:Trace} {D:List (bG ι)} {pend d0:Nat} {cl:HN} {main main':Goroutine} {sl:Option (Nat×Nat)}
 {i:Nat} {g g':Goroutine} {es:Array Event}
def ko(t:Trace)(g:Nat)(u:Trace)(hu:∀op∈u,∀m,op.act≠ .mark m):Deaf (t++u) g=Deaf t g:=by
 obtain⟨l⟩:=u;rw[Deaf_append]
 induction l generalizing t with
 |nil=>rfl
 |cons y l ih=>
  have hy:=hu y (by simp);have e1:deafStep g (Deaf t g) y=Deaf t g:=by
   unfold deafStep;split
   .rename_i e;exact absurd e (hy _)
   .rename_i e;exact absurd e (hy _)
   rfl
  rw[lS,e1];exact ih t (λop aX=>hu op (by simp at aX ⊢;exact .inr aX))
end
def Ends(P:Program)(Q:Machine->Outcome->World->Trace->Prop)(m:Machine)(t:Trace):Prop:=
 ∃n last o w' t',runNT P (n+1) m t=(.ended o w',t')/\runN P n m= .next last/\step P last= .ended o w'/\Q last o w' t'
theorem Ends.next{P:Program}{Q:Machine->Outcome->World->Trace->Prop}{m m':Machine}{ops:Array MemOp}(hs:stepT P m=(.next m',ops))(h:Ends P Q m' (t++ops)):Ends P Q m t:=by
 obtain⟨n,last,o,w,t',h1,h2,h3,h4⟩:=h;exact⟨n+1,last,o,w,t',by grind [runNT_succ_next],by grind [runN_succ_next],h3,h4⟩
section
variable {L:Nat->Option Obj} {K:Nat->St} {w:World} {t:Trace}
theorem dh.at{s:St}(h:dh s w)(d:Nat):dh s (w.at d):=⟨h.ro,h.rw,h.real,h.nodup,h.apart⟩
theorem Fit.at(h:Fit L K w t)(d:Nat):Fit L K (w.at d) t:=⟨h.C0,h.mN,λi=>(h.ny i).at d,h.sep,h.perm,h.sw,h.old,h.clean,h.sync⟩
end
structure Lv(P:Program)(G:Trace->Nat->Prop)(L:Nat->Option Obj)(K:Nat->St)(gs:Array Goroutine)(w:World)(t:Trace)(q:List Nat):Prop where
 fit:Fit L K w t
 size:gs.size=q.length+1
 ok:∀i n,q[i]?=some n->∃g d,gs[i+1]?=some g/\QuitsD P n d g/\Deaf t (i+1)=d/\G t (i+1)
 none:∀i b,i≠0->¬(K i).knows b
 ops:∀op∈t,op.g <gs.size
structure U2(G:Trace->Nat->Prop):Prop where
 other:∀t u i,G t i->(∀op∈u,op.g≠i)->G (t++u) i
 quiet:∀t u i,G t i->(∀op∈u,op.act.touch?=none)->G (t++u) i
def zl:U2 fW:=⟨λ_ _ _ h hu=>h.other hu,λ_ _ _ h hu=>h.quiet hu⟩
section
variable {P:Program} {G:Trace->Nat->Prop} {L:Nat->Option Obj} {K:Nat->St} {gs:Array Goroutine} {w:World} {t:Trace} {q:List Nat} {sl:Option (Nat×Nat)}
theorem Lv.at(h:Lv P G L K gs w t q)(d:Nat):Lv P G L K gs (w.at d) t q:=⟨h.fit.at d,h.size,h.ok,h.none,h.ops⟩
theorem Lv.le(h:Lv P G L K gs w t q){s:St}(hl:s.le (K 0)):Lv P G L (gV K 0 s) gs w t q:=
 ⟨h.fit.le λj=>by
  grind [aV,bz,St.le_refl],h.size,h.ok,λi b hi hk=>by rw[bz _ _ hi] at hk;exact h.none i b hi hk,h.ops⟩
def Lv.leave(hG:U2 G)(h:Lv P G L K gs w t q){g m:Goroutine}(hm:gs[0]?=some m) (Ap:m.status= .running) (hg:gs[i+1]?=some g) (hs:g.status= .running):
 ∃jN u q',runT P (crowd gs w sl) (i+1)=(.next (crowd jN w sl),u)/\Lv P G L K jN w (t++u) q'/\jN[0]?=some m/\Deaf (t++u) 0=Deaf t 0/\q'.sum <q.sum/\∀op∈u,∀a,op.act≠ .mark (.release a):=by
 have ei:i <q.length:=by have:=lt_size hg;have:=h.size;omega
 have hq:=ai ei;obtain⟨dq,d,cR,hqd,hd,hk⟩:=h.ok i _ hq;obtain rfl:dq=g:=by rw[hg] at cR;exact(aK cR).symm
 cases e:q[i] with
 |zero=>rw[e] at hqd;have:=hqd.1;rw[hs] at this;cases this
 |succ n=>
  rw[e] at hqd;rcases hqd with ⟨h1,_⟩| ⟨_,g',es,Gn,dt,Qi⟩
  .rw[hs] at h1;cases h1
  have hu:=Kp (i:=i+1) (fn:=dq.frame.fn) (pos:=dq.frame.place) Gn;have hgi:∀op∈MemOp.ofEvents (i+1) dq.frame.fn dq.frame.place es,op.g=i+1:=λop aX=>Go.ConcR.g_of_ofEvents op aX;have yM:∀x:Goroutine,(x.status= .running\/x.status= .finished)->woken P dq g' w x=x:=λx hx=>by
   unfold Go.Conc.woken;split
   .exact again_running _ hx
   rfl
  refine⟨_,_,q.set i n,runT_crowd_go (P:=P) (sl:=sl) (i:=i+1) hg (by simpa using dt w),⟨?_,by simp[h.size],λk n' mA=>?_,h.none,λop aX=>?_⟩,?_,?_,?_,λop aX a=>PV Gn a op aX⟩
  .exact h.fit.quiet w.heap.size (λj hj=>absurd (h.fit.P8 hj) (Nat.lt_irrefl _)) (by
    cases hL:L w.heap.size with
    |none=>rfl
    |some o=>exact absurd (lt_size (h.fit.C0 _ o hL)) (Nat.lt_irrefl _)) (bk _) (λ_ _ _=>rfl) hu
  .by_cases hki:k=i
   .subst hki;have:n=n':=by simpa [List.getElem?_set,ei] using mA
    subst this;exact⟨g',_,by simp[h.size,ei],Qi,by rw[Deaf_own,hd],hG.quiet _ _ _ hk hu⟩
   rw[List.getElem?_set_ne (jz hki)] at mA;obtain⟨x,dx,hx,hqx,hdx,JC⟩:=h.ok k n' mA;have eA:∀op∈MemOp.ofEvents (i+1) dq.frame.fn dq.frame.place es,op.g≠k+1:=λop aX=>by rw[hgi op aX];omega
   exact⟨x,dx,by rw[iA (by omega) hx,yM x hqx.status],hqx,by rw[jq _ _ eA];exact hdx,hG.other _ _ _ JC eA⟩
  .rw[jC,Mj];rcases oU.1 aX with h'|h'
   .exact h.ops op h'
   rw[hgi op h',h.size];omega
  .rw[iA (by omega) hm,yM m (.inl Ap)]
  .exact jq _ _ λop aX=>by rw[hgi op aX];omega
  have key:∀(l:List Nat) (i:Nat) (x:Nat),l[i]?=some x->∀y,y <x->(l.set i y).sum <l.sum:=by
   intro l
   induction l with
   |nil=>intro i x h;simp at h
   |cons a l ih=>
    intro i x hx y hy;cases i with
    |zero=>simp only[my,aB] at hx;subst hx;simp only[List.set_cons_zero,Ad];omega
    |succ i=>have:=ih i x (by simpa using hx) y hy;simp only[HH,Ad];omega
  exact key q i _ (by rw[hq,e]) n (nQ n)
theorem Lv.own(hG:U2 G)(h:Lv P G L K gs w t q){g:Goroutine}{es:Array Event}(hm:gs[0]?=some g) (dt:stepG P true g w= .go g' w' es) (ht:Trans (K 0) w s' w' es):
 ∃jN u,runT P (crowd gs w sl) 0=(.next (crowd jN w' sl),u)/\Lv P G L (gV K 0 s') jN w' (t++u) q/\jN[0]?=some g'/\Deaf (t++u) 0=Deaf t 0/\∀op∈u,∀a,op.act≠ .mark (.release a):=by
 have hgi:∀op∈MemOp.ofEvents 0 g.frame.fn g.frame.place es,op.g=0:=λop aX=>Go.ConcR.g_of_ofEvents op aX;refine⟨_,_,runT_crowd_go (P:=P) (sl:=sl) (i:=0) hm (by simpa using dt),⟨h.fit.own ht _ _,by simp[h.size],λk n hk=>?_,λi b hi hk=>?_,λop aX=>?_⟩,?_,?_,λop aX a e=>?_⟩
 .obtain⟨x,dx,hx,hqx,hdx,JC⟩:=h.ok k n hk;have eA:∀op∈MemOp.ofEvents 0 g.frame.fn g.frame.place es,op.g≠k+1:=λop aX=>by rw[hgi op aX];omega
  exact⟨x,dx,by rw[iA (by omega) hx,woken_quitsD hqx],hqx,by rw[jq _ _ eA];exact hdx,hG.other _ _ _ JC eA⟩
 .rw[bz _ _ hi] at hk;exact h.none i b hi hk
 .rw[jC,Mj];rcases oU.1 aX with h'|h'
  .exact h.ops op h'
  rw[hgi op h',h.size];omega
 .simp[h.size]
 .rw[Deaf_own,ht.deaf]
 rw[ofEvents_eq] at aX;obtain⟨e',he,rfl⟩:=Array.mem_map.1 aX;have hl:=Go.ConcR.loc_of_ofEvent e;have:=ht.Aw e' he;unfold N0 at this;rw[hl] at this;simp[GW] at this
structure acm(I:(Nat->St)->World->Trace->Prop):Prop where
 grow:∀K w t u,I K w t->(∀op∈u,∀a,op.act≠ .mark (.release a))->I K w (t++u)
 drawn:∀K w t d,I K w t->I K (w.at d) t
 le:∀K w t s,I K w t->s.le (K 0)->I (gV K 0 s) w t
 own:∀K w t s' w' es u,I K w t->Trans (K 0) w s' w' es->(∀op∈u,∀a,op.act≠ .mark (.release a))->I (gV K 0 s') w' (t++u)
def TL(P:Program)(G:Trace->Nat->Prop)(L:Nat->Option Obj)(I:(Nat->St)->World->Trace->Prop)(Q:Machine->Outcome->World->Trace->Prop)(g:Goroutine)(s:St):Prop:=
 ∀K gs w t q sl,Lv P G L K gs w t q->gs[0]?=some g->s.le (K 0)->Deaf t 0=0->I K w t->Ends P Q (crowd gs w sl) t
def N6(hG:U2 G){I:(Nat->St)->World->Trace->Prop}(hI:acm I){Q:Machine->Outcome->World->Trace->Prop}{g:Goroutine}{s:St}(hs:g.status= .running)
 (h:∀K gs w t q sl m,Lv P G L K gs w t q->gs[0]?=some g->K 0=s->Deaf t 0=0->I K w t->stepT P m=runT P (crowd gs w sl) 0->(m.gs=gs/\m.rest.timers= #[])->Ends P Q m t):TL P G L I Q g s:=by
 intro K gs w t q sl hL h0 hle hd hi;generalize hn:q.sum=n
 induction n using Nat.strongRecOn generalizing K gs w t q sl with
 |_ n ih=>
  have hL:=hL.le hle;have hi:=hI.le _ _ _ _ hi hle;obtain⟨i,dq,d,J4,cR,CE,dt⟩:=crowd_pick (P:=P) (gs:=gs) (w:=w) (sl:=sl) (λx hx=>by
   obtain⟨j,hj,rfl⟩:=Array.mem_iff_getElem.1 hx;have hj':gs[j]?=some gs[j]:=tO hj;intro k;cases j with
   |zero=>rw[h0] at hj';rw[<-aK hj',hs];simp
   |succ j=>
    have ei:j <q.length:=by have:=hL.size;omega
    obtain⟨y,d,hy,hq,_⟩:=hL.ok j _ (ai ei);rw[hj'] at hy;rw[aK hy];rcases hq.status with e|e<;>rw[e]<;>simp) ⟨0,g,h0,hs⟩
  cases i with
  |zero=>exact h _ gs (w.at d) t q J4 _ (hL.at d) h0 (aV _ _ _) hd (hI.drawn _ _ _ _ hi) dt ⟨rfl,rfl⟩
  |succ i=>
   obtain⟨jN,u,q',hr,hL',Qt,Dp,ei,hrl⟩:=(hL.at d).leave (sl:=J4) hG h0 hs cR CE;refine Ends.next (dt.trans hr) (ih q'.sum (hn▸ei) _ jN _ _ q' J4 hL' Qt ?_ (by rw[Dp];exact hd) (hI.grow _ _ _ _ (hI.drawn _ _ _ _ hi) hrl) rfl);rw[aV];exact St.le_refl _
def J0(hG:U2 G){I:(Nat->St)->World->Trace->Prop}(hI:acm I)(Q:Machine->Outcome->World->Trace->Prop):Closed P true (TL P G L I Q) where
 step:=λg s hs h=>N6 hG hI hs λK gs w t q sl m hL h0 hK hd hi dt _=>by
  subst hK;obtain⟨g',w',es,s',hgo,_,ht,hT⟩:=h w (hL.fit.ny 0);obtain⟨jN,u,hr,hL',Qt,Dp,hrl⟩:=hL.own (sl:=sl) hG h0 hgo ht;exact Ends.next (dt.trans hr) (hT _ jN w' _ q sl hL' Qt (by rw[aV];exact St.le_refl _) (by rw[Dp];exact hd) (hI.own _ _ _ _ _ _ _ hi ht hrl))
 mono:=λg s s' hl h K gs w t q sl hL h0 hle hd hi=>h K gs w t q sl hL h0 (hl.trans hle) hd hi
end
abbrev Me:=Option Value×Option Value
abbrev gA:Me:=(none,none)
def Rn:Me->Nat->Option Value
 | (a,_),0=>a
 | (_,b),1=>b
 |_,_=>none
theorem ab3(off:Nat):Rn gA off=none:=by
 match off with
 |0=>rfl
 |1=>rfl
 |_+2=>rfl
def Xz:Me->Nat->Value->Me
 | (_,b),0,v=>(some v,b)
 | (a,_),1,v=>(a,some v)
 |c,_,_=>c
inductive RH(α:Type) where
 |ok (a:α)
 |halt (h:Halt)
structure VO(α:Type) where
 r:RH α
 ws:List (Nat×Value)
 es:List Event
 bs:List Nat
def CV(P:Program)(ty:TypeId):Sem α->Me->Option (VO α)
 | .pure a,_=>some ⟨.ok a,[],[],[]⟩
 | .load m a k,c=>match a.spot with
  |some _=>none
  |none=>match Rn c a.off with
   |some v=>match CV P ty (k v) c with
    |some o=>some ⟨o.r,o.ws,⟨.cell a,false,m== .atomic⟩::o.es,a.block::o.bs⟩
    |none=>none
   |none=>none
 | .store m a v k,c=>match a.spot with
  |some _=>none
  |none=>bif single v then (match Rn c a.off with
   |some _=>match CV P ty k (Xz c a.off v) with
    |some o=>some ⟨o.r,(a.off,v)::o.ws,⟨.cell a,true,m== .atomic⟩::o.es,a.block::o.bs⟩
    |none=>none
   |none=>none) else none
 | .shape r k,c=>match CV P ty (k (some (ty,2))) c with
  |some o=>some ⟨o.r,o.ws,o.es,r::o.bs⟩
  |none=>none
 | .frozen a k,c=>match CV P ty (k false) c with
  |some o=>some ⟨o.r,o.ws,o.es,a.block::o.bs⟩
  |none=>none
 | .program k,c=>CV P ty (k P) c
 | .mark m k,c=>match CV P ty k c with
  |some o=>some ⟨o.r,o.ws,⟨.mark m,false,true⟩::o.es,o.bs⟩
  |none=>none
 | .halt h,_=>some ⟨.halt h,[],[],[]⟩
 |_,_=>none
def j9(ty:TypeId)(W:Nat)(w:World)(c:Me):Prop:=∃a b,w.heap[W]?=some (.cells #[a,b] ty)/\(∀x,c.1=some x->a=x)/\∀x,c.2=some x->b=x
theorem j9.anp{W:Nat}{w:World}{c:Me}(h:j9 ty W w c):∃a b,w.heap[W]?=some (.cells #[a,b] ty):=by
 obtain⟨a,b,h,_⟩:=h
 grind
def Kh(W:Nat)(w:World)(ws:List (Nat×Value)):World:=ws.foldl (λw x=>w.setCell ⟨W,x.1,none⟩ x.2) w
def RH.to(w:World):RH α->Result α
 | .ok a=> .ok a w
 | .halt h=> .halt h w
theorem Rm{W:Nat}{w:World}{c:Me}(h:j9 ty W w c){v:Value}(hv:Rn c off=some v):w.cell? ⟨W,off,none⟩=some v:=by
 obtain⟨p,q,h,h1,h2⟩:=h;unfold Rn at hv
 grind [World.cell?]
def akX{W:Nat}{w:World}{c:Me}(h:j9 ty W w c){u v:Value}(hv:Rn c off=some u):j9 ty W (w.setCell ⟨W,off,none⟩ v) (Xz c off v):=by
 obtain⟨p,q,h,h1,h2⟩:=h;unfold Rn at hv;split at hv<;>try (cases hv;done)
 .exact⟨v,q,by simp[World.setCell,fI,h],by simp[Xz],λx hx=>h2 x hx⟩
 exact⟨p,v,by simp[World.setCell,fI,h],λx hx=>h1 x hx,by simp[Xz]⟩
theorem amP{W:Nat}{w:World}{a b:Value}(h:w.heap[W]?=some (.cells #[a,b] ty)) (off:Nat) (s:Option Nat):w.frozen? ⟨W,off,s⟩=false:=by
 grind [World.frozen?]
theorem Vx{P:Program}{W:Nat}(x:Sem α):∀ {c:Me} {o:VO α} {w:World} (es:Array Event),CV P ty x c=some o->(∀b∈o.bs,b=W)->((c=gA/\o.bs=[])\/j9 ty W w c)->x.runT P w es=(o.r.to (Kh W w o.ws),es++o.es.toArray):=by
 induction x with
 |pure a=>intro c o w es h hb hc;simp only[CV,Option.some.injEq] at h;subst h;simp[Sem.runT,RH.to,Kh]
 |halt a=>intro c o w es h hb hc;simp only[CV,Option.some.injEq] at h;subst h;simp[Sem.runT,RH.to,Kh]
 |load m a k ih=>
  intro c o w es h hb hc;simp only[CV] at h;split at h<;>try (cases h;done)
  rename_i hs;split at h<;>try (cases h;done)
  rename_i v hv;split at h<;>try (cases h;done)
  rename_i o1 h1;simp only[Option.some.injEq] at h;subst h;have e:a=⟨W,a.off,none⟩:=by
   have:=hb a.block (by simp);rcases a with ⟨x,y,z⟩
   simp only at hs this;subst hs this;rfl
  have By:j9 ty W w c:=hc.elim (λhh=>by rw[hh.1] at hv;rw[ab3] at hv;cases hv) id;have jV:w.cell? a=some v:=by rw[e];exact Rm By hv
  simp only[Sem.runT,jV];rw[ih v _ h1 (λb hm=>hb b (by simp[hm])) (.inr By)];simp
 |store m a v k ih=>
  intro c o w es h hb hc;simp only[CV] at h;split at h<;>try (cases h;done)
  rename_i hs;cases hsg:single v with
  |false=>rw[hsg] at h;cases h
  |true=>
  rw[hsg] at h;simp only[cond_true] at h;split at h<;>try (cases h;done)
  rename_i u hu;split at h<;>try (cases h;done)
  rename_i o1 h1;simp only[Option.some.injEq] at h;subst h;have e:a=⟨W,a.off,none⟩:=by
   have:=hb a.block (by simp);rcases a with ⟨x,y,z⟩
   simp only at hs this;subst hs this;rfl
  have By:j9 ty W w c:=hc.elim (λhh=>by rw[hh.1] at hu;rw[ab3] at hu;cases hu) id;have jV:w.cell? a=some u:=by rw[e];exact Rm By hu
  have Gq:w.frozen? a=false:=by
   obtain⟨p,q,hpq⟩:=By.anp;rw[e];exact amP hpq _ _
  have wI:=akX (v:=v) By hu;have key:(Sem.store m a v k).runT P w es=k.runT P (w.setCell a v) (es.push ⟨.cell a,true,m== .atomic⟩):=by
   cases v<;>first| (cases hsg;done)|simp[Sem.runT,jV,Gq]
  rw[key,ih _ h1 (λb hm=>hb b (by simp[hm])) (.inr (by rw[e];exact wI))];simp only[Kh,List.foldl_cons];rw[<-e];simp
 |shape r k ih=>
  intro c o w es h hb hc;simp only[CV] at h;split at h<;>try (cases h;done)
  rename_i o1 h1;simp only[Option.some.injEq] at h;subst h;have e:r=W:=hb r (by simp);have By:j9 ty W w c:=hc.elim (λhh=>by cases hh.2) id;have hsh:w.shape? r=some (ty,2):=by
   obtain⟨p,q,hpq⟩:=By.anp;rw[e];simp[World.shape?,hpq]
  simp only[Sem.runT,hsh];exact ih _ _ h1 (λb hm=>hb b (by simp[hm])) (.inr By)
 |frozen a k ih=>
  intro c o w es h hb hc;simp only[CV] at h;split at h<;>try (cases h;done)
  rename_i o1 h1;simp only[Option.some.injEq] at h;subst h;have e:a.block=W:=hb a.block (by simp);have By:j9 ty W w c:=hc.elim (λhh=>by cases hh.2) id;have hsh:w.frozen? a=false:=by
   obtain⟨p,q,hpq⟩:=By.anp;rcases a with ⟨x,y,z⟩
   simp only at e;subst e;exact amP hpq _ _
  simp only[Sem.runT,hsh];exact ih _ _ h1 (λb hm=>hb b (by simp[hm])) (.inr By)
 |program k ih=>
  intro c o w es h hb hc;simp only[CV] at h;simp only[Sem.runT];exact ih _ _ h hb hc
 |mark m k ih=>
  intro c o w es h hb hc;simp only[CV] at h;split at h<;>try (cases h;done)
  rename_i o1 h1;simp only[Option.some.injEq] at h;subst h;simp only[Sem.runT];rw[ih _ h1 (λb hm=>hb b hm) hc];simp
 |new o k ih=>intro c o w es h;cases h
 |freeze a n k ih=>intro c o w es h;cases h
 |getObj r k ih=>intro c o w es h;cases h
 |setObj r o k ih=>intro c o w es h;cases h
 |choose q k ih=>intro c o w es h;cases h
 |sys q k ih=>intro c o w es h;cases h
def aKe(fr:Frame):Option Frame:=
 match fr.todo with
 | []=>match fr.roundOf with
  |none=>some {fr with mode:= .returning}
  |some _=>none
 | .code .ret::_=>match fr.roundOf with
  |none=>some {fr with mode:= .returning}
  |some _=>none
 | .code .skip::k=>some {fr with todo:=k}
 | .code (.label _)::k=>some {fr with todo:=k}
 | .inBlock _::k=>some {fr with todo:=k}
 | .inScope _::k=>some {fr with todo:=k}
 | .code (.seq a b)::k=>some {fr with todo:= .code a:: .code b::k}
 | .code (.cond c x y)::k=>match fr.eval c with
  | .bool b=>some {fr with todo:= .code (if b then x else y)::k}
  |_=>none
 | .code (.block id body)::k=>some {fr with todo:= .code body:: .inBlock id::k}
 | .code (.loop body)::k=>some {fr with todo:= .code body:: .inLoop body::k}
 | .inLoop body::k=>some {fr with todo:= .code body:: .inLoop body::k}
 | .code (.scope body)::k=>some {fr with todo:= .code body:: .inScope body::k}
 | .code (.exit id)::k=>match exitTo id k with
  |some k'=>some {fr with todo:=k'}
  |none=>none
 | .code (.region _ ops false)::k=>some {fr with todo:= .inRegion ops (List.range ops.size)::k}
 | .inRegion _ []::k=>some {fr with todo:=k}
 | .inRegion ops (i::_)::_=>if ((ops[i]?).map (Region.wanted · (yielded ops fr.tmps))).getD false then none else some (fr.finish undef)
 |_=>none
theorem ayY{P:Program}(hm:fr.mode= .run)(h:aKe fr=some oe)(w:World):stepG P main (G fr cs) w= .go (G oe cs) w #[]:=by
 grind [aKe,aB,G,stepG,stepG.exec]
inductive OV where
 |go (fr:Frame) (jv:List Frame)
 |ret (v:Value)
 |avK
 |block
abbrev OVs:=Option (OV×List (Nat×Value)×List Event×List Nat)
def D7(P:Program)(fn:FuncId)(es:List Event):List Event:=(seen P fn es.toArray).toList
def Oe:CallKind->Bool
 | .early=>true
 |_=>false
def aoG(P:Program)(ty:TypeId)(c:Me)(fr:Frame)(jv:List Frame):OVs:=
 match fr.todo with
 | .inRegion ops (i::_)::_=>bif ((ops[i]?).map (Region.wanted · (yielded ops fr.tmps))).getD false&& !(Oe fr.kind) then (match fr.roundOf,fr.oper? with
  |none,some o=>match CV P ty (execOp fr.eval o) c with
   |some ⟨.ok (.value v),ws,es,bs⟩=>some (.go (fr.finish v) jv,ws,D7 P fr.fn es,bs)
   |some ⟨.ok .skip,ws,es,bs⟩=>some (.go (fr.finish undef) jv,ws,D7 P fr.fn es,bs)
   |some ⟨.ok (.enter f args),ws,es,bs⟩=>some (.go (Frame.enter P f args .normal) (fr::jv),ws,D7 P fr.fn es,bs)
   |some ⟨.ok (.defer d),ws,es,bs⟩=>some (.go ({fr with defers:=d::fr.defers}.finish undef) jv,ws,D7 P fr.fn es,bs)
   |some ⟨.halt .blocked,ws,_,bs⟩=>some (.block,ws,[],bs)
   |_=>none
  |_,_=>none) else none
 |_=>none
def aRE:Target->Bool
 | .fn .. =>true
 |_=>false
def aDX(P:Program)(ty:TypeId)(c:Me)(fr:Frame)(jv:List Frame):OVs:=
 match fr.defers with
 | []=>match P.funcs[fr.fn]? with
  |some fn=>match CV P ty (results fn fr.tmps) c with
   |some ⟨.ok v,ws,es,bs⟩=>match jv with
    |q::gQ=>match fr.kind with
     | .normal=>some (.go (q.finish v) gQ,ws,D7 P fr.fn es,bs)
     | .deferred=>match q.mode with
      | .returning=>some (.go q gQ,ws,D7 P fr.fn es,bs)
      |_=>none
     |_=>none
    | []=>match fr.kind with
     | .normal=>some (.ret v,ws,D7 P fr.fn es,bs)
     | .deferred=>some (.avK,ws,D7 P fr.fn es,bs)
     |_=>none
   |_=>none
  |none=>none
 |d::ds=>bif aRE d.target then (match CV P ty (invoke d.target d.args) c with
  |some ⟨.ok (.value _),ws,es,bs⟩=>some (.go {fr with defers:=ds} jv,ws,D7 P fr.fn es,bs)
  |some ⟨.ok (.enter f args),ws,es,bs⟩=>some (.go (Frame.enter P f args .deferred) ({fr with defers:=ds}::jv),ws,D7 P fr.fn es,bs)
  |_=>none) else none
def PM(P:Program)(ty:TypeId)(c:Me)(fr:Frame)(jv:List Frame):OVs:=
 match fr.mode with
 | .run=>match aKe fr with
  |some oe=>some (.go oe jv,[],[],[])
  |none=>aoG P ty c fr jv
 | .returning=>aDX P ty c fr jv
 |_=>none
def OV.is(P:Program)(main:Bool)(g:Goroutine)(w w':World)(es:Array Event)(cs:List Frame):OV->Prop
 | .go fr jv=>stepG P main g w= .go (G fr (jv++cs)) w' es
 | .ret v=>(∀c Si,cs=c::Si->stepG P main g w= .go (G (c.finish v) Si) w' es)
 | .avK=>(∀c Si,cs=c::Si->(c.mode= .returning\/∃ch,c.mode= .panicking [⟨ch,false,true⟩])->stepG P main g w= .go (G c Si) w' es)
 | .block=>stepG P main g w= .go {g with status:= .blocked} w' es
section
variable {P:Program} {main:Bool} {ty:TypeId} {W:Nat} {c:Me} {fr:Frame} {jv cs:List Frame} {w:World} {o:OV} {ws:List (Nat×Value)} {es:List Event} {bs:List Nat}
theorem toArr(P:Program)(fn:FuncId)(es:List Event):(D7 P fn es).toArray=seen P fn es.toArray:=by rfl
def aoF(hm:fr.mode= .run)(h:aoG P ty c fr jv=some (o,ws,es,bs))(hb:∀b∈bs,b=W)(hc:(c=gA/\bs=[])\/j9 ty W w c)(cs:List Frame)(main:Bool):o.is P main (G fr (jv++cs)) w (Kh W w ws) es.toArray cs:=by
 rcases fr with ⟨fn,tmps,todo,defers,mode,kind,ro⟩
 simp only at hm;subst hm;unfold aoG at h;simp only at h;split at h<;>try (cases h;done)
 rename_i ops i rest k;cases hw:(((ops[i]?).map (Region.wanted · (yielded ops tmps))).getD false&& !(Oe kind)) with
 |false=>rw[hw] at h;cases h
 |true=>
 rw[hw] at h;simp only[cG] at h;simp only[av] at hw;have hk:(kind==CallKind.early)=false:=by cases kind<;>first|rfl|cases hw.2
 split at h<;>try (cases h;done)
 rename_i op aX;have lE:∀cs,stepG P main (G ⟨fn,tmps,.inRegion ops (i::rest)::k,defers,.run,kind,none⟩ cs) w=stepG.apply P true ⟨fn,tmps,.inRegion ops (i::rest)::k,defers,.run,kind,none⟩ cs none (execOp (Frame.eval ⟨fn,tmps,.inRegion ops (i::rest)::k,defers,.run,kind,none⟩) op) w:=by
  intro cs;simp only[G,stepG,stepG.exec,hw.1,dF,stepG.oper,aX]
 split at h<;>try (cases h;done)
 all_goals
  rename_i heq hv;simp only[aB,bL] at h;obtain⟨rfl,rfl,rfl,rfl⟩:=h;have dz:=Vx _ (w:=w) #[] hv hb hc;simp only[RH.to,dA] at dz;simp only[OV.is];rw[lE];simp only[stepG.apply,dz,dF,hk,aW,cJ,GStep.after,bV,G,toArr]
 all_goals first|rfl| (simp[seen_none];done)
def avi(hm:fr.mode= .returning)(h:aDX P ty c fr jv=some (o,ws,es,bs))(hb:∀b∈bs,b=W)(hc:(c=gA/\bs=[])\/j9 ty W w c)(cs:List Frame)(main:Bool):o.is P main (G fr (jv++cs)) w (Kh W w ws) es.toArray cs:=by
 rcases fr with ⟨fn,tmps,todo,defers,mode,kind,ro⟩
 simp only at hm;subst hm;unfold aDX at h;simp only at h;split at h
 .split at h<;>try (cases h;done)
  rename_i f hf;split at h<;>try (cases h;done)
  rename_i v ws' iV uu hv;have dz:=λhb hc=>Vx _ (w:=w) #[] hv (W:=W) hb hc;simp only[RH.to,dA] at dz;have key:(∀b∈uu,b=W)->((c=gA/\uu=[])\/j9 ty W w c)->∀cs,stepG P main (G ⟨fn,tmps,todo,[],.returning,kind,ro⟩ cs) w=GStep.after (seen P fn iV.toArray) (doReturn P main ⟨fn,tmps,todo,[],.returning,kind,ro⟩ cs none v (Kh W w ws')):=by
   intro hb hc cs;simp only[G,stepG,unwind,hf,dz hb hc]
  split at h
  .split at h<;>try (cases h;done)
   .simp only[aB,bL] at h;obtain⟨rfl,rfl,rfl,rfl⟩:=h;simp only[OV.is];rw[key hb hc];simp only[dK,doReturn,GStep.after,bV,toArr,G]
   split at h<;>try (cases h;done)
   rename_i q gQ hmq;simp only[aB,bL] at h;obtain⟨rfl,rfl,rfl,rfl⟩:=h;simp only[OV.is];rw[key hb hc];simp only[dK,doReturn,hmq,GStep.after,bV,toArr,G]
  split at h<;>try (cases h;done)
  .simp only[aB,bL] at h;obtain⟨rfl,rfl,rfl,rfl⟩:=h;intro q Si hq;subst hq;rw[key hb hc];simp only[aY,doReturn,GStep.after,bV,toArr,G]
  simp only[aB,bL] at h;obtain⟨rfl,rfl,rfl,rfl⟩:=h;intro q Si hq hmq;subst hq;rw[key hb hc];rcases hmq with hmq| ⟨ch,hmq⟩
  .simp only[aY,doReturn,hmq,GStep.after,bV,toArr,G]
  simp only[aY,doReturn,hmq,GStep.after,bV,toArr,G]
 rename_i d ds;cases hd:aRE d.target with
 |false=>rw[hd] at h;cases h
 |true=>
 rw[hd] at h;simp only[cG] at h;rcases d with ⟨tg,args⟩
 cases tg with
 |fn f cap=>
  split at h<;>try (cases h;done)
  all_goals
   rename_i hv;simp only[aB,bL] at h;obtain⟨rfl,rfl,rfl,rfl⟩:=h;have dz:=Vx _ (w:=w) #[] hv hb hc;simp only[RH.to,dA] at dz;simp only[OV.is];simp only[G,stepG,unwind,callDeferred,dz,GStep.after,toArr,bV,wR,aW,cJ,dK]
 |_=>cases hd
def pS(h:PM P ty c fr jv=some (o,ws,es,bs))(hb:∀b∈bs,b=W)(hc:(c=gA/\bs=[])\/j9 ty W w c)(cs:List Frame)(main:Bool):o.is P main (G fr (jv++cs)) w (Kh W w ws) es.toArray cs:=by
 unfold PM at h;split at h<;>try (cases h;done)
 .rename_i hm;split at h
  .rename_i oe SX;obtain⟨rfl,rfl,rfl,rfl⟩:=h;exact ayY hm SX w
  exact aoF hm h hb hc cs main
 rename_i hm;exact avi hm h hb hc cs main
end
def atl:Event->Option (Nat×Nat×List Nat)
 | ⟨.mark .disable,false,true⟩=>some (1,0,[])
 | ⟨.mark .enable,false,true⟩=>some (2,0,[])
 | ⟨.mark (.releaseMerge ⟨b,o,none⟩),false,true⟩=>some (3,o,[b])
 | ⟨.mark (.acquire ⟨b,o,none⟩),false,true⟩=>some (4,o,[b])
 | ⟨.mark (.read ⟨b,o,none⟩),false,true⟩=>some (5,o,[b])
 | ⟨.mark (.write ⟨b,o,none⟩),false,true⟩=>some (6,o,[b])
 | ⟨.cell ⟨b,o,none⟩,false,true⟩=>some (7,o,[b])
 | ⟨.cell ⟨b,o,none⟩,true,true⟩=>some (8,o,[b])
 |_=>none
def Ey(W:Nat)(x:Nat×Nat):Event:=
 match x.1 with
 |1=>said .disable
 |2=>said .enable
 |3=>said (.releaseMerge ⟨W,x.2,none⟩)
 |4=>said (.acquire ⟨W,x.2,none⟩)
 |5=>said (.read ⟨W,x.2,none⟩)
 |6=>said (.write ⟨W,x.2,none⟩)
 |7=>⟨.cell ⟨W,x.2,none⟩,false,true⟩
 |_=>⟨.cell ⟨W,x.2,none⟩,true,true⟩
theorem atk{W:Nat}{e:Event}{k o:Nat}{bs:List Nat}(h:atl e=some (k,o,bs))(hb:∀b∈bs,b=W):e=Ey W (k,o):=by
 unfold atl at h;split at h<;>try (cases h;done)
 all_goals
  obtain⟨rfl,rfl,rfl⟩:=h
 .rfl
 .rfl
 all_goals
  have:=hb _ (aU.2 rfl);subst this;rfl
def Xv:List Event->Option (List (Nat×Nat)×List Nat)
 | []=>some ([],[])
 |e::l=>match atl e,Xv l with
  |some (k,o,b),some (r,bs)=>some ((k,o)::r,b++bs)
  |_,_=>none
theorem UN{W:Nat}:∀ {es:List Event} {ks:List (Nat×Nat)} {bs:List Nat},Xv es=some (ks,bs)->(∀b∈bs,b=W)->es=ks.map (Ey W)
 | [],ks,bs,h,hb=>by obtain⟨rfl,rfl⟩:=h;rfl
 |e::l,ks,bs,h,hb=>by
  simp only[Xv] at h;split at h<;>try (cases h;done)
  rename_i k o b r uu h1 h2;obtain⟨rfl,rfl⟩:=h;rw[bR,<-atk h1 (λx hx=>hb x (by simp[hx])),<-UN h2 (λx hx=>hb x (by simp[hx]))]
abbrev Bl:=Option (List Nat)
def atY:List Nat->Bl->Bl
 |a,some b=>some (a++b)
 |_,none=>none
def both:Bl->Bl->Bl
 |some a,some b=>some (a++b)
 |_,_=>none
def ala(f:α->Bl):List α->Bl
 | []=>some []
 |x::l=>both (f x) (ala f l)
theorem XO{a bs:List Nat}{x:Bl}(h:atY a x=some bs){W:Nat}(hb:∀b∈bs,b=W):(∀b∈a,b=W)/\∃y,x=some y/\∀b∈y,b=W:=by
 cases x with
 |none=>cases h
 |some y=>
  simp only[atY,aB] at h;subst h;exact⟨λb hm=>hb b (by grind),y,rfl,λb hm=>hb b (by grind)⟩
theorem zu{bs:List Nat}{x y:Bl}(h:both x y=some bs){W:Nat}(hb:∀b∈bs,b=W):(∃a,x=some a/\∀b∈a,b=W)/\∃a,y=some a/\∀b∈a,b=W:=by
 cases x with
 |none=>cases h
 |some a=>
  cases y with
  |none=>cases h
  |some b=>
   simp only[both,aB] at h;subst h;exact⟨⟨a,rfl,λb hm=>hb b (by grind)⟩,b,rfl,λb hm=>hb b (by simp[hm])⟩
theorem Cp{f:α->Bl}{W:Nat}:∀ {l:List α} {bs:List Nat},ala f l=some bs->(∀b∈bs,b=W)->∀x∈l,∃a,f x=some a/\∀b∈a,b=W
 | [],_,_,_,x,hx=>by grind
 |y::l,bs,h,hb,x,hx=>by
  obtain⟨h1,h2,h3,h4⟩:=zu h hb;rcases aN.1 hx with rfl|hx
  .omega
  exact Cp h3 h4 x hx
def Fo(P:Program)(ty:TypeId):Nat->Frame->List Frame->(Frame->List Frame->Bl)->Bl
 |0,_,_,_=>none
 |n+1,fr,jv,k=>match PM P ty gA fr jv with
  |some (.go oe gQ,[],[],bs)=>atY bs (Fo P ty n oe gQ k)
  |_=>k fr jv
def ac2(P:Program)(ty:TypeId)(c:Me)(fr:Frame)(jv:List Frame):Option (Frame×List Frame×List (Nat×Value)×List (Nat×Nat)×List Nat×List Nat):=
 match PM P ty c fr jv with
 |some (.go oe gQ,ws,es,bs)=>match Xv es with
  |some (ks,b2)=>some (oe,gQ,ws,ks,bs,b2)
  |none=>none
 |_=>none
def i64(n:Int):Value:= .int .u64 n
def i32(n:Int):Value:= .int .u32 n
def af1:List (Nat×Nat)->List (Nat×Nat)->Bool
 | [],[]=>true
 | (a,b)::l,(c,d)::m=>Nat.beq a c&&(Nat.beq b d&&af1 l m)
 |_,_=>false
theorem aiw:∀ {l m:List (Nat×Nat)},af1 l m=true->l=m
 | [],[],_=>rfl
 | (a,b)::l,(c,d)::m,h=>by
  simp only[af1,av] at h;rw[dW h.1,dW h.2.1,aiw h.2.2]
 | [],_::_,h=>by grind [af1]
 |_::_,[],h=>by grind [af1]
def ak2:List (Nat×Value)->Option (Nat×IntKind×Int)->Bool
 | [],none=>true
 | [(o,.int k n)],some (o',k',n')=>Nat.beq o o'&&(decide (k=k')&&decide (n=n'))
 |_,_=>false
theorem ak1{l:List (Nat×Value)}(h:ak2 l none=true):l=[]:=by
 grind [ak2]
theorem ak0{l:List (Nat×Value)}{o:Nat}{k:IntKind}{n:Int}(h:ak2 l (some (o,k,n))=true):l=[(o,.int k n)]:=by
 unfold ak2 at h;split at h
 all_goals simp_all
def FM(P:Program)(ty:TypeId)(c:Me)(m:Bool)(wr:Option (Nat×IntKind×Int))(ks:List (Nat×Nat))(fr:Frame)(jv:List Frame)(k:Frame->List Frame->Bl):Bl:=
 match ac2 P ty c fr jv with
 |some (oe,gQ,ws,ks',b1,b2)=>bif ak2 ws wr&&(af1 ks' ks&&(!m||b1.isEmpty)) then atY b1 (atY b2 (k oe gQ)) else none
 |none=>none
section
variable {P:Program} {ty:TypeId} {W:Nat}
def HU{c:Me}{gQ:List Frame}{ws:List (Nat×Value)}{ks:List (Nat×Nat)}{b1 b2:List Nat}(h:ac2 P ty c fr jv=some (oe,gQ,ws,ks,b1,b2))(h1:∀b∈b1,b=W)(h2:∀b∈b2,b=W)
 {w:World}(hc:(c=gA/\b1=[])\/j9 ty W w c)(cs:List Frame)(main:Bool):stepG P main (G fr (jv++cs)) w= .go (G oe (gQ++cs)) (Kh W w ws) (ks.map (Ey W)).toArray:=by
 unfold ac2 at h;split at h<;>try (cases h;done)
 rename_i h0;split at h<;>try (cases h;done)
 rename_i hk;simp only[aB,bL] at h;obtain⟨rfl,rfl,rfl,rfl,rfl,rfl⟩:=h;have:=pS h0 h1 hc cs main;simp only[OV.is] at this;rw[this,UN hk h2]
def wrote(W:Nat)(w:World):Option (Nat×IntKind×Int)->World
 |none=>w
 |some (o,k,n)=>w.setCell ⟨W,o,none⟩ (.int k n)
def gE{c:Me}{m:Bool}{x:Option (Nat×IntKind×Int)}{ks:List (Nat×Nat)}{k:Frame->List Frame->Bl}{bs:List Nat}(h:FM P ty c m x ks fr jv k=some bs)(hb:∀b∈bs,b=W):
 ∃oe gQ uu,k oe gQ=some uu/\(∀b∈uu,b=W)/\∀cs main w,((c=gA/\m=true)\/j9 ty W w c)->stepG P main (G fr (jv++cs)) w= .go (G oe (gQ++cs)) (wrote W w x) (ks.map (Ey W)).toArray:=by
 unfold FM at h;split at h<;>try (cases h;done)
 rename_i oe gQ ws ks' b1 b2 hv;cases hq:(ak2 ws x&&(af1 ks' ks&&(!m||b1.isEmpty))) with
 |false=>rw[hq] at h;cases h
 |true=>
 rw[hq] at h;simp only[cG] at h;simp only[av] at hq;obtain⟨q1,q2,q3⟩:=hq;obtain⟨h1,y,hy,R7⟩:=XO h hb;obtain⟨h2,z,hz,Ec⟩:=XO hy R7;refine⟨oe,gQ,z,hz,Ec,λcs main w hc=>?_⟩;have:=HU hv h1 h2 (w:=w) (by
  rcases hc with ⟨hc,hm⟩|hc
  .subst hm;simp at q3;exact .inl ⟨hc,q3⟩
  exact .inr hc) cs main
 rw[this,aiw q2];cases x with
 |none=>rw[ak1 q1];rfl
 |some x=>
  obtain⟨o,kd,n⟩:=x;rw[ak0 q1];rfl
def W8{k:Frame->List Frame->Bl}:∀ {n:Nat} {fr:Frame} {jv:List Frame} {bs:List Nat},Fo P ty n fr jv k=some bs->(∀b∈bs,b=W)->
 ∀(T:Frame->List Frame->Prop),(∀oe gQ uu,k oe gQ=some uu->(∀b∈uu,b=W)->T oe gQ)->
 (∀fr jv oe gQ,(∀cs main w,j9 ty W w gA->stepG P main (G fr (jv++cs)) w= .go (G oe (gQ++cs)) w #[])->T oe gQ->T fr jv)->T fr jv
 |0,_,_,_,h,_,_,_,_=>by cases h
 |n+1,fr,jv,bs,h,hb,T,hk,hs=>by
  simp only[Fo] at h;split at h
  .rename_i oe gQ b1 h0;obtain⟨h1,y,hy,R7⟩:=XO h hb;refine hs fr jv oe gQ (λcs main w hc=>?_) (W8 hy R7 T hk hs);have:=pS h0 h1 (.inr hc) cs main;simp only[OV.is] at this;rw[this];rfl
  exact hk _ _ _ h hb
end
section
variable {ι:Type} (E:iZ ι)
def tq{w:World}(h:E.live w):j9 E.ty E.Wg w gA:=by
 obtain⟨st,sm,h⟩:=h;exact⟨_,_,h,by simp,by simp⟩
def kX{w:World}(h:WgAt E.ty E.Wg w st sm):j9 E.ty E.Wg w (some (i64 st),some (i32 sm)):=⟨_,_,h,by simp[i64],by simp[i32]⟩
def anq{w:World}(h:WgAt E.ty E.Wg w st sm):j9 E.ty E.Wg w (none,some (i32 sm)):=⟨_,_,h,by simp,by simp[i32]⟩
variable {E}
def jY{Stop:Goroutine->Prop}{k:Frame->List Frame->Bl}{bs:List Nat}(h:Fo E.P E.ty n fr jv k=some bs)(hb:∀b∈bs,b=E.Wg)
 (hk:∀oe gQ uu,k oe gQ=some uu->(∀b∈uu,b=E.Wg)->Stop (G oe (gQ++cs))):E.pure main Stop (G fr (jv++cs)):=by
 refine W8 h hb (λfr jv=>E.pure _ _ (G fr (jv++cs))) (λoe gQ uu h1 h2=>⟨0,hk _ _ _ h1 h2⟩) λfr jv oe gQ h1 ⟨m,hm⟩=>⟨m+1,rfl,_,λw hw=>h1 cs _ w (tq E hw),hm⟩
def goR(P:Program)(ty:TypeId):Nat->Frame->List Frame->Bl
 |0,_,_=>none
 |n+1,fr,jv=>match PM P ty gA fr jv with
  |some (.go oe gQ,[],[],[])=>goR P ty n oe gQ
  |some (.ret (.tuple ⟨[]⟩),[],[],[])=>some []
  |_=>none
def Lc{P:Program}{c:Frame}:∀ {n:Nat} {fr:Frame} {jv:List Frame} {bs:List Nat},goR P ty n fr jv=some bs->
 ∀(main:Bool) (T:Goroutine->Prop),T (G (c.finish (.tuple #[])) cs)->(∀g g',g.status= .running->g'.status= .running->(∀w,stepG P main g w= .go g' w #[])->T g'->T g)->T (G fr (jv++c::cs))
 |0,_,_,_,h,_,_,_,_=>by cases h
 |n+1,fr,jv,bs,h,main,T,hT,hs=>by
  simp only[goR] at h;split at h
  .rename_i oe gQ h0;refine hs _ _ rfl rfl (λw=>?_) (Lc h main T hT hs);have:=pS (W:=0) (w:=w) h0 (by simp) (.inl ⟨rfl,rfl⟩) (c::cs) main;simp only[OV.is] at this;rw[this];rfl
  .rename_i h0;refine hs _ _ rfl rfl (λw=>?_) hT;have:=pS (W:=0) (w:=w) h0 (by simp) (.inl ⟨rfl,rfl⟩) (c::cs) main;simp only[OV.is] at this;have h2:=this c cs rfl;rw[h2];rfl
  cases h
def aak:List Event->Bool
 | []=>true
 |e::l=>e.mute&&aak l
def goQ(P:Program)(ty:TypeId):Nat->Nat->Frame->List Frame->Bl
 |0,_,_,_=>none
 |n+1,d,fr,jv=>match PM P ty gA fr jv with
  |some (.go oe gQ,[],es,[])=>bif aak es then goQ P ty n (deafBehind d es.toArray) oe gQ else none
  |some (.avK,[],[],[])=>bif Nat.beq d 0 then some [] else none
  |_=>none
theorem aaj:∀ {es:List Event},aak es=true->∀e∈es,e.mute=true
 | [],_,e,he=>by grind
 |x::l,h,e,he=>by
  simp only[aak,av] at h;rcases aN.1 he with rfl|he
  .grind
  exact aaj h.2 e he
def afo{P:Program}{c:Frame}{q:Nat}(hc:c.mode= .returning\/∃ch,c.mode= .panicking [⟨ch,false,true⟩])(hq:QuitsD P q 0 (G c cs)):∀ {n d:Nat} {fr:Frame} {jv:List Frame} {bs:List Nat},goQ P ty n d fr jv=some bs->
 ∃q,QuitsD P q d (G fr (jv++c::cs))
 |0,_,_,_,_,h=>by cases h
 |n+1,d,fr,jv,bs,h=>by
  simp only[goQ] at h;split at h
  .rename_i oe gQ es h0;cases hm:aak es with
   |false=>rw[hm] at h;cases h
   |true=>
   rw[hm] at h;simp only[cG] at h;obtain⟨q',Qi⟩:=afo hc hq h;refine⟨q'+1,.inr ⟨rfl,_,es.toArray,λe he=>aaj hm e (by simpa using he),λw=>?_,Qi⟩⟩;have:=pS (W:=0) (w:=w) h0 (by simp) (.inl ⟨rfl,rfl⟩) (c::cs) false;simp only[OV.is] at this;rw[this];rfl
  .rename_i h0;cases hd:Nat.beq d 0 with
   |false=>rw[hd] at h;cases h
   |true=>
   have:d=0:=dW hd;subst this;refine⟨q+1,.ctl rfl (λw=>?_) hq⟩;have:=pS (W:=0) (w:=w) h0 (by simp) (.inl ⟨rfl,rfl⟩) (c::cs) false;simp only[OV.is] at this;have h2:=this c cs rfl hc;rw[h2];rfl
  cases h
end
section
variable (P:Program) (ty:TypeId)
abbrev HB(a b:Int):Me:=(some (i64 a),some (i32 b))
abbrev Zk:List (Nat×Nat):=[(1,0),(7,1),(8,1),(2,0)]
def atC(f:Frame)(s:List Frame):Bl:=bif mayWake P (G f []) then FM P ty (HB 0 0) false (some (1,.u32,1)) Zk f s (goQ P ty 300 1) else none
def aCB(f:Frame)(s:List Frame):Bl:=FM P ty (HB 1 0) false (some (0,.u64,0)) [(8,0)] f s λf s=>Fo P ty 300 f s (atC P ty)
def aCC(f:Frame)(s:List Frame):Bl:=FM P ty (HB 1 0) false none [(7,0)] f s λf s=>Fo P ty 300 f s (aCB P ty)
def afS(f:Frame)(s:List Frame)(v wt:Nat):Bl:=
 FM P ty (HB (((v+1:Nat):Int)*KK+(wt:Int)) 0) false (some (0,.u64,(v:Int)*KK+(wt:Int))) [(7,0),(8,0)] f s λf s=>bif Nat.beq v 0&&Nat.beq wt 1 then Fo P ty 300 f s (aCC P ty) else goQ P ty 300 1 f s
def aCD(mx:Nat)(f:Frame)(s:List Frame):Bl:=ala (λv=>both (afS P ty f s v 0) (afS P ty f s v 1)) (List.range mx)
def aCA(mx:Nat)(f:Frame)(s:List Frame):Bl:=FM P ty gA true none [(1,0)] f s λf s=>Fo P ty 300 f s (aCD P ty mx)
def aCz(mx:Nat)(f:Frame)(s:List Frame):Bl:=FM P ty gA true none [(3,0)] f s λf s=>Fo P ty 300 f s (aCA P ty mx)
def Ci(mx:Nat)(f:Frame):Bl:=Fo P ty 300 f [] (aCz P ty mx)
def atH(f:Frame)(s:List Frame):Bl:=FM P ty gA true none [(4,0)] f s (goR P ty 300)
def UT(f:Frame)(s:List Frame):Bl:=FM P ty gA true none [(2,0)] f s λf s=>Fo P ty 300 f s (atH P ty)
def atu(f:Frame)(s:List Frame):Bl:=FM P ty (HB 0 0) false none [(7,0)] f s λf s=>Fo P ty 300 f s (UT P ty)
def atQ(c:Me)(f:Frame)(s:List Frame):Bl:=match PM P ty c f s with
 |some (.block,[],[],bs)=>some bs
 |_=>none
def atw(f:Frame)(s:List Frame):Bl:=both (atQ P ty (none,some (i32 0)) f s) (FM P ty (HB 0 1) false (some (1,.u32,0)) Zk f s λf s=>Fo P ty 300 f s (atu P ty))
def aim(f:Frame)(s:List Frame):Bl:=FM P ty gA true none [(6,1)] f s λf s=>Fo P ty 300 f s (atw P ty)
end
section
variable {ι:Type} {E:iZ ι}
section leave
variable {c:Frame} {cs:List Frame} (hc:c.mode= .returning\/∃ch,c.mode= .panicking [⟨ch,false,true⟩]) {q0:Nat} (hq:QuitsD E.P q0 0 (G c cs))
include hc hq
theorem atB{s:List Frame}{bs:List Nat}(h:atC E.P E.ty f s=some bs)(hb:∀b∈bs,b=E.Wg):E.D4 (G f (s++c::cs)):=by
 unfold atC at h;cases hm:mayWake E.P (G f []) with
 |false=>grind
 |true=>
 rw[hm] at h;obtain⟨f',s',uu,h1,h2,h3⟩:=gE h hb;exact⟨rfl,hm,_,λw hw=>h3 _ _ w (.inr (kX E hw)),afo hc hq h1⟩
def atD{s:List Frame}{bs:List Nat}(h:aCB E.P E.ty f s=some bs)(hb:∀b∈bs,b=E.Wg):E.D3 (G f (s++c::cs)):=by
 obtain⟨f',s',uu,h1,h2,h3⟩:=gE h hb;exact⟨rfl,_,λw hw=>h3 _ _ w (.inr (kX E hw)),jY h1 h2 λ_ _ _ k1 k2=>atB hc hq k1 k2⟩
def atE{s:List Frame}{bs:List Nat}(h:aCC E.P E.ty f s=some bs)(hb:∀b∈bs,b=E.Wg):E.D2 (G f (s++c::cs)):=by
 obtain⟨f',s',uu,h1,h2,h3⟩:=gE h hb;exact⟨rfl,_,λw hw=>h3 _ _ w (.inr (kX E hw)),jY h1 h2 λ_ _ _ k1 k2=>atD hc hq k1 k2⟩
def atF{s:List Frame}{bs:List Nat}(h:aCD E.P E.ty E.max f s=some bs)(hb:∀b∈bs,b=E.Wg):E.D1 (G f (s++c::cs)):=by
 refine⟨rfl,λv wt hwt hv=>?_⟩;obtain⟨a,h1,h2⟩:=Cp h hb v (dZ.2 hv);have key:∃a,afS E.P E.ty f s v wt=some a/\∀b∈a,b=E.Wg:=by
  obtain⟨k1,k2⟩:=zu h1 h2
  match wt,hwt with
  |0,_=>exact k1
  |1,_=>exact k2
 obtain⟨a',k1,k2⟩:=key;obtain⟨f',s',uu,j1,j2,j3⟩:=gE k1 k2;refine⟨_,λw hw=>j3 _ _ w (.inr (kX E hw)),λhh=>?_,λhh=>?_⟩
 .obtain⟨rfl,rfl⟩:=hh;exact jY j1 j2 λ_ _ _ k1 k2=>atE hc hq k1 k2
 have:(Nat.beq v 0&&Nat.beq wt 1)=false:=by
  cases hx:(Nat.beq v 0&&Nat.beq wt 1) with
  |false=>rfl
  |true=>
   simp only[av] at hx;exact absurd ⟨dW hx.1,dW hx.2⟩ hh
 rw[this] at j1;simp only[jI] at j1;exact afo hc hq j1
def atA{s:List Frame}{bs:List Nat}(h:aCA E.P E.ty E.max f s=some bs)(hb:∀b∈bs,b=E.Wg):E.K1 (G f (s++c::cs)):=by
 obtain⟨f',s',uu,h1,h2,h3⟩:=gE h hb;exact⟨rfl,_,λw=>h3 _ _ w (.inl ⟨rfl,rfl⟩),jY h1 h2 λ_ _ _ k1 k2=>atF hc hq k1 k2⟩
def atz{s:List Frame}{bs:List Nat}(h:aCz E.P E.ty E.max f s=some bs)(hb:∀b∈bs,b=E.Wg):E.R0 (G f (s++c::cs)):=by
 obtain⟨f',s',uu,h1,h2,h3⟩:=gE h hb;exact⟨rfl,_,λw=>h3 _ _ w (.inl ⟨rfl,rfl⟩),jY h1 h2 λ_ _ _ k1 k2=>atA hc hq k1 k2⟩
def Ri{bs:List Nat}(h:Ci E.P E.ty E.max f=some bs)(hb:∀b∈bs,b=E.Wg):E.pure false E.R0 (G f (c::cs)):=
 jY h hb λ_ _ _ k1 k2=>atz hc hq k1 k2
end leave
end
def CA(P:Program):Class:=λmain T=>Closed P main T
def anw:Code->Nat
 | .seq a b=>anw a+anw b+1
 |_=>0
def nZ(l:List Code):List Code:=l.flatMap oA
section
variable {P:Program} {main:Bool} {T:Goroutine->St->Prop} {b:Frame} {k:List Item} {cs:List Frame} {a:Act} {s:St} {n LF:Nat} {D:List Deferred} {call:fC} {ops:Array Oper}
 {ρ:dw} {ce e:Env} {m:Mem} {F:Nat×Obj->Prop} {R:Nat->Option Obj}
abbrev On(T:Goroutine->St->Prop)(b:Frame)(a:Act)(l:List Code)(k:List Item)(cs:List Frame)(s:St):Prop:=T (G (dJ b a (l.map .code++k)) cs) s
def xQ(hT:Closed P main T){c0:Code}{rest:List Code}:∀ {l:List Code},nZ l=c0::rest->(∀l',nZ l'=rest->T (G (dJ b a (.code c0::(l'.map .code++k))) cs) s)->On T b a l k cs s:=by
 intro l;generalize hn:(l.map anw).sum=q
 induction q using Nat.strongRecOn generalizing l with
 |_ q ih=>
  intro hl h;cases l with
  |nil=>cases hl
  |cons c l=>
   cases hc:c with
   |seq x y=>
    subst hc;refine hT.go rfl rfl (g':=G (dJ b a ((x::y::l).map .code++k)) cs) (λw=>by simp[G,stepG,stepG.exec,dJ])<|ih ((x::y::l).map anw).sum ?_ rfl ?_ h
    .rw[<-hn];simp[anw];omega
    rw[<-hl];simp[nZ,oA]
   |_=>
    subst hc;simp only[nZ,iL,oA,List.singleton_append,iH] at hl;obtain⟨rfl,hl⟩:=hl;exact h l hl
def Km(hT:Closed P main T){rest:List Code}(hl:nZ l= .region id ops false::rest)(h:∀l',nZ l'=rest->T (G (dJ b a (.inRegion ops (List.range ops.size)::(l'.map .code++k))) cs) s):On T b a l k cs s:=
 xQ hT hl λl' KO=>hT.go rfl rfl (λw=>by rfl) (h l' KO)
def awn(hT:Closed P main T){c:Operand}{x y:Code}{t:Bool}{rest:List Code}(hl:nZ l= .cond c x y::rest)(hc:a.eval c= .bool t)(h:∀l',nZ l'=rest->T (G (dJ b a (.code (if t then x else y)::(l'.map .code++k))) cs) s):On T b a l k cs s:=
 xQ hT hl λl' KO=>hT.go rfl rfl (λw=>by
  have he:=uX b a (.code (.cond c x y)::(l'.map .code++k));simp_all[dJ,G,stepG,stepG.exec]) (h l' KO)
def aoK(hT:Closed P main T){c:Code}{rest:List Code}(hl:nZ l= .block id c::rest)(h:∀l',nZ l'=rest->On T b a [c] (.inBlock id::(l'.map .code++k)) cs s):On T b a l k cs s:=
 xQ hT hl λl' KO=>hT.go rfl rfl (λw=>by rfl) (h l' KO)
def akJ(hT:Closed P main T)(h:T (G (dJ b a k) cs) s):T (G (dJ b a (.inBlock id::k)) cs) s:=
 hT.go rfl rfl (λw=>by rfl) h
def awm(hT:Closed P main T){c:Code}{rest:List Code}(hl:nZ l= .loop c::rest)(h:∀l',nZ l'=rest->On T b a [c] (.inLoop c::(l'.map .code++k)) cs s):On T b a l k cs s:=
 xQ hT hl λl' KO=>hT.go rfl rfl (λw=>by rfl) (h l' KO)
def af9(hT:Closed P main T){c:Code}(h:On T b a [c] (.inLoop c::k) cs s):T (G (dJ b a (.inLoop c::k)) cs) s:=
 hT.go rfl rfl (λw=>by rfl) h
def ayT(hT:Closed P main T)(h:T (G (dJ b a k) cs) s):T (G (dJ b a (.code .skip::k)) cs) s:=
 hT.go rfl rfl (λw=>by rfl) h
theorem ayU(hT:Closed P main T){k':List Item}(hk:exitTo id k=some k')(h:T (G (dJ b a k') cs) s):T (G (dJ b a (.code (.exit id)::k)) cs) s:=
 hT.go rfl rfl (λw=>by grind [G,stepG,stepG.exec,dJ]) h
def rY(hT:Closed P main T)(h:T (G (dJ b a k) cs) s):T (G (dJ b a (.inRegion ops []::k)) cs) s:=
 hT.go rfl rfl (λw=>by rfl) h
theorem Hv(id:Nat):∀(l:List Code) (k:List Item),exitTo id (l.map .code++k)=exitTo id k
 | [],k=>rfl
 |c::l,k=>by
  exact Hv id l k
def DU(hT:Closed P main T){rest:List Nat}{o:Oper}(ho:ops[i]?=some o) (hw:Region.wanted o (yielded ops a.tmps)=true) (hk:b.kind≠ .early) (hb:b.roundOf=none)
 (h:eN P (execOp a.eval o) s (λnx s'=>∃v,nx= .value v/\T (G (dJ b (a.put o.dst v) (.inRegion ops rest::k)) cs) s') (λ_ _=>False)):T (G (dJ b a (.inRegion ops (i::rest)::k)) cs) s:=by
 have mA:(b.kind==CallKind.early)=false:=by simpa using hk
 have lE:∀w,stepG P main (G (dJ b a (.inRegion ops (i::rest)::k)) cs) w=stepG.apply P true (dJ b a (.inRegion ops (i::rest)::k)) cs none (execOp a.eval o) w:=by
  intro w;have he:=uX b a (.inRegion ops (i::rest)::k);simp only[dJ] at he;simp only[G,stepG,stepG.exec,dJ,ho,dD,wP,hw,dF,stepG.oper,Frame.oper?,he];rw[hb]
 refine hT.step _ _ rfl λw yO=>?_;obtain⟨r,es,hr,hl⟩:=lK _ _ _ _ w #[] h yO;rw[dA] at hr;have sW:=lE w;simp only[stepG.apply,dF,hr] at sW;simp only[dJ,mA,aW,cJ] at sW;cases r with
 |ok nx w'=>
  obtain⟨s',ht,v,rfl,hv⟩:=hl;simp only[GStep.after,bV] at sW;have rq:=ng b a ops i rest k v;rw[ho] at rq;simp only[oR] at rq;rw[<-rq] at hv;exact⟨_,_,_,s',sW,rfl,ht.sub (mJ P b.fn es),hv⟩
 |halt hh w'=>
  obtain⟨s',ht,hu⟩:=hl;exact hu.elim
theorem jM(o:Oper)(f:Nat->Option Bool)(h:o.guard=none):Region.wanted o f=true:=by grind [Region.wanted]
end
def St.freeze(s:St):St:=⟨λb=>match s.rw.find? (λx=>x.1==b) with
 |some x=>some x.2
 |none=>s.ro b,[]⟩
theorem abH{l:List (Nat×Obj)}{x:Nat×Obj}(h:l.find? (λx=>x.1==b)=some x):x∈l/\x.1=b:=
 by grind
theorem MY{l:List (Nat×Obj)}(hn:(l.map (·.1)).Nodup)(h:(b,o)∈l):l.find? (λx=>x.1==b)=some (b,o):=by
 induction l with
 |nil=>grind
 |cons y l ih=>
  grind
theorem St.akC(s:St):s.freeze.le s:=by
 refine⟨s.rw,by rfl,λb o h=>?_⟩
 grind [St.freeze]
theorem St.Lf{s:St}(h:s.ro b=some o)(ha:∀b o,(b,o)∈s.rw->s.ro b=none):s.freeze.ro b=some o:=by
 grind [St.freeze]
theorem St.Le{s:St}(h:(b,o)∈s.rw)(hn:(s.rw.map (·.1)).Nodup):s.freeze.ro b=some o:=by
 grind [St.freeze,MY]
section
variable {P:Program} {ρ:dw} {m:Mem} {F:Nat×Obj->Prop} {R:Nat->Option Obj} {s:St}
theorem Closed.ny{T:Goroutine->St->Prop}(hT:Closed P main T){g:Goroutine}(hs:g.status= .running)(h:(∃w,dh s w)->T g s):T g s:=by
 by_cases ha:∃w,dh s w
 .grind
 exact hT.step _ _ hs λw hw=>absurd ⟨w,hw⟩ ha
end
section
variable {P:Program} {main:Bool} {T:Goroutine->St->Prop} {b:Frame} {k:List Item} {cs:List Frame} {a:Act} {s:St} {n LF:Nat} {D:List Deferred} {call:fC} {ops:Array Oper}
 {ρ:dw} {ce e:Env} {m:Mem} {F:Nat×Obj->Prop} {R:Nat->Option Obj}
def PK(hT:Closed P main T){rest:List Nat}{o:Oper}(ho:ops[i]?=some o) (hg:o.guard=none) (hk:b.kind≠ .early) (hb:b.roundOf=none) {f:FuncId} {xs:Array Operand} {ats:Array TypeId} (aX:o.op= .call ⟨.value (.func f),xs,ats⟩) (hf:FF P f)
 (h:T (G (Frame.enter P f (xs.map a.eval) .normal) (dJ b a (.inRegion ops (i::rest)::k)::cs)) s):T (G (dJ b a (.inRegion ops (i::rest)::k)) cs) s:=by
 have mA:(b.kind==CallKind.early)=false:=by simpa using hk
 have hw:Region.wanted o (yielded ops a.tmps)=true:=jM o _ hg;have B4:eN P (execOp a.eval o) s (λnx s'=>nx= .enter f (xs.map a.eval)/\s'=s) (λ_ _=>False):=by
  have e1:a.eval (.func f)= .func (.func f) #[] #[]:=rfl;simp only[execOp,aX,resolve,e1,Deferred.ofValue,aI,aQ,invoke];have:(#[]++xs.map a.eval:Array Value)++ #[]=xs.map a.eval:=by simp
  rw[this];exact oF hf ⟨rfl,rfl⟩
 have lE:∀w,stepG P main (G (dJ b a (.inRegion ops (i::rest)::k)) cs) w=stepG.apply P true (dJ b a (.inRegion ops (i::rest)::k)) cs none (execOp a.eval o) w:=by
  intro w;have he:=uX b a (.inRegion ops (i::rest)::k);simp only[dJ] at he;simp only[G,stepG,stepG.exec,dJ,ho,dD,wP,hw,dF,stepG.oper,Frame.oper?,he];rw[hb]
 refine hT.step _ _ rfl λw yO=>?_;obtain⟨r,es,hr,hl⟩:=lK _ _ _ _ w #[] B4 yO;rw[dA] at hr;have sW:=lE w;simp only[stepG.apply,dF,hr] at sW;simp only[dJ,mA,aW,cJ] at sW;cases r with
 |ok nx w'=>
  obtain⟨s',ht,rfl,rfl⟩:=hl;simp only[GStep.after,bV] at sW;exact⟨_,_,_,_,sW,rfl,ht.sub (mJ P b.fn es),h⟩
 |halt hh w'=>
  obtain⟨s',ht,hu⟩:=hl;exact hu.elim
def iq(P:Program):Frame:={(default:Frame) with fn:=P.funcs.size,defers:=[],mode:= .panicking [goexitEntry]}
def ZF(P:Program):QuitsD P 1 0 (G (iq P) []):=by
 have hc:(iq P).catches P=false:=by
  simp[Frame.catches,iq];rfl
 refine .ctl (g':={(G (iq P) []) with status:= .finished}) rfl (λw=>?_) ⟨rfl,rfl⟩;have dt:stepG P false (G (iq P) []) w=unwind P false (iq P) [] none w:=rfl;rw[dt];unfold unwind;have h1:(iq P).defers=[]:=rfl;have h2:(iq P).mode= .panicking [goexitEntry]:=rfl;simp only[h1,h2,hc,aW,cJ];simp[goexitEntry,G]
def Ai{fn:Func}(hm:fr.mode= .returning)(hd:fr.defers=[])(hk:fr.kind= .deferred)(hf:P.funcs[fr.fn]?=some fn) (hr:fn.results= #[]):QuitsD P 2 0 (G fr [iq P]):=by
 refine .ctl rfl (λw=>?_) (ZF P);have h1:∀tm,results fn tm=Sem.pure (.tuple #[]):=by intro tm;simp[results,hr];rfl
 rcases fr with ⟨fn',tmps,todo,defers,mode,kind,ro⟩
 subst hm hd hk;simp only[G,stepG,unwind,hf,h1,Sem.runT,seen_none,GStep.after,doReturn,iq,goexitEntry,bV]
end
structure aci where
 f:FuncId
 n:Nat
 cl:List Code
 o7:Array Oper
 o:Oper
 sc:Operand
 sv:Operand
 done:FuncId
def px(h:nZ l=[]):l=[]:=by
 cases l with
 |nil=>rfl
 |cons y l=>
  exfalso;have:∀c:Code,oA c≠[]:=by
   intro c
   induction c with
   |seq p q ihp ihq=>simp[oA,ihp]
   |_=>simp[oA]
  simp only[nZ,iL,List.append_eq_nil_iff] at h;exact this y h.1
theorem Lj{b:Frame}(h:b.roundOf=none)(a:Act)(todo:List Item):dJ b a todo=b.at a todo:=by grind [dJ,Frame.at]
def ad8(P:Program):Sem Next->Nat->Option (Obj×Value)
 | .new o k,b=>match eg P (k b) with
  |some (.value v)=>bif Obj.real o then some (o,v) else none
  |_=>none
 | .program k,b=>ad8 P (k P) b
 |_,_=>none
theorem ao4{P:Program}{f:Nat->Value}{s:St}{K:Next->St->Prop}{E:Halt->St->Prop}(hK:∀b,¬s.knows b->K (.value (f b)) ⟨s.ro,(b,o)::s.rw⟩):∀(x:Sem Next),(∀b,ad8 P x b=some (o,f b))->eN P x s K E:=by
 intro x
 induction x with
 |new o' k ih=>
  intro h;have key:∀b,Obj.real o'=true/\o'=o/\eg P (k b)=some (.value (f b)):=λb=>by
   have h':=h b;simp only[ad8] at h'
   grind
  refine⟨(key 0).1,λb hb=>?_⟩;obtain⟨_,rfl,hv⟩:=key b;exact vy hv (hK b hb)
 |program k ih=>intro h;exact ih P h
 |_=>intro h;have:=h 0;simp[ad8] at this
def fP(l:List Code)(i:Nat):Array Oper:=match l[i]? with
 |some (.region _ ops _)=>ops
 |_=> #[]
def ez(o:Array Oper)(i:Nat):Oper:=(o[i]?).getD default
def codeOf(P:Program)(f:FuncId):List Code:=match P.funcs[f]? with
 |some fn=>match fn.body with
  |some c=>oA c
  |none=>[]
 |none=>[]
open Go.ConcM (OsLater)
def Jv(os:Os)(out:Array (Nat×ByteArray)):(Nat->St)->World->Trace->Prop:=λ_ w t=>(∀a,NoRelease a t)/\OsLater os w.os/\w.output=out
def M8(os:Os)(out:Array (Nat×ByteArray)):acm (Jv os out) where
 grow:=λ_ _ _ _ h hu=>⟨λa=>(h.1 a).app λop aX=>hu op aX a,h.2⟩
 drawn:=λ_ _ _ _ h=>h
 le:=λ_ _ _ _ h _=>h
 own:=λ_ _ _ _ _ _ _ h ht hu=>⟨λa=>(h.1 a).app λop aX=>hu op aX a,by rw[ht.os];exact h.2.1,ht.output.trans h.2.2⟩
def T0L(P:Program)(os:Os)(out:Array (Nat×ByteArray))(Post:Value->World->Prop):Goroutine->St->Prop:=TL P fW (λ_=>none) (Jv os out) (Good P Post)
theorem GG(P:Program)(os:Os)(out:Array (Nat×ByteArray))(Post:Value->World->Prop):Closed P true (T0L P os out Post):=J0 zl (M8 os out) _
def C0L(P:Program):Class:=λmain T=>main=true/\∃mS fE Post,T=T0L P mS fE Post
def Ck{P:Program}:∀main T,C0L P main T->Closed P main T:=by
 rintro main T ⟨rfl,mS,fE,Post,rfl⟩;simp[GG]
def adk{P:Program}{os:Os}{out:Array (Nat×ByteArray)}{Post:Value->World->Prop}{g:Goroutine}{s:St}(hs:g.status= .running)
 (dt:∀w,dh s w->OsLater os w.os->w.output=out->∃v w' es s',stepG P true g w= .ended (.done v) w' es/\Post v w'/\Trans s w s' w' es):T0L P os out Post g s:=by
 refine N6 zl (M8 os out) hs λK gs w t q sl m hL h0 hK hd hi hm hmg=>?_;subst hK;obtain⟨v,w',es,s',hgo,hp,ht⟩:=dt w (hL.fit.ny 0) hi.2.1 hi.2.2;have hr:=ConcN.runT_crowd_ended (P:=P) (sl:=sl) (i:=0) h0 (by simpa using hgo);have ov:=hL.fit.own ht g.frame.fn g.frame.place;generalize hu:MemOp.ofEvents 0 g.frame.fn g.frame.place es=u at hr ov;have C2:∀op∈u,op.g=0:=by rw[<-hu];exact λop aX=>Go.ConcR.g_of_ofEvents op aX
 refine⟨0,m,.done v,w',t++u,by simp[runNT,hm,hr],rfl,by simp[step,hm,hr],v,rfl,hp,ov.clean,λi k hk eA hc=>?_,⟨λx hx=>?_,by rw[hmg.2];rfl⟩,λi x hx eA=>?_⟩
 .obtain⟨op,ho,akj⟩:=fo.1 hk;cases k with
  |zero=>exact absurd rfl eA
  |succ k=>
   have ei:op.g <gs.size:=by
    rcases oU.1 (mem_of_getElem? ho) with h'|h'
    .exact hL.ops op h'
    rw[C2 op h',hL.size];omega
   have hkq:k <q.length:=by have:=hL.size;omega
   obtain⟨_,_,_,_,_,ep⟩:=hL.ok k _ (ai hkq);exact(ep.other λop aX=>by rw[C2 op aX];omega) i hk hc
 .rw[hmg.1] at hx;obtain⟨j,hj⟩:=dV hx;rw[List.getElem?_drop,Array.getElem?_toList] at hj;have hjq:j <q.length:=by have:=lt_size hj;have:=hL.size;omega
  obtain⟨y,d,hy,hq,_⟩:=hL.ok j _ (ai hjq);rw[Nat.add_comm] at hj;rw[hj] at hy;obtain rfl:=aK hy;exact⟨_,hq.leaves⟩
 rw[hmg.1] at hx;cases i with
 |zero=>exact absurd rfl eA
 |succ j=>
  have hjq:j <q.length:=by have:=lt_size hx;have:=hL.size;omega
  obtain⟨y,d,hy,hq,Sc,_⟩:=hL.ok j _ (ai hjq);rw[hx] at hy;obtain rfl:=aK hy;refine⟨q[j],?_⟩;have e:(t++u).deaf (j+1) (t++u).size=d:=by
   have:=jq t u (g:=j+1) λop aX=>by rw[C2 op aX];omega
   unfold Deaf at this Sc;rw[this];exact Sc
  rw[e];exact hq.hears m.world
def aiW{P:Program}{Post:Value->World->Prop}{g:Goroutine}{s:St}{w:World}(ha:dh s w)(h:T0L P w.os w.output Post g s):Ends P (Good P Post) (solo g w) #[]:=by
 rw[solo_eq_crowd];have wX:∀p x,touchAt #[] p=some x->False:=λp x hx=>by simp[touchAt,Trace.act?] at hx
 have hn:∀i,i≠0->∀b,¬((if i=0 then s else ⟨λ_=>none,[]⟩:St)).knows b:=λi hi b hk=>by
  rw[cy hi] at hk;rcases hk with hk| ⟨o,ho⟩
  .exact hk rfl
  cases ho
 refine h (λj=>if j=0 then s else ⟨λ_=>none,[]⟩) #[g] w #[] [] none ⟨⟨(λ_ _ e=>(by cases e)),λ_ _ _=>rfl,λi=>?_,λi j b Og ho hk=>?_,λ_ _ _ p x hx=>(wX p x hx).elim,λ_ _ _ p x hx=>(wX p x hx).elim,
  λp x _ hx=>(wX p x hx).elim,(λsaid ⟨i,j,_,⟨a,b,h1,_⟩,_⟩=>by simp[Trace.act?] at h1),λp x _ hx=>(wX p x hx).elim⟩,rfl,λi n hi=>by simp at hi,λi b hi hk=>hn i hi b hk,by simp⟩ rfl (by simp only[dF];exact St.le_refl _) rfl ⟨λa i=>by simp[Trace.act?],OsLater.refl _,rfl⟩
 .by_cases e:i=0
  .simp only[e,dF];exact ha
  simp only[cy e];exact⟨(λ_ _ e=>(by cases e)),(λ_ _ e=>(by cases e)),(λ_ _ e=>(by cases e)),by simp,(λ_ _ e=>(by cases e))⟩
 by_cases e:j=0
 .exact hn i (λe'=>Og (e'.trans e.symm)) b (.inr ho)
 exact hn j e b hk
structure Wd where
 L:Bool
 W:Bool
 S:Bool
 c:Nat
 deriving DecidableEq
def Wd.enc(o:Wd):Int:=(if o.L then 1 else 0)+(if o.W then 2 else 0)+(if o.S then 4 else 0)+8*(o.c:Int)
inductive cu where
 |out (k:Nat)
 |ld (k:Nat)|l0 (k:Nat)|r0 (k:Nat)
 |sq (k:Nat) (o:Wd) (aw sv:Bool) (it:Nat) (ws:Bool)
 |c1 (k:Nat) (o:Wd) (aw sv:Bool) (it:Nat) (ws:Bool)
 |r1 (k:Nat) (aw sv:Bool) (it:Nat) (ws:Bool)
 |c2 (k:Nat) (o:Wd) (aw sv:Bool) (it:Nat) (ws:Bool)
 |r3 (k:Nat) (aw sv:Bool) (it:Nat) (ws:Bool)
 |t1 (k:Nat) (sv:Bool)|s1 (k:Nat) (sv:Bool)|t2 (k:Nat) (sv:Bool)|r2 (k:Nat) (sv:Bool)|a1 (k:Nat) (ex:Bool)
 |le (k:Nat)|la (k:Nat)|own (k:Nat)|ui (k:Nat)|ur (k:Nat)|ud (k:Nat)|u0 (k:Nat)
 |uc (k:Nat) (o:Wd)|ux (k:Nat)|us (k:Nat)|ue (k:Nat)
def Hi(k:Nat)(o:Wd)(aw sv:Bool)(it:Nat)(ws:Bool):cu:=if o.L&& !o.S then .sq k o aw sv it ws else .c2 k o aw sv it ws
def Wd.nw(o:Wd)(aw sv:Bool):Wd:=⟨o.L|| !o.S,o.W&& !aw,o.S||(sv&&o.L),if o.L||o.S then o.c+1 else o.c⟩
def Wd.rest(o:Wd):Bool:=o.c==0||o.L||o.W||o.S
def ucL(k:Nat)(o:Wd):cu:=if o.rest then .ue k else .uc k o
inductive Nx:cu->Wd->Nat->cu->Wd->Nat->Prop
 |out {k w m}:Nx (.out (k+1)) w m (.ld k) w m
 |ld {k w m}:Nx (.ld k) w m (.l0 k) w m
 |l0y {k m}:Nx (.l0 k) ⟨false,false,false,0⟩ m (.le k) ⟨true,false,false,0⟩ m
 |l0n {k w m}:w≠⟨false,false,false,0⟩->Nx (.l0 k) w m (.r0 k) w m
 |r0 {k w m}:Nx (.r0 k) w m (Hi k w false false 0 false) w m
 |sqn {k o aw sv it ws w m}:Nx (.sq k o aw sv it ws) w m (.c2 k o aw sv it ws) w m
 |sqy {k o aw sv it ws w m}:it <4->Nx (.sq k o aw sv it ws) w m (if !aw&& !o.W&&o.c != 0 then .c1 k o aw sv it ws else .r1 k aw sv it ws) w m
 |c1y {k o aw sv it ws m}:Nx (.c1 k o aw sv it ws) o m (.r1 k true sv it ws) ⟨o.L,true,o.S,o.c⟩ m
 |c1n {k o aw sv it ws w m}:w≠o->Nx (.c1 k o aw sv it ws) w m (.r1 k aw sv it ws) w m
 |r1 {k aw sv it ws w m}:Nx (.r1 k aw sv it ws) w m (Hi k w aw sv (it+1) ws) w m
 |c2y {k o aw sv it ws m}:Nx (.c2 k o aw sv it ws) o m (if o.L||o.S then (if ws then .s1 k sv else .t1 k sv) else .le k) (o.nw aw sv) m
 |c2n {k o aw sv it ws w m}:w≠o->Nx (.c2 k o aw sv it ws) w m (.r3 k aw sv it ws) w m
 |r3 {k aw sv it ws w m}:Nx (.r3 k aw sv it ws) w m (Hi k w aw sv it ws) w m
 |t1 {k sv w m}:Nx (.t1 k sv) w m (.s1 k sv) w m
 |s1 {k sv w m}:Nx (.s1 k sv) w (m+1) (.t2 k sv) w m
 |s1s {k w m}:Nx (.s1 k true) w (m+1) (.r2 k true) w m
 |t2 {k sv w m} (b:Bool):Nx (.t2 k sv) w m (.r2 k (sv||b)) w m
 |r2y {k sv w m}:w.S=true->Nx (.r2 k sv) w m (.a1 k (!sv||w.c==1)) w m
 |r2n {k sv w m} (ws:Bool):w.S=false->Nx (.r2 k sv) w m (Hi k w true sv 0 ws) w m
 |a1 {k ex w m}:Nx (.a1 k ex) w m (.le k) ⟨true,w.W,w.S&& !ex,w.c-1⟩ m
 |le {k w m}:Nx (.le k) w m (.la k) w m
 |la {k w m}:Nx (.la k) w m (.own k) w m
 |own {k w m}:Nx (.own k) w m (.ui k) w m
 |ui {k w m}:Nx (.ui k) w m (.ur k) w m
 |ur {k w m}:Nx (.ur k) w m (.ud k) w m
 |ud {k w m}:Nx (.ud k) w m (.u0 k) w m
 |u0 {k w m}:Nx (.u0 k) w m (if w.S then .us k else ucL k ⟨false,w.W,w.S,w.c⟩) ⟨false,w.W,w.S,w.c⟩ m
 |ucy {k o m}:Nx (.uc k o) o m (.us k) ⟨o.L,true,o.S,o.c-1⟩ m
 |ucn {k o w m}:w≠o->Nx (.uc k o) w m (.ux k) w m
 |ux {k w m}:Nx (.ux k) w m (ucL k w) w m
 |us {k w m}:Nx (.us k) w m (.ue k) w (m+1)
 |ue {k w m}:Nx (.ue k) w m (.out k) w m
def cu.H:cu->Nat
 | .le _| .la _| .own _| .ui _| .ur _| .ud _| .u0 _=>1
 |_=>0
def cu.Q:cu->Nat
 | .t1 .. | .s1 .. =>1
 |_=>0
def cu.U:cu->Nat
 | .us _=>1
 |_=>0
def cu.A:cu->Nat
 | .a1 .. =>1
 |_=>0
def cu.G:cu->Nat
 | .t2 .. | .r2 .. =>1
 |_=>0
def cu.B:cu->Nat
 | .sq _ _ aw _ _ _| .c1 _ _ aw _ _ _| .r1 _ aw _ _ _| .c2 _ _ aw _ _ _| .r3 _ aw _ _ _=>aw.toNat
 |_=>0
def cu.X:cu->Nat
 | .uc .. | .ux _=>1
 |_=>0
def cu.Ok:cu->Prop
 | .sq _ o aw sv it _=>o.L=true/\o.S=false/\(aw=true->o.W=true)/\(sv=true->aw=true)/\it<=4
 | .c1 _ o aw sv it _=>o.L=true/\o.S=false/\o.W=false/\o.c≠0/\aw=false/\sv=false/\it <4
 | .c2 _ o aw sv it _=>(aw=true->o.W=true/\o.S=false)/\(sv=true->aw=true)/\it<=4
 | .r1 _ aw sv it _=>(sv=true->aw=true)/\it <4
 | .r3 _ aw sv it _=>(sv=true->aw=true)/\it<=4
 | .uc _ o=>o.rest=false
 |_=>True
def kL(f:α->Nat)(T:List α):Nat:=(T.map f).sum
theorem kR(f:α->Nat){x y:α}:∀ {T:List α} {i:Nat},T[i]?=some x->kL f (T.set i y)+f x=kL f T+f y
 | [],i,h=>by simp at h
 |a::T,0,h=>by grind [kL]
 |a::T,i+1,h=>by
  have:=kR f (y:=y) (T:=T) (i:=i) (by simpa using h)
  grind [kL]
theorem nK(f:α->Nat){x:α}:∀ {T:List α},x∈T->f x<=kL f T
 |a::T,h=>by
  rcases aN.1 h with rfl|h
  .simp[kL]
  have:=nK f h;grind [kL]
structure qL(T:List cu)(w:Wd)(m:Nat):Prop where
 held:kL cu.H T=w.L.toNat
 norm:w.S=false->m+kL cu.U T+kL cu.G T+kL cu.B T=w.W.toNat/\w.c+m+kL cu.U T=kL cu.Q T/\kL cu.A T=0
 star:w.S=true->w.W=false/\kL cu.B T=0/\m+kL cu.U T+kL cu.G T+kL cu.A T+w.L.toNat=1/\w.c=kL cu.Q T+kL cu.G T+kL cu.A T
 aNb:w.L=false->w.S=false->w.W=false->w.c≠0->1<=kL cu.X T
 ok:∀x∈T,x.Ok
theorem aFt{T:List cu}{x':cu}(h:∀x∈T,x.Ok)(h':x'.Ok):∀x∈T.set i x',x.Ok:=by grind
def WE{k:Nat}{o:Wd}{aw:Bool}(h1:aw=true->o.W=true/\o.S=false)(h2:sv=true->aw=true)(h3:it<=4):(Hi k o aw sv it ws).Ok:=by
 unfold Hi;split
 .rename_i h;simp only[av,az] at h;exact⟨h.1,h.2,λe=>(h1 e).1,h2,h3⟩
 exact⟨h1,h2,h3⟩
section
variable {k:Nat} {o:Wd} {aw sv:Bool} {it:Nat} {ws:Bool}
theorem aB5:(Hi k o aw sv it ws).H=0:=by unfold Hi;split<;>rfl
theorem aB4:(Hi k o aw sv it ws).Q=0:=by unfold Hi;split<;>rfl
theorem aB3:(Hi k o aw sv it ws).U=0:=by unfold Hi;split<;>rfl
theorem aB8:(Hi k o aw sv it ws).A=0:=by unfold Hi;split<;>rfl
theorem aB6:(Hi k o aw sv it ws).G=0:=by unfold Hi;split<;>rfl
theorem aB7:(Hi k o aw sv it ws).B=aw.toNat:=by unfold Hi;split<;>rfl
theorem aB2:(Hi k o aw sv it ws).X=0:=by unfold Hi;split<;>rfl
end
section
variable {T:List cu} {w w':Wd} {m m' i:Nat} {x x':cu}
def qL.mk'(h:qL T w m)(hi:T[i]?=some x) (dL:x'.Ok)
 (k:∀sH sQ sU sA sG sB sX:Nat,∀tH tQ tU tA tG tB tX:Nat,
  tH+x.H=sH+x'.H->tQ+x.Q=sQ+x'.Q->tU+x.U=sU+x'.U->tA+x.A=sA+x'.A->tG+x.G=sG+x'.G->tB+x.B=sB+x'.B->tX+x.X=sX+x'.X->
  x.H<=sH->x.Q<=sQ->x.U<=sU->x.A<=sA->x.G<=sG->x.B<=sB->x.X<=sX->
  sH=w.L.toNat->(w.S=false->m+sU+sG+sB=w.W.toNat/\w.c+m+sU=sQ/\sA=0)->(w.S=true->w.W=false/\sB=0/\m+sU+sG+sA+w.L.toNat=1/\w.c=sQ+sG+sA)->
  (w.L=false->w.S=false->w.W=false->w.c≠0->1<=sX)->
  tH=w'.L.toNat/\(w'.S=false->m'+tU+tG+tB=w'.W.toNat/\w'.c+m'+tU=tQ/\tA=0)/\(w'.S=true->w'.W=false/\tB=0/\m'+tU+tG+tA+w'.L.toNat=1/\w'.c=tQ+tG+tA)/\
  (w'.L=false->w'.S=false->w'.W=false->w'.c≠0->1<=tX)):qL (T.set i x') w' m':=by
 have hm:=aj hi;obtain⟨h1,h2,h3,h4⟩:=k _ _ _ _ _ _ _ _ _ _ _ _ _ _ (kR cu.H (y:=x') hi) (kR cu.Q (y:=x') hi) (kR cu.U (y:=x') hi) (kR cu.A (y:=x') hi) (kR cu.G (y:=x') hi) (kR cu.B (y:=x') hi) (kR cu.X (y:=x') hi)
  (nK cu.H hm) (nK cu.Q hm) (nK cu.U hm) (nK cu.A hm) (nK cu.G hm) (nK cu.B hm) (nK cu.X hm) h.held h.norm h.star h.aNb
 exact⟨h1,h2,h3,h4,aFt h.ok dL⟩
theorem qL.aw(h:qL T w m)(hi:T[i]?=some x) {aw:Bool} (hB:aw=true->x.B=1):aw=true->w.W=true/\w.S=false:=λe=>by
 have h2:=nK cu.B (aj hi);rw[hB e] at h2;have hS:w.S=false:=by
  cases hS:w.S
  .rfl
  have:=(h.star hS).2.1;omega
 have h1:=(h.norm hS).1
 grind
theorem qL.step(h:qL T w m)(hi:T[i]?=some x) (hs:Nx x w m x' w' m'):qL (T.set i x') w' m':=by
 have hx:=h.ok x (List.mem_of_getElem? hi)
 obtain⟨L,W,S,c⟩:=w
 cases hs
 case sqy k o aw sv it ws hit=>
  split
  .rename_i hc
   simp only[Bool.and_eq_true,Bool.not_eq_true',bne_iff_ne,ne_eq] at hc
   refine h.mk' hi ⟨hx.1,hx.2.1,hc.1.2,hc.2,hc.1.1,?_,hit⟩ λsH sQ sU sA sG sB sX tH tQ tU tA tG tB tX e1 e2 e3 e4 e5 e6 e7 f1 f2 f3 f4 f5 f6 f7 a1 a2 a3 a4=>?_
   .cases sv
    .rfl
    have:=hx.2.2.2.1 rfl;rw[hc.1.1] at this;cases this
   simp only[cu.H,cu.Q,cu.U,cu.A,cu.G,cu.B,cu.X,Nat.add_zero,Nat.zero_add] at e1 e2 e3 e4 e5 e6 e7
   cases L<;>cases W<;>cases S<;>simp at a1 a2 a3 a4 ⊢ <;>(try and_intros)<;>intros<;>omega
  refine h.mk' hi ⟨hx.2.2.2.1,hit⟩ λsH sQ sU sA sG sB sX tH tQ tU tA tG tB tX e1 e2 e3 e4 e5 e6 e7 f1 f2 f3 f4 f5 f6 f7 a1 a2 a3 a4=>?_
  simp only[cu.H,cu.Q,cu.U,cu.A,cu.G,cu.B,cu.X,Nat.add_zero,Nat.zero_add] at e1 e2 e3 e4 e5 e6 e7
  cases L<;>cases W<;>cases S<;>simp at a1 a2 a3 a4 ⊢ <;>(try and_intros)<;>intros<;>omega
 case c2y k aw sv it ws=>
  obtain⟨h1,h2,_⟩:=hx
  cases L<;>cases S<;>cases ws<;>cases aw<;>cases sv<;>cases W<;>(try (simp at h1 h2;done))<;>
   simp only[Bool.true_or,Bool.false_or,Bool.or_self,Bool.or_true,Bool.or_false,Bool.and_true,Bool.and_false,Bool.true_and,Bool.false_and,Bool.not_true,Bool.not_false,reduceIte,Bool.false_eq_true,Wd.nw]<;>
   refine h.mk' hi True.intro λsH sQ sU sA sG sB sX tH tQ tU tA tG tB tX e1 e2 e3 e4 e5 e6 e7 f1 f2 f3 f4 f5 f6 f7 a1 a2 a3 a4=>?_<;>
   simp[cu.H,cu.Q,cu.U,cu.A,cu.G,cu.B,cu.X] at e1 e2 e3 e4 e5 e6 e7 f6 a1 a2 a3 a4 ⊢ <;>(try and_intros)<;>intros<;>omega
 case u0 k=>
  cases S
  .simp only[Bool.false_eq_true,reduceIte]
   unfold ucL Wd.rest
   cases W
   .cases c with
    |zero=>
     refine h.mk' hi True.intro λsH sQ sU sA sG sB sX tH tQ tU tA tG tB tX e1 e2 e3 e4 e5 e6 e7 f1 f2 f3 f4 f5 f6 f7 a1 a2 a3 a4=>?_
     simp[cu.H,cu.Q,cu.U,cu.A,cu.G,cu.B,cu.X] at e1 e2 e3 e4 e5 e6 e7 f1
     cases L<;>simp at a1 a2 a3 a4 ⊢ <;>(try and_intros)<;>intros<;>omega
    |succ c=>
     refine h.mk' (x':= .uc k ⟨false,false,false,c+1⟩) hi rfl λsH sQ sU sA sG sB sX tH tQ tU tA tG tB tX e1 e2 e3 e4 e5 e6 e7 f1 f2 f3 f4 f5 f6 f7 a1 a2 a3 a4=>?_
     simp[cu.H,cu.Q,cu.U,cu.A,cu.G,cu.B,cu.X] at e1 e2 e3 e4 e5 e6 e7 f1
     cases L<;>simp at a1 a2 a3 a4 ⊢ <;>(try and_intros)<;>intros<;>omega
   simp only[Bool.or_true,Bool.true_or,reduceIte]
   refine h.mk' hi True.intro λsH sQ sU sA sG sB sX tH tQ tU tA tG tB tX e1 e2 e3 e4 e5 e6 e7 f1 f2 f3 f4 f5 f6 f7 a1 a2 a3 a4=>?_
   simp[cu.H,cu.Q,cu.U,cu.A,cu.G,cu.B,cu.X] at e1 e2 e3 e4 e5 e6 e7 f1
   cases L<;>simp at a1 a2 a3 a4 ⊢ <;>(try and_intros)<;>intros<;>omega
  simp only[reduceIte]
  refine h.mk' hi True.intro λsH sQ sU sA sG sB sX tH tQ tU tA tG tB tX e1 e2 e3 e4 e5 e6 e7 f1 f2 f3 f4 f5 f6 f7 a1 a2 a3 a4=>?_
  simp[cu.H,cu.Q,cu.U,cu.A,cu.G,cu.B,cu.X] at e1 e2 e3 e4 e5 e6 e7 f1
  cases L<;>cases W<;>simp at a1 a2 a3 a4 ⊢ <;>(try and_intros)<;>intros<;>omega
 case ux k=>
  unfold ucL
  split
  .rename_i hr
   simp only[Wd.rest] at hr
   refine h.mk' hi True.intro λsH sQ sU sA sG sB sX tH tQ tU tA tG tB tX e1 e2 e3 e4 e5 e6 e7 f1 f2 f3 f4 f5 f6 f7 a1 a2 a3 a4=>?_
   simp[cu.H,cu.Q,cu.U,cu.A,cu.G,cu.B,cu.X] at e1 e2 e3 e4 e5 e6 e7
   cases L<;>cases W<;>cases S<;>simp at hr a1 a2 a3 a4 ⊢ <;>(try and_intros)<;>intros<;>omega
  rename_i hr
  refine h.mk' hi (show Wd.rest _=false by simpa using hr) λsH sQ sU sA sG sB sX tH tQ tU tA tG tB tX e1 e2 e3 e4 e5 e6 e7 f1 f2 f3 f4 f5 f6 f7 a1 a2 a3 a4=>?_
  simp[cu.H,cu.Q,cu.U,cu.A,cu.G,cu.B,cu.X] at e1 e2 e3 e4 e5 e6 e7 f7
  cases L<;>cases W<;>cases S<;>simp at a1 a2 a3 a4 ⊢ <;>(try and_intros)<;>intros<;>omega
 all_goals
  refine h.mk' hi ?_ λsH sQ sU sA sG sB sX tH tQ tU tA tG tB tX e1 e2 e3 e4 e5 e6 e7 f1 f2 f3 f4 f5 f6 f7 a1 a2 a3 a4=>?_
 case r0.refine_1=>exact WE (by simp) (by simp) (by omega)
 case sqn.refine_1=>exact⟨λe=>⟨hx.2.2.1 e,hx.2.1⟩,hx.2.2.2.1,hx.2.2.2.2⟩
 case c1y.refine_1=>exact⟨λ_=>rfl,hx.2.2.2.2.2.2⟩
 case c1n.refine_1 k o aw sv it ws eA=>exact⟨λe=>(by have:=hx.2.2.2.2.2.1;rw[e] at this;cases this),hx.2.2.2.2.2.2⟩
 case r1.refine_1=>exact WE (h.aw hi (by intro e;simp[cu.B,e])) hx.1 (by have:=hx.2;omega)
 case r3.refine_1=>exact WE (h.aw hi (by intro e;simp[cu.B,e])) hx.1 hx.2
 case c2n.refine_1=>exact⟨hx.2.1,hx.2.2⟩
 case r2n.refine_1 k sv ws hS=>
  refine WE (λ_=>⟨?_,hS⟩) (λ_=>rfl) (by omega)
  have h1:=(h.norm hS).1
  have h2:=nK cu.G (List.mem_of_getElem? hi)
  simp only[cu.G] at h2
  simp only at h1 ⊢
  cases W
  .simp only[Bool.toNat_false] at h1;omega
  rfl
 all_goals try exact True.intro
 all_goals
  try simp only[aB5,aB4,aB3,aB8,aB6,aB7,aB2] at e1 e2 e3 e4 e5 e6 e7
 all_goals
  simp only[cu.H,cu.Q,cu.U,cu.A,cu.G,cu.B,cu.X,aB5,aB4,aB3,aB8,aB6,aB7,aB2,Nat.add_zero,Nat.zero_add,Bool.toNat_false,Bool.toNat_true] at e1 e2 e3 e4 e5 e6 e7 f1 f2 f3 f4 f5 f6 f7
 all_goals
  first
  | (cases L<;>cases W<;>cases S<;>simp at a1 a2 a3 a4 ⊢ <;>(try and_intros)<;>intros<;>omega)
  | (simp at a1 a2 a3 a4 ⊢ <;>(try and_intros)<;>intros<;>omega)
  | (have hy:=hx.2.2.2.2.1;subst hy;have h1:=hx.1;have h2:=hx.2.1;have h3:=hx.2.2.1;simp only at h1 h2 h3;subst h1 h2 h3;simp only[Bool.toNat_false] at e6 f6;simp at a1 a2 a3 a4 ⊢ <;>(try and_intros)<;>intros<;>omega)
  | (rename_i hS;simp only at hS;subst hS;cases L<;>cases W<;>simp at a1 a2 a3 a4 ⊢ <;>(try and_intros)<;>intros<;>omega)
  | (simp only[cu.Ok,Wd.rest,Bool.or_eq_false_iff,beq_eq_false_iff_ne,ne_eq] at hx;obtain⟨⟨⟨h1,h2⟩,h3⟩,h4⟩:=hx;subst h2 h3 h4;simp at a1 a2 a3 a4 ⊢ <;>(try and_intros)<;>intros<;>omega)
  |skip
end
def cu.Jw:cu->Nat
 | .out k=>7*k
 | .ld k| .l0 k| .r0 k=>7*k+7
 | .sq k _ aw _ _ _| .c1 k _ aw _ _ _| .r1 k aw _ _ _| .c2 k _ aw _ _ _| .r3 k aw _ _ _=>7*k+(if aw then 6 else 7)
 | .t1 k _| .s1 k _=>7*k+5
 | .t2 k _| .r2 k _| .a1 k _=>7*k+6
 | .le k| .la k| .own k| .ui k| .ur k| .ud k| .u0 k=>7*k+5
 | .uc k _| .ux k=>7*k+4
 | .us k=>7*k+3
 | .ue k=>7*k
def cu.kB(w:Wd):cu->Nat
 | .out _=>50
 | .ld _=>22| .l0 _=>21| .r0 _=>20
 | .sq _ o _ _ it _=>3*(4-it)+(if o=w then 6 else 46)
 | .c1 _ o _ _ it _=>3*(4-it)+(if o=w then 5 else 45)
 | .r1 _ _ _ it _=>3*(4-it)+4
 | .c2 _ o _ _ _ _=>if o=w then 1 else 30
 | .r3 .. =>29
 | .t1 .. =>1| .s1 .. =>0| .t2 .. =>24| .r2 .. =>23| .a1 .. =>1
 | .le _=>7| .la _=>6| .own _=>5| .ui _=>4| .ur _=>3| .ud _=>2| .u0 _=>1
 | .uc _ o=>if o=w then 1 else 11
 | .ux _=>10| .us _=>1| .ue _=>60
section
variable {w w':Wd} {m m':Nat} {x x':cu}
theorem Oj{k:Nat}{o:Wd}{aw:Bool}:(Hi k o aw sv it ws).Jw=7*k+(if aw then 6 else 7):=by unfold Hi;split<;>rfl
theorem IJ{k:Nat}{o:Wd}{aw:Bool}:(Hi k o aw sv it ws).kB o<=3*(4-it)+6:=by
 grind [Hi,cu.kB]
def Nx.lt(h:Nx x w m x' w' m')(hx:x.Ok)(IB:∀k,x≠ .out k):x'.Jw+2*m' <x.Jw+2*m\/(w'=w/\m'=m/\x'.Jw<=x.Jw/\x'.kB w <x.kB w):=by
 cases h
 case out=>exact absurd rfl (IB _)
 case ld=>exact .inr ⟨rfl,rfl,bk _,by simp[cu.kB]⟩
 case l0y=>exact .inl (by simp[cu.Jw])
 case l0n=>exact .inr ⟨rfl,rfl,bk _,by simp[cu.kB]⟩
 case r0=>exact .inr ⟨rfl,rfl,by rw[Oj];simp[cu.Jw],FG IJ (by simp only[cu.kB];omega)⟩
 case sqn k o aw sv it ws=>exact .inr ⟨rfl,rfl,bk _,by simp only[cu.kB];split<;>omega⟩
 case sqy k o aw sv it ws hit=>
  refine .inr ⟨rfl,rfl,by split<;>exact bk _,?_⟩;split<;>(simp only[cu.kB];split<;>omega)
 case c1y k aw sv it ws=>exact .inl (by have:=hx.2.2.2.2.1;subst this;simp[cu.Jw])
 case c1n k o aw sv it ws eA=>exact .inr ⟨rfl,rfl,bk _,by simp only[cu.kB];rw[cy (jz eA)];omega⟩
 case r1 k aw sv it ws=>exact .inr ⟨rfl,rfl,by rw[Oj];exact bk _,FG IJ (by have:=hx.2;simp only[cu.kB];omega)⟩
 case c2y k aw sv it ws=>
  refine .inl ?_;split
  .split<;>(simp only[cu.Jw];split<;>omega)
  simp only[cu.Jw];split<;>omega
 case c2n k o aw sv it ws eA=>exact .inr ⟨rfl,rfl,bk _,by simp only[cu.kB];rw[cy (jz eA)];omega⟩
 case r3 k aw sv it ws=>exact .inr ⟨rfl,rfl,by rw[Oj];exact bk _,FG IJ (by simp only[cu.kB];omega)⟩
 case t1=>exact .inr ⟨rfl,rfl,bk _,by simp[cu.kB]⟩
 case s1=>exact .inl (by simp only[cu.Jw];omega)
 case s1s=>exact .inl (by simp only[cu.Jw];omega)
 case t2=>exact .inr ⟨rfl,rfl,bk _,by simp[cu.kB]⟩
 case r2y=>exact .inr ⟨rfl,rfl,bk _,by simp[cu.kB]⟩
 case r2n k sv ws hS=>exact .inr ⟨rfl,rfl,by rw[Oj];exact bk _,FG IJ (by simp only[cu.kB];omega)⟩
 case a1=>exact .inl (by simp[cu.Jw])
 case le=>exact .inr ⟨rfl,rfl,bk _,by simp[cu.kB]⟩
 case la=>exact .inr ⟨rfl,rfl,bk _,by simp[cu.kB]⟩
 case own=>exact .inr ⟨rfl,rfl,bk _,by simp[cu.kB]⟩
 case ui=>exact .inr ⟨rfl,rfl,bk _,by simp[cu.kB]⟩
 case ur=>exact .inr ⟨rfl,rfl,bk _,by simp[cu.kB]⟩
 case ud=>exact .inr ⟨rfl,rfl,bk _,by simp[cu.kB]⟩
 case u0 k=>
  refine .inl ?_;unfold ucL;split
  .simp[cu.Jw]
  split<;>simp[cu.Jw]
 case ucy=>exact .inl (by simp[cu.Jw])
 case ucn k o eA=>exact .inr ⟨rfl,rfl,bk _,by simp only[cu.kB];rw[cy (jz eA)];omega⟩
 case ux k=>
  unfold ucL;split
  .exact .inl (by simp[cu.Jw])
  exact .inr ⟨rfl,rfl,bk _,by simp[cu.kB]⟩
 case us=>exact .inl (by simp only[cu.Jw];omega)
 case ue=>exact .inr ⟨rfl,rfl,bk _,by simp[cu.kB]⟩
def cu.busy:cu->Prop
 | .out _| .s1 .. =>False
 |_=>True
theorem xL(f:α->Nat):∀ {T:List α},(∀x∈T,f x=0)->kL f T=0
 | [],_=>rfl
 |a::T,h=>by
  have:=xL f λx hx=>h x (cb _ hx)
  grind [dQ,kL]
def qL.live{T:List cu}(h:qL T w 0){k:Nat}(hs: .s1 k sv∈T):∃y∈T,y.busy:=by
 refine ia λhn=>?_;have hb:∀y∈T,¬y.busy:=λy hy hb=>hn ⟨y,hy,hb⟩;have z:∀f:cu->Nat,(∀y,¬y.busy->f y=0)->kL f T=0:=λf hf=>xL f λy hy=>hf y (hb y hy);have zH:=z cu.H λy hy=>by cases y<;>first|rfl|exact absurd True.intro hy
 have zU:=z cu.U λy hy=>by cases y<;>first|rfl|exact absurd True.intro hy
 have zA:=z cu.A λy hy=>by cases y<;>first|rfl|exact absurd True.intro hy
 have zG:=z cu.G λy hy=>by cases y<;>first|rfl|exact absurd True.intro hy
 have zB:=z cu.B λy hy=>by cases y<;>first|rfl|exact absurd True.intro hy
 have zX:=z cu.X λy hy=>by cases y<;>first|rfl|exact absurd True.intro hy
 have hQ:=nK cu.Q hs;simp only[cu.Q] at hQ;obtain⟨L,W,S,c⟩:=w;have a1:=h.held;have a2:=h.norm;have a3:=h.star;have a4:=h.aNb;rw[zH] at a1;rw[zU,zG,zB,zA] at a2;rw[zU,zG,zB,zA] at a3;rw[zX] at a4;cases L<;>cases W<;>cases S<;>simp at a1 a2 a3 a4;omega
theorem anf(f g h:α->Nat){T:List α}(hle:∀x,f x+g x+h x<=1):kL f T+kL g T+kL h T<=T.length:=by
 induction T with
 |nil=>simp[kL]
 |cons a T ih=>
  grind [kL,aJ]
def qL.few{T:List cu}(h:qL T w m):w.c<=T.length/\m<=1:=by
 have h1:=anf cu.Q cu.G cu.A (T:=T) λx=>by cases x<;>simp[cu.Q,cu.G,cu.A]
 cases hS:w.S
 .obtain⟨a,b,c⟩:=h.norm hS;have:w.W.toNat<=1:=Bool.toNat_le _;exact⟨by omega,by omega⟩
 obtain⟨a,b,c,d⟩:=h.star hS;exact⟨by omega,by omega⟩
theorem qL.one{T:List cu}(h:qL T w m){x y:cu}(hi:T[i]?=some x) (hj:T[j]?=some y) (hx:x.H=1) (hy:y.H=1):i=j:=by
 refine ia λeA=>?_;have e:=kR cu.H (y:=cu.out 0) hi;have hj':(T.set i (cu.out 0))[j]?=some y:=by grind
 have l:=nK cu.H (aj hj');have:=h.held;have hb:w.L.toNat<=1:=Bool.toNat_le _;rw[show (cu.out 0).H=0 from rfl] at e;omega
theorem qL.start{T:List cu}(h:∀x∈T,∃k,x= .out k):qL T ⟨false,false,false,0⟩ 0:=by
 have z:∀f,(∀k,f (.out k)=0)->kL f T=0:=λf hf=>xL f λy hy=>by grind
 refine⟨by rw[z _ λ_=>rfl];rfl,λ_=>⟨by rw[z _ λ_=>rfl,z _ λ_=>rfl,z _ λ_=>rfl];rfl,by rw[z _ λ_=>rfl,z _ λ_=>rfl],z _ λ_=>rfl⟩,λe=>(by grind),λ_ _ _ e=>absurd rfl e,λx hx=>?_⟩;obtain⟨k,rfl⟩:=h x hx;exact True.intro
end
def oQ(Hb:Nat)(l:Loc):Prop:=∃a,l= .cell a/\a.block=Hb/\a.off=wL
def lD(r:Nat->Option Obj)(b:Nat)(o:Obj):Nat->Option Obj:=λx=>if x=b then some o else r x
theorem lV(r:Nat->Option Obj)(b:Nat)(o:Obj):lD r b o b=some o:=by simp[lD]
theorem nS(r:Nat->Option Obj)(o:Obj)(h:x≠b):lD r b o x=r x:=by grind [lD]
section
variable {L L':Nat->Option Obj} {K:Nat->St} {w w':World} {t:Trace} {i Hb:Nat} {X Y:List (Nat×Obj)} {full:Obj} {hc:Array Value} {ht:TypeId}
theorem Fit.take(h:Fit L K w t)(hL:∀b o,L' b=some o->L b=some o)(hX:∀b o,(b,o)∈X->L b=some o/\L' b=none/\Obj.real o=true/\∀j,¬(K j).knows b)(kT:(X.map (·.1)).Nodup)
 (qX:(K i).ro Hb=some (.pending hc ht))(hr:Obj.real full=true)(hw:w.heap[Hb]?=some full)
 (hk:∀p x,touchAt t p=some x->((∃b o,(b,o)∈X/\blk x.loc=some b)\/oQ Hb x.loc)->Knows t i p):
 Fit L' (gV K i ⟨lD (K i).ro Hb full,X++(K i).rw⟩) w t:=by
 have Gj:∀b,(⟨lD (K i).ro Hb full,X++(K i).rw⟩:St).owns b->(∃o,(b,o)∈X)\/(K i).owns b:=λb ⟨o,ho⟩=>(bJ.1 ho).elim (λh'=> .inl ⟨o,h'⟩) λh'=> .inr ⟨o,h'⟩;have aQ3:∀b,(⟨lD (K i).ro Hb full,X++(K i).rw⟩:St).knows b->(∃o,(b,o)∈X)\/(K i).knows b:=λb hb=>by
  rcases hb with hb|hb
  .by_cases e:b=Hb
   .subst e;exact .inr (.inl (by rw[qX];simp))
   exact .inr (.inl (by simpa [lD,e] using hb))
  exact(Gj b hb).imp id .inr
 have hLn:∀b,L b=none->L' b=none:=λb hb=>by
  cases h':L' b with
  |none=>rfl
  |some o=>rw[hL b o h'] at hb;cases hb
 refine⟨λb o hl=>h.C0 b o (hL b o hl),λj b ho=>?_,λj=>?_,λj k b JE ho hb=>?_,λj b ho p x hx hb=>?_,λj b ho p x hx hb hwr hh=>?_,h.old,h.clean,λp x b hx hkd hb=>?_⟩
 .by_cases e:j=i
  .subst e;rw[aV] at ho;exact(Gj b ho).elim (λ⟨o,h'⟩=>(hX b o h').2.1) λh'=>hLn b (h.mN j b h')
  rw[bz _ _ e] at ho;exact hLn b (h.mN j b ho)
 .by_cases e:j=i
  .subst e;rw[aV];have a:=h.ny j;refine⟨λb o hb=>?_,λb o hb=>(bJ.1 hb).elim (λh'=>h.C0 b o (hX b o h').1) (a.rw b o),λb o hb=>(bJ.1 hb).elim (λh'=>(hX b o h').2.2.1) (a.real b o),?_,λb o hb=>?_⟩
   .by_cases e:b=Hb
    .subst e;simp only[lV,aB] at hb;subst hb;exact .inl ⟨hw,hr⟩
    simp only[nS _ _ e] at hb;exact a.ro b o hb
   .rw[cw,eo];refine⟨kT,a.nodup,?_⟩;rintro b h1 _ h2 rfl;obtain⟨⟨b1,o1⟩,m1,rfl⟩:=a8.1 h1;obtain⟨⟨b2,o2⟩,m2,he⟩:=a8.1 h2;simp only at he;subst he;exact(hX b2 o1 m1).2.2.2 j (.inr ⟨o2,m2⟩)
   rcases bJ.1 hb with h'|h'
   .have hn:=(hX b o h').2.2.2 j;have e:b≠Hb:=λe=>hn (by subst e;exact .inl (by rw[qX];simp));simp only[nS _ _ e];cases qY:(K j).ro b with
    |none=>rfl
    |some y=>exact absurd (.inl (by rw[qY];simp)) hn
   have e:b≠Hb:=λe=>by subst e;have:=a.apart b o h';rw[qX] at this;cases this
   simp only[nS _ _ e];exact a.apart b o h'
  rw[bz _ _ e];exact h.ny j
 .by_cases e:j=i
  .subst e;rw[aV] at ho;rw[bz _ _ (jz JE)] at hb;exact(Gj b ho).elim (λ⟨o,h'⟩=>(hX b o h').2.2.2 k hb) λh'=>h.sep j k b JE h' hb
  rw[bz _ _ e] at ho;by_cases e':k=i
  .subst e';rw[aV] at hb;exact(aQ3 b hb).elim (λ⟨o,h'⟩=>(hX b o h').2.2.2 j (.inr ho)) λh'=>h.sep j k b JE ho h'
  rw[bz _ _ e'] at hb;exact h.sep j k b JE ho hb
 .by_cases e:j=i
  .subst e;rw[aV] at ho;exact(Gj b ho).elim (λ⟨o,h'⟩=>hk p x hx (.inl ⟨b,o,h',hb⟩)) λh'=>h.perm j b h' p x hx hb
  rw[bz _ _ e] at ho;exact h.perm j b ho p x hx hb
 .by_cases e:j=i
  .subst e;rw[aV] at ho hh;by_cases e':oQ Hb x.loc
   .exact hk p x hx (.inr e')
   refine h.sw j b ?_ p x hx hb hwr λ⟨a,c,ty,h1,h2,h3⟩=>?_
   .by_cases e:b=Hb
    .subst e;rw[qX];simp
    simpa [lD,e] using ho
   by_cases e:a.block=Hb
   .exact e' ⟨a,h1,e,h3⟩
   exact hh ⟨a,c,ty,h1,by simp only[nS _ _ e];exact h2,h3⟩
  rw[bz _ _ e] at ho hh;exact h.sw j b ho p x hx hb hwr hh
 refine⟨hLn b (h.sync p x b hx hkd hb).1,λj hj=>?_⟩;have hs:=h.sync p x b hx hkd hb;by_cases e:j=i
 .subst e;rw[aV] at hj;exact(aQ3 b hj).elim (λ⟨o,h'⟩=>by have:=(hX b o h').1;rw[hs.1] at this;cases this) (hs.2 j)
 rw[bz _ _ e] at hj;exact hs.2 j hj
def Fit.give(h:Fit L K w t)(hL:∀b,L' b=L b\/∃o,(b,o)∈X)(hX:∀b o,(b,o)∈X->L' b=some o)(Hj:(K i).rw.Perm (X++Y))
 {c:Array Value}{v:Value}(qX:(K i).ro Hb=some (.cells c ht (0,0)))(Be:wL <c.size)(hht:ht<=NL)(QA:c.size=hc.size)(hce:∀j,j≠wL->c[j]?=hc[j]?) (hLH:L Hb=none)
 (aSv:∀j,j≠i->∀o,(K j).ro Hb=some o->Obj.real o=false)
 (aqb:∀p x,touchAt t p=some x->oQ Hb x.loc->Knows t i p) (fn:FuncId) (pos:String):
 Fit L' (gV K i ⟨lD (K i).ro Hb (.pending hc ht),Y⟩) (w.setCell ⟨Hb,wL,none⟩ v) (t++MemOp.ofEvents i fn pos #[⟨.cell ⟨Hb,wL,none⟩,true,false⟩]):=by
 have hwb:w.heap[Hb]?=some (.cells c ht (0,0)):=((h.ny i).ro Hb _ qX).elim (·.1) λh=>h.elim (λ⟨_,_,_,e,_⟩=>by cases e) λ⟨_,_,e,_⟩=>by cases e
 have hw':(w.setCell ⟨Hb,wL,none⟩ v).heap[Hb]?=some (.cells (c.setIfInBounds wL v) ht (0,0)):=by simp[World.setCell,fI,hwb]
 have hwo:∀b,b≠Hb->(w.setCell ⟨Hb,wL,none⟩ v).heap[b]?=w.heap[b]?:=λb hb=>by simp[World.setCell,fI,jz hb]
 have xP:(w.setCell ⟨Hb,wL,none⟩ v).heap.size=w.heap.size:=by simp[World.setCell]
 have e1:MemOp.ofEvents i fn pos #[⟨.cell ⟨Hb,wL,none⟩,true,false⟩]= #[{g:=i,fn,pos,act:= .access ⟨.cell ⟨Hb,wL,none⟩,true,false⟩}]:=by rw[ofEvents_eq];simp[MemAct.ofEvent]
 rw[e1];have hu:∀op∈(#[{g:=i,fn,pos,act:= .access ⟨.cell ⟨Hb,wL,none⟩,true,false⟩}]:Trace),op.g=i/\op.act= .access ⟨.cell ⟨Hb,wL,none⟩,true,false⟩:=by intro op aX;simp at aX;subst aX;exact⟨rfl,rfl⟩
 generalize (#[{g:=i,fn,pos,act:= .access ⟨.cell ⟨Hb,wL,none⟩,true,false⟩}]:Trace)=u at hu;have htc:∀op∈u,∀x,op.act.touch?=some x->x=⟨.cell ⟨Hb,wL,none⟩,true,.plain⟩:=λop aX x hx=>by
  rw[(hu op aX).2] at hx;simp only[MemAct.touch?,aW,cJ,aB] at hx;exact hx.symm
 have old:∀p x b,touchAt (t++u) p=some x->blk x.loc=some b->b≠Hb->touchAt t p=some x:=λp x b hx hb eA=>by
  rcases cm hx with ⟨_,h'⟩| ⟨_,op,hm,_,vI⟩
  .exact h'
  rw[htc op hm x vI] at hb;exact absurd (aK hb).symm eA
 have kY:∀b,(⟨lD (K i).ro Hb (.pending hc ht),Y⟩:St).knows b->(K i).knows b/\∀o,(b,o)∉X:=λb hb=>by
  have a:=h.ny i;have kT:=(Hj.map (·.1)).nodup_iff.1 a.nodup;rw[cw,eo] at kT;rcases hb with hb| ⟨o,hb⟩
  .have hr:(K i).ro b≠none:=by
    by_cases e:b=Hb
    .subst e;rw[qX];simp
    simpa [lD,e] using hb
   exact⟨.inl hr,λo ho=>hr (a.apart b o (Hj.mem_iff.2 (by simp[ho])))⟩
  exact⟨.inr ⟨o,Hj.mem_iff.2 (by simp[hb])⟩,λo' ho=>kT.2.2 b (a8.2 ⟨_,ho,rfl⟩) b (a8.2 ⟨_,hb,rfl⟩) rfl⟩
 have oY:∀b,(⟨lD (K i).ro Hb (.pending hc ht),Y⟩:St).owns b->(K i).owns b:=λb ⟨o,hb⟩=>⟨o,Hj.mem_iff.2 (by simp[hb])⟩;have neH:∀b,(K i).owns b->b≠Hb:=λb ⟨o,hb⟩ e=>by subst e;have:=(h.ny i).apart b o hb;rw[qX] at this;cases this
 have aPG:∀j b,j≠i->(K j).owns b->b≠Hb:=λj b hj hb e=>by subst e;exact h.sep j i b hj hb (.inl (by rw[qX];simp))
 have jX:∀j b o,j≠i->(K j).knows b->(b,o)∉X:=λj b o hj hb ho=>h.sep i j b (jz hj) ⟨o,Hj.mem_iff.2 (by simp[ho])⟩ hb;have LX:∀b,(∀o,(b,o)∉X)->L' b=L b:=λb hb=>(hL b).resolve_right λ⟨o,ho⟩=>hb o ho;have bfb:LV (.pending hc ht) (w.setCell ⟨Hb,wL,none⟩ v).heap[Hb]?:=by
  refine .inr (.inl ⟨hc,_,ht,rfl,hw',by simp[QA],λj hj=>?_,hht⟩);rw[jZ (jz hj)];exact hce j hj
 refine⟨λb o hl=>?_,λj b ho=>?_,λj=>?_,λj k b JE ho hb=>?_,λj b ho p x hx hb=>?_,λj b ho p x hx hb hwr hh=>?_,λp x b hx hb=>?_,λsaid=>?_,λp x b hx hkd hb=>?_⟩
 .rcases hL b with h1| ⟨o',h1⟩
  .rw[hwo b (λe=>by subst e;rw[h1,hLH] at hl;cases hl)];exact h.C0 b o (h1▸hl)
  have:=hX b o' h1;rw[hl] at this;cases this;have ho:(b,o)∈(K i).rw:=Hj.mem_iff.2 (by simp[h1]);rw[hwo b (neH b ⟨o,ho⟩)];exact(h.ny i).rw b o ho
 .by_cases e:j=i
  .subst e;rw[aV] at ho;rw[LX b (kY b (.inr ho)).2];exact h.mN j b (oY b ho)
  rw[bz _ _ e] at ho;rw[LX b λo=>jX j b o e (.inr ho)];exact h.mN j b ho
 .by_cases e:j=i
  .subst e;rw[aV];have a:=h.ny j;have kT:=(Hj.map (·.1)).nodup_iff.1 a.nodup;rw[cw,eo] at kT;refine⟨λb o hb=>?_,λb o hb=>?_,λb o hb=>a.real b o (Hj.mem_iff.2 (by simp[hb])),kT.2.1,λb o hb=>?_⟩
   .by_cases e:b=Hb
    .subst e;simp only[lV,aB] at hb;subst hb;exact bfb
    simp only[nS _ _ e] at hb;rw[hwo b e];exact a.ro b o hb
   .have ho:(b,o)∈(K j).rw:=Hj.mem_iff.2 (by simp[hb]);rw[hwo b (neH b ⟨o,ho⟩)];exact a.rw b o ho
   have ho:(b,o)∈(K j).rw:=Hj.mem_iff.2 (by simp[hb]);simp only[nS _ _ (neH b ⟨o,ho⟩)];exact a.apart b o ho
  rw[bz _ _ e];have a:=h.ny j;refine⟨λb o hb=>?_,λb o hb=>?_,a.real,a.nodup,a.apart⟩
  .by_cases e':b=Hb
   .subst e';have hf:=aSv j e o hb;rcases a.ro b o hb with h1| ⟨c1,c2,t1,rfl,h2,h3,h4,h5⟩| ⟨_,_,_,h2⟩
    .rw[hf] at h1;cases h1.2
    .rw[hwb] at h2;cases h2;refine .inr (.inl ⟨c1,_,_,rfl,hw',by simpa using h3,λj hj=>?_,h5⟩);rw[jZ (jz hj)];exact h4 j hj
    rw[hwb] at h2;cases h2
   rw[hwo b e'];exact a.ro b o hb
  rw[hwo b (aPG j b e ⟨o,hb⟩)];exact a.rw b o hb
 .by_cases e:j=i
  .subst e;rw[aV] at ho;rw[bz _ _ (jz JE)] at hb;exact h.sep j k b JE (oY b ho) hb
  rw[bz _ _ e] at ho;by_cases e':k=i
  .subst e';rw[aV] at hb;exact h.sep j k b JE ho (kY b hb).1
  rw[bz _ _ e'] at hb;exact h.sep j k b JE ho hb
 .by_cases e:j=i
  .subst e;rw[aV] at ho;exact(h.perm j b (oY b ho) p x (old p x b hx hb (neH b (oY b ho))) hb).app u
  rw[bz _ _ e] at ho;exact(h.perm j b ho p x (old p x b hx hb (aPG j b e ho)) hb).app u
 .rcases cm hx with ⟨_,mO⟩| ⟨hp,op,hm,aX,vI⟩
  .by_cases e:j=i
   .subst e;rw[aV] at ho hh;refine(h.sw j b ?_ p x mO hb hwr λ⟨a,c,ty,h1,h2,h3⟩=>hh ⟨a,?_⟩).app u
    .by_cases e:b=Hb
     .subst e;rw[qX];simp
     simpa [lD,e] using ho
    by_cases e:a.block=Hb
    .exact⟨hc,ht,h1,by rw[e];exact lV _ _ _,h3⟩
    exact⟨c,ty,h1,by simp only[nS _ _ e];exact h2,h3⟩
   rw[bz _ _ e] at ho hh;exact(h.sw j b ho p x mO hb hwr hh).app u
  obtain rfl:=htc op hm x vI;cases hb;by_cases e:j=i
  .subst e;rw[aV] at hh;exact absurd ⟨_,hc,ht,rfl,lV _ _ _,rfl⟩ hh
  rw[bz _ _ e] at ho hh;cases hr:(K j).ro Hb with
  |none=>exact absurd hr ho
  |some o=>
   have hf:=aSv j e o hr;cases o with
   |pending c1 t1=>exact absurd ⟨_,_,_,rfl,hr,rfl⟩ hh
   |_=>cases hf
 .rcases cm hx with ⟨_,h'⟩| ⟨_,op,hm,_,vI⟩
  .rw[xP];exact h.old p x b h' hb
  obtain rfl:=htc op hm x vI;cases hb;rw[xP];exact lt_size hwb
 .refine noRace_append (h.clean said) (λop aX=>(hu op aX).1) λp a ha op hm b hb hcf=>?_;obtain rfl:=htc op hm b hb;exact aqb p a ha ⟨_,hcf.1,rfl,rfl⟩
 rcases cm hx with ⟨_,mO⟩| ⟨_,op,hm,_,vI⟩
 .have hs:=h.sync p x b mO hkd hb;have hbX:∀o,(b,o)∉X:=λo ho=>hs.2 i (.inr ⟨o,Hj.mem_iff.2 (by simp[ho])⟩);refine⟨by rw[LX b hbX];exact hs.1,λj hj=>?_⟩;by_cases e:j=i
  .subst e;rw[aV] at hj;exact hs.2 j (kY b hj).1
  rw[bz _ _ e] at hj;exact hs.2 j hj
 obtain rfl:=htc op hm x vI;exact absurd rfl hkd
end
def MuAt(tm:TypeId)(Mu:Nat)(w:World)(st sm:Int):Prop:=w.heap[Mu]?=some (.cells #[.int .i32 st,.int .u32 sm] tm)
def qx(tm:TypeId)(Mu:Nat)(w:World):Prop:=∃st sm,MuAt tm Mu w st sm
def mQ(w w':World):Prop:=OsLater w.os w'.os/\w'.output=w.output
structure EP(tm:TypeId)(Mu:Nat)(w w':World)(o':Wd)(m':Nat):Prop where
 size:w'.heap.size=w.heap.size
 block:∀b,b≠Mu->w'.heap[b]?=w.heap[b]?
 later:mQ w w'
 now:MuAt tm Mu w' o'.enc m'
def cu.deaf:cu->Nat
 | .out _| .ld _| .la _| .own _| .ui _| .ur _| .ud _=>0
 |_=>1
def cu.mid:cu->Bool
 | .out _| .own _| .la _| .ue _=>false
 |_=>true
def cu.isL:cu->Bool
 | .out _| .own _| .ui _| .ur _| .ud _| .u0 _| .uc .. | .ux _| .us _| .ue _=>false
 |_=>true
def cu.isU:cu->Bool
 | .ui _| .ur _| .ud _| .u0 _| .uc .. | .ux _| .us _| .ue _=>true
 |_=>false
def cu.k:cu->Nat
 | .out k| .ld k| .l0 k| .r0 k| .sq k .. | .c1 k .. | .r1 k .. | .c2 k .. | .r3 k .. | .t1 k _| .s1 k _| .t2 k _| .r2 k _| .a1 k _| .le k| .la k| .own k| .ui k| .ur k| .ud k| .u0 k| .uc k _| .ux k| .us k| .ue k=>k
def cu.Gl:cu->Bool
 | .s1 .. =>true
 |_=>false
def p9:cu->Wd->Prop
 | .r1 _ aw sv _ _,o| .r3 _ aw sv _ _,o=>aw=true->o.W=true/\o.S=false
 | .r2 _ _,o=>(o.S=true->o.L=false/\o.W=false/\1<=o.c)/\(o.S=false->o.W=true)
 | .a1 _ _,o=>o.S=true/\o.L=false/\o.W=false/\1<=o.c
 | .u0 _,o=>o.L=true
 |_,_=>True
def u3(Mu:Nat)(e:Event):Prop:=e=said .disable\/e=said .enable\/e=said (.releaseMerge (stA Mu))\/e=said (.acquire (stA Mu))\/∃a x,e=⟨.cell a,x,true⟩/\a.block=Mu
structure ES(P:Program)(tm:TypeId)(mx:Nat) where
 At:Nat->cu->List Frame->Goroutine->Prop
 running:∀ {Mu x cs g},At Mu x cs g->g.status= .running/\g.offers=none
 step:∀ {Mu x cs g w o m},At Mu x cs g->MuAt tm Mu w (Wd.enc o) (m:Nat)->o.c<=mx->m<=1->x.Ok->p9 x o->x.mid=true->(x.Gl=true->m=1)->
  ∃g' w' es x' o' m',Nx x o m x' o' m'/\stepG P false g w= .go g' w' es/\EP tm Mu w w' o' m'/\(∀e∈es,u3 Mu e)/\deafBehind x.deaf es=x'.deaf/\
   (∀k,x= .ur k->es= #[said (.releaseMerge (stA Mu))])/\((∃k,x= .us k)->mayWake P g=true)/\∃n,Pure P false (qx tm Mu) (At Mu x' cs) n g'
 block:∀ {Mu k sv cs g w o},At Mu (.s1 k sv) cs g->MuAt tm Mu w (Wd.enc o) 0->stepG P false g w= .go {g with status:= .blocked} w #[]
 la:∀ {Mu k c cs g},At Mu (.la k) (c::cs) g->∃g',(∀w,stepG P false g w= .go g' w #[said (.acquire (stA Mu))])/\∃n,Pure P false (λ_=>True) (· =G (c.finish (.tuple #[])) cs) n g'
 ue:∀ {Mu k c cs g},At Mu (.ue k) (c::cs) g->c.mode= .returning->∃g',(∀w,stepG P false g w= .go g' w #[said .enable])/\∃n,Pure P false (λ_=>True) (· =G c cs) n g'
structure fY(ι:Type) where
 P:Program
 ty:TypeId
 tm:TypeId
 Wg:Nat
 Mu:Nat
 Hb:Nat
 max:Nat
 mxl:Nat
 hc:Array Value
 ht:TypeId
 os:Os
 out:Array (Nat×ByteArray)
 Gd:List ι->Value->List (Nat×Obj)->Prop
 M:ES P tm max
 hht:ht<=NL
section
variable {ι:Type} (E:fY ι)
def fY.oO:iZ Unit:=⟨E.P,E.ty,E.Wg,0,E.max,undef,E.os,E.out,λ_ _ _=>False⟩
def fY.full(v:Value):Obj:= .cells (E.hc.setIfInBounds wL v) E.ht (0,0)
def fY.hole:Obj:= .pending E.hc E.ht
abbrev fY.pu(Stop:Goroutine->Prop)(n:Nat)(g:Goroutine):Prop:=Pure E.P false (qx E.tm E.Mu) Stop n g
def RN(l1:List ι)(s:St)(w:World)(s':St)(w':World)(es:Array Event):Prop:=∃v X Y c,s.ro E.Hb=some (.cells c E.ht (0,0))/\wL <c.size/\c.size=E.hc.size/\(∀j,j≠wL->c[j]?=E.hc[j]?)/\
 s.rw.Perm (X++Y)/\E.Gd l1 v X/\w'=w.setCell ⟨E.Hb,wL,none⟩ v/\es= #[⟨.cell ⟨E.Hb,wL,none⟩,true,false⟩]/\s'.le ⟨lD s.ro E.Hb E.hole,Y⟩
def tJ(l1:List ι)(Stop:Goroutine->St->Prop):Tree->Goroutine->St->Prop
 | .leaf,g,s=>Stop g s
 | .node f,g,s=>g.status= .running/\∀w,dh s w->∃g' w' es s',stepG E.P false g w= .go g' w' es/\g'.status= .running/\(Trans s w s' w' es\/RN E l1 s w s' w' es)/\tJ l1 Stop (f w) g' s'
def rI(l1:List ι)(Stop:Goroutine->St->Prop)(g:Goroutine)(s:St):Prop:=∃tr ig,ig.le s/\tJ E l1 Stop tr g ig
def fY.Unl(Next:Goroutine->St->Prop)(k:Nat)(g:Goroutine)(s:St):Prop:=s.ro E.Hb=some E.hole/\∃c cs n,E.pu (E.M.At E.Mu (.ui k) (c::cs)) n g/\c.mode= .returning/\gx E.P false Next (G c cs) s
def fY.aWD(Next:Goroutine->St->Prop)(o:ι)(k:Nat)(c:Frame)(cs:List Frame)(s:St):Prop:=
 s.ro E.Hb=some E.hole/\∀l v X,E.Gd l v X->l.length <E.mxl->rI E (l++[o]) (E.Unl Next k) (G (c.finish (.tuple #[])) cs) ⟨lD s.ro E.Hb (E.full v),X++s.rw⟩
def fY.Lck(Next:Goroutine->St->Prop)(o:ι)(k:Nat)(g:Goroutine)(s:St):Prop:=∃c cs n,E.pu (E.M.At E.Mu (.ld k) (c::cs)) n g/\E.aWD Next o k c cs s
def fY.Stp(E:fY ι):List ι->Goroutine->St->Prop
 | [],g,_=>E.oO.pure false E.oO.R0 g
 |o::os,g,s=>E.Lck (E.Stp os) o os.length g s
inductive aP(ι:Type) where
 |leave (q d:Nat) (cur:Bool)
 |work (os:List ι) (tr:Tree)
 |lk (x:cu) (n:Nat) (o:ι) (os:List ι)
 |xC (o:ι) (os l:List ι) (tr:Tree)
 |post (os:List ι) (tr:Tree)
 |ul (x:cu) (n:Nat) (os:List ι)
 |st (k:WK) (n:Nat)
def aP.qR:aP ι->cu
 | .leave .. | .st .. => .out 0
 | .work os _=> .out os.length
 | .lk x .. =>x
 | .xC _ os _ _| .post os _=> .own os.length
 | .ul x _ _=>x
def aP.A4:aP ι->List ι
 | .leave .. | .st .. =>[]
 | .work os _| .post os _| .ul _ _ os=>os
 | .lk _ _ o os| .xC o os _ _=>o::os
def aP.cnt:aP ι->Nat
 | .leave .. =>0
 | .st .r0 _| .st .k1 _| .st .d1 _=>1
 | .st .. =>0
 |_=>1
def aP.c4:aP ι->Nat
 | .st .d2 _=>1
 |_=>0
def aP.c3:aP ι->Nat
 | .st .d3 _=>1
 |_=>0
def aP.c2:aP ι->Nat
 | .st .d4 _=>1
 |_=>0
def aP.left:aP ι->Bool
 | .leave .. =>true
 |_=>false
def aP.tok:aP ι->Bool
 | .post .. | .ul (.ui _) _ _| .ul (.ur _) _ _=>true
 |_=>false
def aP.iN:aP ι->Bool
 | .xC .. =>true
 |_=>false
def Cq(Hb:Nat)(t:Trace)(i:Nat):Prop:=∀p x,touchAt t p=some x->oQ Hb x.loc->Knows t i p
def ki(t:Trace)(i:Nat)(s:St)(g:Goroutine):aP ι->Prop
 | .leave q d cur=>s=⟨λ_=>none,[]⟩/\QuitsD E.P q d g/\Deaf t i=d/\(cur=true->∃r,ConcN.RelBy (stA E.Wg) t i r)/\(cur=false->fW t i)
 | .work os tr=>Deaf t i=0/\qw E.P false (E.Stp os) tr g s
 | .lk x n o os=>x.isL=true/\x.k=os.length/\Deaf t i=x.deaf/\∃c cs,E.aWD (E.Stp os) o os.length c cs s/\
  (E.pu (E.M.At E.Mu x (c::cs)) n g\/(n=0/\x.Gl=true/\∃lu,E.M.At E.Mu x (c::cs) lu/\g={lu with status:= .blocked}))
 | .xC o os l tr=>Deaf t i=0/\Cq E.Hb t i/\(∀x,s.ro E.Hb=some x->Obj.real x=true)/\tJ E (l++[o]) (E.Unl (E.Stp os) os.length) tr g s
 | .post os tr=>Deaf t i=0/\∃l1,tJ E l1 (E.Unl (E.Stp os) os.length) tr g s
 | .ul x n os=>x.isU=true/\x.k=os.length/\Deaf t i=x.deaf/\∃c cs,E.pu (E.M.At E.Mu x (c::cs)) n g/\c.mode= .returning/\gx E.P false (E.Stp os) (G c cs) s
 | .st k n=>s=⟨λ_=>none,[]⟩/\Deaf t i=k.deaf/\Pure E.P false E.oO.live (k.stop E.oO) n g/\(k.said=true->∃r,ConcN.RelBy (stA E.Wg) t i r)
section
variable (Fin:Goroutine->Prop)
abbrev fY.pw(Stop:Goroutine->Prop)(g:Goroutine):Prop:=E.oO.pure true Stop g
def fY.Aq(g:Goroutine):Prop:=g.status= .running/\∃g',(∀w,stepG E.P true g w= .go g' w #[said (.acquire (stA E.Wg))])/\Fin g'
def fY.Ke(g:Goroutine):Prop:=g.status= .running/\∃g',(∀w,stepG E.P true g w= .go g' w #[said .enable])/\E.pw (E.Aq Fin) g'
def fY.W4(g:Goroutine):Prop:=g.status= .running/\∃g',(∀w,WgAt E.ty E.Wg w 0 0->stepG E.P true g w= .go g' w #[rd (stA E.Wg)])/\E.pw (E.Ke Fin) g'
def fY.W3(g:Goroutine):Prop:=g.status= .running/\g.offers=none/\(∀w st,WgAt E.ty E.Wg w st 0->stepG E.P true g w= .go {g with status:= .blocked} w #[])/\
 ∃g',(∀w,WgAt E.ty E.Wg w 0 1->stepG E.P true g w= .go g' (w.setCell (smA E.Wg) (.int .u32 0)) (semEvents (smA E.Wg)))/\E.pw (E.W4 Fin) g'
def fY.Wr(g:Goroutine):Prop:=g.status= .running/\∃g',(∀w,stepG E.P true g w= .go g' w #[said (.write (smA E.Wg))])/\E.pw (E.W3 Fin) g'
def fY.W2(RG:Goroutine->Prop)(vs:Nat)(g:Goroutine):Prop:=g.status= .running/\
 (∃g',(∀w,WgAt E.ty E.Wg w ((vs:Int)*KK) 0->stepG E.P true g w= .go g' (w.setCell (stA E.Wg) (.int .u64 ((vs:Int)*KK+1))) #[rd (stA E.Wg),wr (stA E.Wg)])/\E.pw (E.Wr Fin) g')/\
 ∀v:Nat,v <vs->∃g',(∀w,WgAt E.ty E.Wg w ((v:Int)*KK) 0->stepG E.P true g w= .go g' w #[rd (stA E.Wg)])/\RG g'
def fY.W1(E:fY ι)(Fin:Goroutine->Prop):Nat->Goroutine->Prop
 |0,g=>g.status= .running/\∃g',(∀w,WgAt E.ty E.Wg w 0 0->stepG E.P true g w= .go g' w #[rd (stA E.Wg)])/\E.pw (E.Ke Fin) g'
 |b+1,g=>g.status= .running/\(∃g',(∀w,WgAt E.ty E.Wg w 0 0->stepG E.P true g w= .go g' w #[rd (stA E.Wg)])/\E.pw (E.Ke Fin) g')/\
  ∀v,1<=v->v<=b+1->∃g',(∀w,WgAt E.ty E.Wg w ((v:Int)*KK) 0->stepG E.P true g w= .go g' w #[rd (stA E.Wg)])/\E.pw (E.W2 Fin (E.pw (E.W1 Fin b)) v) g'
def fY.Kd(g:Goroutine):Prop:=g.status= .running/\∃g',(∀w,stepG E.P true g w= .go g' w #[said .disable])/\E.pw (E.W1 Fin E.max) g'
abbrev fY.pm(Stop:Goroutine->Prop)(n:Nat)(g:Goroutine):Prop:=Pure E.P true E.oO.live Stop n g
def fY.mat(g:Goroutine)(n:Nat):CK->Prop
 | .kd=>E.pm (E.Kd Fin) n g
 | .w1 b=>E.pm (E.W1 Fin b) n g
 | .w2 b vs=>E.pm (E.W2 Fin (E.pw (E.W1 Fin b)) vs) n g
 | .wr=>E.pm (E.Wr Fin) n g
 | .w3=>∃m,n=m+1/\E.pm (E.W3 Fin) m g
 | .blk=>n=0/\∃lu,E.W3 Fin lu/\g={lu with status:= .blocked}
 | .w4=>E.pm (E.W4 Fin) n g
 | .ke=>E.pm (E.Ke Fin) n g
 | .aq=>E.pm (E.Aq Fin) n g
 | .run _=>False
end
end
section
variable {ι:Type} {E:fY ι}
def Mp(l1:List ι)(Stop:Goroutine->St->Prop){g:Goroutine}{s:St}(hs:g.status= .running)
 (h:∀w,dh s w->∃g' w' es s',stepG E.P false g w= .go g' w' es/\g'.status= .running/\(Trans s w s' w' es\/RN E l1 s w s' w' es)/\rI E l1 Stop g' s'):rI E l1 Stop g s:=by
 have key:∀w,∃tr,dh s w->∃g' w' es s',stepG E.P false g w= .go g' w' es/\g'.status= .running/\(Trans s w s' w' es\/RN E l1 s w s' w' es)/\tJ E l1 Stop tr g' s':=λw=>by
  by_cases ha:dh s w
  .obtain⟨g',w',es,s',h1,h2,h3,tr,ig,hl,h4⟩:=h w ha;refine⟨tr,λ_=>⟨g',w',es,ig,h1,h2,?_,h4⟩⟩;rcases h3 with h3| ⟨v,X,Y,c,k1,k2,k3,k4,k5,k6,k7,k8,k9⟩
   .exact .inl (h3.le hl)
   exact .inr ⟨v,X,Y,c,k1,k2,k3,k4,k5,k6,k7,k8,hl.trans k9⟩
  exact⟨.leaf,λwo=>absurd wo ha⟩
 exact⟨.node λw=>(key w).choose,s,St.le_refl s,hs,λw ha=>(key w).choose_spec ha⟩
def sZ(l1:List ι)(Stop:Goroutine->St->Prop):Closed E.P false (rI E l1 Stop) where
 step:=λg s hs h=>Mp l1 _ hs λw ha=>let ⟨g',w',es,s',h1,h2,h3,h4⟩:=h w ha;⟨g',w',es,s',h1,h2,.inl h3,h4⟩
 mono:=λg s s' hl ⟨tr,ig,h,ht⟩=>⟨tr,ig,h.trans hl,ht⟩
def rI.stop{l1:List ι}{g:Goroutine}{s:St}(h:Stop g s):rI E l1 Stop g s:=⟨.leaf,s,St.le_refl s,h⟩
theorem tJ.running{l1:List ι}(hS:∀g s,Stop g s->g.status= .running):∀ {tr:Tree} {g:Goroutine} {s:St},tJ E l1 Stop tr g s->g.status= .running
 | .leaf,_,_,h=>hS _ _ h
 | .node _,_,_,h=>h.1
end
section
variable {ι:Type} {E:fY ι} {t u:Trace} {i j:Nat} {s:St} {g:Goroutine}
theorem fY.pu.running{x:cu}(h:E.pu (E.M.At E.Mu x cs) n g):g.status= .running:=Pure.running (λ_ y=>(E.M.running y).1) h
theorem fY.Stp.running:∀ {os:List ι},E.Stp os g s->g.status= .running
 | [],h=>iZ.pure.running (λ_ y=>y.1) h
 |_::_,⟨_,_,_,h,_⟩=>fY.pu.running h
theorem fY.Unl.running{Next:Goroutine->St->Prop}{k:Nat}(h:E.Unl Next k g s):g.status= .running:=by
 obtain⟨_,_,_,_,h,_⟩:=h;exact fY.pu.running h
theorem Cq.app{Hb:Nat}(h:Cq Hb t i)(hu:∀op∈u,op.g=i\/∀x,op.act.touch?=some x->¬oQ Hb x.loc):Cq Hb (t++u) i:=λp x hx hh=>by
 rcases cm hx with ⟨_,h'⟩| ⟨_,op,hm,ho,vI⟩
 .exact(h p x h' hh).app u
 grind [knows_own,absurd]
def ki.other{r:aP ι}(h:ki E t j s g r)(hu:∀op∈u,op.g≠j)(hh:r.iN=true->∀op∈u,∀x,op.act.touch?=some x->¬oQ E.Hb x.loc):ki E (t++u) j s g r:=by
 have hd:=jq t u hu;cases r with
 |leave q d cur=>exact⟨h.1,h.2.1,by rw[hd];exact h.2.2.1,λhc=>let ⟨r,hr⟩:=h.2.2.2.1 hc;⟨r,RelBy.other hr hu⟩,λhc=>(h.2.2.2.2 hc).other hu⟩
 |work o tr=>exact⟨by rw[hd];exact h.1,h.2⟩
 |lk x n o os=>exact⟨h.1,h.2.1,by rw[hd];exact h.2.2.1,h.2.2.2⟩
 |xC o os l tr=>exact⟨by rw[hd];exact h.1,h.2.1.app λop aX=> .inr (hh rfl op aX),h.2.2⟩
 |post os tr=>exact⟨by rw[hd];exact h.1,h.2⟩
 |ul x n os=>exact⟨h.1,h.2.1,by rw[hd];exact h.2.2.1,h.2.2.2⟩
 |st k n=>exact⟨h.1,by rw[hd];exact h.2.1,h.2.2.1,λhc=>let ⟨r,hr⟩:=h.2.2.2 hc;⟨r,RelBy.other hr hu⟩⟩
theorem ki.running{r:aP ι}(h:ki E t j s g r):(g.status= .running\/g.status= .finished)\/(∃x o os,r= .lk x 0 o os/\x.Gl=true/\∃lu c cs,E.M.At E.Mu x (c::cs) lu/\g={lu with status:= .blocked}):=by
 cases r with
 |leave q d cur=>exact .inl h.2.1.status
 |work o tr=>exact .inl (.inl (qw.running (λ_ _ x=>fY.Stp.running x) h.2))
 |lk x n o os=>
  obtain⟨_,_,_,c,cs,_,h1| ⟨rfl,h2,lu,h3,h4⟩⟩:=h
  .exact .inl (.inl (fY.pu.running h1))
  grind
 |xC o os l tr=>exact .inl (.inl (tJ.running (λ_ _ x=>fY.Unl.running x) h.2.2.2))
 |post os tr=>obtain⟨_,_,h⟩:=h;exact .inl (.inl (tJ.running (λ_ _ x=>fY.Unl.running x) h))
 |ul x n os=>
  obtain⟨_,_,_,c,cs,h1,_⟩:=h;exact .inl (.inl (fY.pu.running h1))
 |st k n=>exact .inl (.inl (Pure.running (WK.running k) h.2.2.1))
theorem again_blocked{lu:Goroutine}(h1:lu.status= .running)(h2:lu.offers=none)(w:World):({lu with status:= .blocked}:Goroutine).again w=lu:=by
 obtain⟨f,cs,stt,dy,of⟩:=lu
 grind [Goroutine.again]
theorem ki.woken{r:aP ι}(h:ki E t j s g r)(a a':Goroutine)(w':World):ki E t j s (woken E.P a a' w' g) r:=by
 rcases h.running with hs| ⟨x,o,os,rfl,hx,lu,_,_,aID,hg0⟩
 .have:Go.Conc.woken E.P a a' w' g=g:=by
   unfold Go.Conc.woken;split
   .exact again_running _ hs
   rfl
  rw[this];exact h
 obtain⟨h1,h2,h3,c,cs,h4,h5⟩:=h;refine⟨h1,h2,h3,c,cs,h4,?_⟩;rcases h5 with h5| ⟨_,_,dq,eB,hg⟩
 .have hs:=fY.pu.running h5
  grind
 obtain⟨e1,e2⟩:=E.M.running eB;unfold Go.Conc.woken;split
 .rw[hg,again_blocked e1 e2];exact .inl eB
 exact .inr ⟨rfl,hx,dq,eB,hg⟩
theorem HS{P:Program}{a a':Goroutine}(h1:mayWake P a=true)(h2:a'.status= .running\/a'.status= .finished){r:aP ι}(h:ki E t j s g r):(Go.Conc.woken P a a' w' g).status≠ .blocked:=by
 have hc:(mayWake P a&&a'.status != .blocked&&a'.status != .waiting)=true:=by rcases h2 with h2|h2<;>simp[h1,h2]
 have e:Go.Conc.woken P a a' w' g=g.again w':=by unfold Go.Conc.woken;rw[dN hc]
 rw[e];rcases h.running with hs| ⟨x,o,os,rfl,hx,lu,_,_,aID,hg0⟩
 .grind [again_running]
 obtain⟨e1,e2⟩:=E.M.running aID;rw[hg0,again_blocked e1 e2,e1];simp
def mQ.refl(w:World):mQ w w:=⟨OsLater.refl _,rfl⟩
def mQ.Z0{s:St}{w:World}{es:Array Event}(h:Trans s w s' w' es):mQ w w':=⟨by rw[h.os];exact OsLater.refl _,h.output⟩
structure n8(E:fY ι)(L:Nat->Option Obj)(K:Nat->St)(gs:Array Goroutine)(w:World)(t:Trace)(D:List (aP ι)):Prop where
 fit:Fit L K w t
 size:gs.size=D.length+1
 ok:∀i r,D[i]?=some r->∃g,gs[i+1]?=some g/\ki E t (i+1) (K (i+1)) g r
 far:∀i,gs.size<=i->∀b,¬(K i).knows b
 ops:∀op∈t,op.g <gs.size
 same:OsLater E.os w.os/\w.output=E.out
theorem n8.step{L L':Nat->Option Obj}{K:Nat->St}{w:World}{D:List (aP ι)}(h:n8 E L K gs w t D){r':aP ι}(hi:i <D.length) 
 (hu:∀op∈u,op.g=i+1)(Gm:mQ w w')(ov:Fit L' (gV K (i+1) s') w' (t++u))(hr:ki E (t++u) (i+1) s' g' r')
 (hh:∀k r,k≠i->D[k]?=some r->r.iN=true->∀op∈u,∀x,op.act.touch?=some x->¬oQ E.Hb x.loc):
 n8 E L' (gV K (i+1) s') ((gs.map (woken E.P g g' w')).setIfInBounds (i+1) g') w' (t++u) (D.set i r'):=by
 refine⟨ov,by simp[h.size],λk r hk=>?_,λk hk=>?_,λop aX=>?_,⟨h.same.1.trans Gm.1,Gm.2.trans h.same.2⟩⟩
 .by_cases e:k=i
  .subst e;have qY:r=r':=by simpa [List.getElem?_set,hi] using hk.symm
   subst qY;exact⟨g',by simp[h.size,hi],by rw[aV];exact hr⟩
  rw[List.getElem?_set_ne (jz e)] at hk;obtain⟨x,hx,dL⟩:=h.ok k r hk;have eA:k+1≠i+1:=by omega
  rw[bz K s' eA];exact⟨_,iA eA hx,(dL.other (u:=u) (λop aX=>by rw[hu op aX];omega) (hh k r e hk)).woken _ _ _⟩
 .rw[jC,Mj] at hk;rw[bz K s' (by have:=h.size;omega)];exact h.far k hk
 rw[jC,Mj];rcases oU.1 aX with h'|h'
 .exact h.ops op h'
 rw[hu op h',h.size];omega
abbrev e8(f:aP ι->Nat)(D:List (aP ι)):Nat:=kL f D
def jW(D:List (aP ι)):List ι:=D.flatMap aP.A4
abbrev yI:=Option (CK×Nat)
inductive Ni:yI->yI->Prop
 |same (c:yI):Ni c c
 |up:Ni (some (.blk,0)) (some (.w3,1))
theorem Md.MU{a c:Nat}{cl cl':yI}(h:Md mx n a b c (cl.map (·.1)) st sm)(hw:Ni cl cl'):Md mx n a b c (cl'.map (·.1)) st sm:=by
 cases hw with
 |same=>grind
 |up=>
  cases h with
  |reg _ h2=>exact .reg trivial h2
  |l4 _=>exact .l4 trivial
  |l3 _=>exact .l3 trivial
  |l2 _=>exact .l2 trivial
  |sema _ h2=>grind
  |over h1=>exact h1.elim
variable (E) in
def rC(Fin:Goroutine->Prop)(main:Goroutine)(d0:Nat):yI->Prop
 |none=>main.status= .running
 |some (c,n)=>E.mat Fin main n c/\d0=c.deaf
variable {Fin:Goroutine->Prop}
theorem fY.mat.running:∀ {c:CK},E.mat Fin g n c->c≠ .blk->g.status= .running
 | .kd,h,_=>Pure.running (λ_ x=>x.1) h
 | .w1 b,h,_=>Pure.running (λ_ x=>by cases b<;>exact x.1) h
 | .w2 _ _,h,_=>Pure.running (λ_ x=>x.1) h
 | .wr,h,_=>Pure.running (λ_ x=>x.1) h
 | .w3,⟨_,_,h⟩,_=>Pure.running (λ_ x=>x.1) h
 | .blk,_,h=>absurd rfl h
 | .w4,h,_=>Pure.running (λ_ x=>x.1) h
 | .ke,h,_=>Pure.running (λ_ x=>x.1) h
 | .aq,h,_=>Pure.running (λ_ x=>x.1) h
 | .run _,h,_=>h.elim
def rC.tries{main:Goroutine}{d0:Nat}{cl:yI}(h:rC E Fin main d0 cl)(a a':Goroutine)(w':World):
 ∃cl',Ni cl cl'/\rC E Fin (woken E.P a a' w' main) d0 cl'/\(mayWake E.P a=true->(a'.status= .running\/a'.status= .finished)->cl'.map (·.1)≠some .blk)/\(main.status= .running->woken E.P a a' w' main=main)/\(cl=none↔cl'=none):=by
 have dz:main.status= .running->woken E.P a a' w' main=main:=λhs=>by
  unfold Go.Conc.woken;split
  .exact again_running _ (.inl hs)
  rfl
 match cl,h with
 |none,h=>exact⟨none,.same _,by show (Go.Conc.woken _ _ _ _ _).status=_;rw[dz h];exact h,by simp,dz,Iff.rfl⟩
 |some (c,n),⟨h,hd⟩=>
  by_cases hb:c= .blk
  .subst hb;obtain⟨rfl,lu,hg,rfl⟩:=h;by_cases hw:(mayWake E.P a&&a'.status != .blocked&&a'.status != .waiting)=true
   .refine⟨some (.w3,1),.up,⟨⟨0,rfl,?_⟩,hd⟩,by simp,dz,by simp⟩;have:Go.Conc.woken E.P a a' w' {lu with status:= .blocked}=lu:=by
     unfold Go.Conc.woken;rw[dN hw];exact again_blocked hg.1 hg.2.1 w'
    rw[this];exact hg
   refine⟨some (.blk,0),.same _,⟨⟨rfl,lu,hg,by simp[Go.Conc.woken,hw]⟩,hd⟩,λh1 h2=>absurd ?_ hw,dz,by simp⟩;rcases h2 with h2|h2<;>simp[h1,h2]
  refine⟨some (c,n),.same _,⟨?_,hd⟩,λ_ _=>by simpa using hb,dz,by simp⟩;rw[dz (fY.mat.running h hb)];exact h
def aP.mu(w:Wd):aP ι->Nat×Tree×Nat
 | .leave q _ _=>(0,.leaf,q)
 | .st k n=>(k.kB,.leaf,n)
 | .work _ tr=>(105,tr,0)
 | .lk x n _ _| .ul x n _=>(2*x.kB w+7,.leaf,n)
 | .xC _ _ _ tr=>(18,tr,0)
 | .post _ tr=>(17,tr,0)
def tN(w:Wd)(a b:aP ι):Prop:=Df (a.mu w) (b.mu w)
def tN.wf(w:Wd):WellFounded (tN (ι:=ι) w):=InvImage.wf _ Df.wf
structure GM(ι:Type) where
 D:List (aP ι)
 o:Wd
 m:Nat
 c:Nat×Tree×Nat
 r:Nat
def Ek(D:List (aP ι))(m:Nat):Nat:=kL cu.Jw (D.map aP.qR)+2*m
def GM.P(a:GM ι):Nat:=Ek a.D a.m
inductive CM:GM ι->GM ι->Prop
 |p {a b:GM ι}:a.P <b.P->CM a b
 |d {a b:GM ι}:a.P<=b.P->a.o=b.o->One (tN a.o) a.D b.D->CM a b
 |c {a b:GM ι}:a.P<=b.P->a.o=b.o->a.D=b.D->Df a.c b.c->CM a b
 |r {a b:GM ι}:a.P<=b.P->a.o=b.o->a.D=b.D->a.c=b.c->a.r <b.r->CM a b
theorem CM.wf:WellFounded (CM (ι:=ι)):=by
 refine⟨λa=>?_⟩;generalize hP:a.P=P
 induction P using Nat.strongRecOn generalizing a with
 |_ P ih=>
  obtain⟨D,o,m,c,r⟩:=a;have key:∀D,∀c,∀r,∀m,(GM.mk D o m c r).P<=P->Acc CM (GM.mk (ι:=ι) D o m c r):=by
   intro D
   induction D using (One.wf (tN.wf o)).induction with
   |_ D ihD=>
    intro c
    induction c using Df.wf.induction with
    |_ c ihc=>
     intro r
     induction r using Nat.strongRecOn with
     |_ r ihr=>
      intro m hle;refine⟨_,λy hy=>?_⟩;obtain⟨D',o',m',c',r'⟩:=y;cases hy with
      |p h=>exact ih _ (by omega) _ rfl
      |d h1 h2 h3=>simp only at h2 h3;subst h2;exact ihD D' h3 c' r' m' (by omega)
      |c h1 h2 h3 h4=>simp only at h2 h3 h4;subst h2 h3;exact ihc c' h4 r' m' (by omega)
      |r h1 h2 h3 h4 h5=>grind
  exact key D c r m (by omega)
def mb(mx:Nat):yI->Nat×Tree×Nat
 |none=>(0,.leaf,0)
 |some (c,n)=>(c.phi mx,c.tree,n)
def runN(gs:Array Goroutine):Nat:=kL (λg=>if g.status= .running then 1 else 0) gs.toList
end
end Go.L
