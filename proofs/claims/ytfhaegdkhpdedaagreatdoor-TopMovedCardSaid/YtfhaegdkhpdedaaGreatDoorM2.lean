/- Part 2 of the proof. -/
import Derived.Test.YtfhaegdkhpdedaaGreatDoorM1
import Derived.Conc.CrowdBase
import Derived.Conc.CrowdComm
import Derived.Conc.CrowdStepC
import Derived.Conc.CrowdTrace
import Derived.Conc.Holds
import Derived.Conc.Know
import Derived.Conc.MuSpec
import Derived.Conc.Own2
import Derived.Conc.QuitsD
import Derived.Conc.TokenWalk
import Derived.Conc.WrBase2
import Derived.Conc.WrWorld
set_option maxRecDepth 100000
set_option maxHeartbeats 4000000
set_option linter.all false
namespace Go.L
open Go Go.Conc
variable {i b n mx id it j x off:Nat} {Stop:Goroutine→St→Prop} {ι α:Type} {main sv ws:Bool} {ty:TypeId} {cs jq:List Frame} {s':St} {l:List Code} {st sm:Int} {f fr n8:Frame} {w':World} {t u:Trace} {g':Goroutine} {gs:Array Goroutine} {o:Obj} {pos:String} {fn:FuncId}
def gN(K:Nat->St)(i:Nat)(s:St):Nat->St:=λj=>if j=i then s else K j
theorem aY(K:Nat->St)(i:Nat)(s:St):gN K i s i=s:=by simp[gN]
theorem bz(K:Nat->St)(s:St)(h:j≠i):gN K i s j=K j:=by grind [gN]
def EC(s:St)(l:Loc):Prop:=∃a c t,l= .cell a/\s.ro a.block=some (.pending c t)/\a.off=wB
def EC.congr{s:St}{l:Loc}(hb:blk l=some b)(h:s'.ro b=s.ro b)(k:EC s l):EC s' l:=by
 obtain⟨a,c,t,rfl,h1,h2⟩:=k;cases hb;exact⟨a,c,t,rfl,h.trans h1,h2⟩
structure Fit(L:Nat->Option Obj)(K:Nat->St)(w:World)(t:Trace):Prop where
 CG:∀b o,L b=some o->w.heap[b]?=some o
 mJ:∀i b,(K i).owns b->L b=none
 nk:∀i,cZ (K i) w
 sep:∀i j b,i≠j->(K i).owns b->¬(K j).knows b
 perm:∀i b,(K i).owns b->∀p x,touchAt t p=some x->blk x.loc=some b->Knows t i p
 rZ:∀i b,(K i).ro b≠none->∀p x,touchAt t p=some x->blk x.loc=some b->x.write=true->¬EC (K i) x.loc->Knows t i p
 old:∀p x b,touchAt t p=some x->blk x.loc=some b->b <w.heap.size
 clean:∀said,¬Race said t
 sync:∀p x b,touchAt t p=some x->x.kind≠ .plain->blk x.loc=some b->L b=none/\∀i,¬(K i).knows b
theorem lt_size{a:Array α}{x:α}(h:a[i]?=some x):i <a.size:=by
 grind
theorem cd{p:Nat}{x:Touch}(h:touchAt (t++u) p=some x):(p <t.size/\touchAt t p=some x)\/(t.size<=p/\∃op∈u,(t++u)[p]?=some op/\op.act.touch?=some x):=by
 rcases Dc p t.size with hp|hp
 .grind [touchAt_old]
 obtain⟨op,ho,hx⟩:=touch_of h
 grind
theorem yK{s:St}{n i:Nat}{fn:FuncId}{pos:String}{es:Array Event}(h:∀e∈es,NU s n e){op:MemOp}(ho:op∈MemOp.ofEvents i fn pos es):
 op.g=i/\∀x,op.act.touch?=some x->x.kind= .plain/\∃b,blk x.loc=some b/\(n<=b\/s.owns b\/(x.write=false/\s.ro b≠none/\¬EC s x.loc))/\∃e∈es,blk e.loc=some b:=by
 rw[ofEvents_eq] at ho;obtain⟨e,he,rfl⟩:=Array.mem_map.1 ho;refine⟨rfl,λx hx=>?_⟩;have hk:=h e he;obtain⟨loc,wr,sy⟩:=e;cases loc with
 |cell a=>
  obtain⟨h1,h2⟩:=hk;simp only at h1 h2;subst h1;have h2:n<=a.block\/s.owns a.block\/(wr=false/\s.ro a.block≠none/\¬EC s (.cell a)):=
   h2.imp id λh=>h.imp id λh=>⟨h.1,h.2.1,λ⟨a',c,t,e,k1,k2⟩=>by cases e;exact h.2.2 c t k1 k2⟩
  cases wr<;>(simp only[MemAct.ofEvent,MemAct.touch?,Option.some.injEq] at hx;subst hx;exact⟨rfl,_,rfl,h2,_,he,rfl⟩)
 |obj r=>
  obtain⟨h1,h2⟩:=hk;simp only at h1 h2;subst h1;have h2:n<=r\/s.owns r\/(wr=false/\s.ro r≠none/\¬EC s (.obj r)):=
   h2.imp id λh=>h.imp id λh=>⟨h.1,h.2,λ⟨a',c,t,e,_⟩=>by cases e⟩
  cases wr<;>(simp only[MemAct.ofEvent,MemAct.touch?,Option.some.injEq] at hx;subst hx;exact⟨rfl,_,rfl,h2,_,he,rfl⟩)
 |mark m=>
  cases m<;>simp only[NU,GC,Bool.false_eq_true] at hk<;>(cases hx)
 |_=>exact hk.elim
theorem EP{p:Nat}(hu:∀op∈u,op.g=i)(hp:t.size<=p){op:MemOp}(ho:(t++u)[p]?=some op):Knows (t++u) i p:=by
 rcases getElem?_append_cases ho with ⟨h',_⟩| ⟨_,hm⟩
 .omega
 grind [knows_own]
theorem Fit.own{L:Nat->Option Obj}{K:Nat->St}{w:World}(h:Fit L K w t){es:Array Event}(ht:Trans (K i) w s' w' es)(fn:FuncId)(pos:String):
 Fit L (gN K i s') w' (t++MemOp.ofEvents i fn pos es):=by
 have hu:=λop (ho:op∈MemOp.ofEvents i fn pos es)=>yK ht.Am ho;have hg:∀op∈MemOp.ofEvents i fn pos es,op.g=i:=λop ho=>(hu op ho).1;have other:∀j b,j≠i->(K j).knows b->b <w.heap.size/\¬(K i).owns b:=λj b hj hk=>by
  refine⟨?_,λho=>h.sep i j b (ju hj) ho hk⟩;rcases hk with hk| ⟨o,hk⟩
  .cases hr:(K j).ro b with
   |none=>exact absurd hr hk
   |some o=>exact(h.nk j).lt (.inl hr)
  exact(h.nk j).lt (.inr hk)
 have ag9:∀b o,L b=some o->b <w.heap.size:=λb o hl=>lt_size (h.CG b o hl);refine⟨λb o hl=>?_,λj b ho=>?_,λj=>?_,λj k b Jl ho hk=>?_,λj b ho p x hx hb=>?_,λj b ho p x hx hb hw hh=>?_,λp x b hx hb=>?_,λsaid=>?_,λp x b hx hk hb=>?_⟩
 .rw[ht.frame b (ag9 b o hl) (λho=>by have:=h.mJ i b ho;rw[hl] at this;cases this)];exact h.CG b o hl
 .by_cases hj:j=i
  .subst hj;rw[aY] at ho;rcases ht.own b ho with h1|h1
   .cases hl:L b with
    |none=>rfl
    |some o=>have:=ag9 b o hl;omega
   exact h.mJ j b h1
  rw[bz K s' hj] at ho;exact h.mJ j b ho
 .by_cases hj:j=i
  .subst hj;rw[aY];exact ht.nk
  rw[bz K s' hj];have a:=h.nk j;refine⟨λb o hb=>?_,λb o hb=>?_,a.real,a.nodup,a.apart⟩
  .have:=other j b hj (.inl (by rw[hb];simp));rw[ht.frame b this.1 this.2];exact a.ro b o hb
  have:=other j b hj (.inr ⟨o,hb⟩);rw[ht.frame b this.1 this.2];exact a.rw b o hb
 .by_cases hj:j=i
  .subst hj;rw[aY] at ho;rw[bz K s' (ju Jl)] at hk;have:=other k b (ju Jl) hk;rcases ht.own b ho with h1|h1
   .omega
   exact this.2 h1
  rw[bz K s' hj] at ho;by_cases my:k=i
  .subst my;rw[aY] at hk;have:=other j b hj (.inr ho);rcases hk with hk|hk
   .rcases ht.RU b hk with h1|h1|h1
    .omega
    .exact h.sep j k b hj ho (.inl (h1▸hk))
    exact this.2 h1
   rcases ht.own b hk with h1|h1
   .omega
   exact this.2 h1
  rw[bz K s' my] at hk;exact h.sep j k b Jl ho hk
 .rcases cd hx with ⟨hp,mL⟩| ⟨hp,op,hm,a8,vx⟩
  .by_cases hj:j=i
   .subst hj;rw[aY] at ho;rcases ht.own b ho with h1|h1
    .exact absurd (h.old p x b mL hb) (by omega)
    exact(h.perm j b h1 p x mL hb).app _
   rw[bz K s' hj] at ho;exact(h.perm j b ho p x mL hb).app _
  by_cases hj:j=i
  .subst hj;exact EP hg hp a8
  rw[bz K s' hj] at ho;obtain⟨_,b',mz,hc,e',Oh,hbe⟩:=(hu op hm).2 x vx;obtain rfl:b'=b:=by rw[hb] at mz;exact(aJ mz).symm
  have:=other j b' hj (.inr ho);rcases hc with h1|h1|h1
  .omega
  .exact absurd h1 this.2
  exact absurd (.inl h1.2.1) (h.sep j i b' hj ho)
 .rcases cd hx with ⟨hp,mL⟩| ⟨hp,op,hm,a8,vx⟩
  .by_cases hj:j=i
   .subst hj;rw[aY] at ho;rcases ht.RU b ho with h1|h1|h1
    .exact absurd (h.old p x b mL hb) (by omega)
    .exact(h.rZ j b (h1▸ho) p x mL hb hw λk=>hh (by rw[aY];exact k.congr hb h1)).app _
    exact(h.perm j b h1 p x mL hb).app _
   rw[bz K s' hj] at ho hh;exact(h.rZ j b ho p x mL hb hw hh).app _
  by_cases hj:j=i
  .subst hj;exact EP hg hp a8
  rw[bz K s' hj] at ho;obtain⟨_,b',mz,hc,e',Oh,hbe⟩:=(hu op hm).2 x vx;obtain rfl:b'=b:=by rw[hb] at mz;exact(aJ mz).symm
  have:=other j b' hj (.inl ho);rcases hc with h1|h1|h1
  .omega
  .exact absurd h1 this.2
  rw[h1.1] at hw;cases hw
 .rcases cd hx with ⟨hp,mL⟩| ⟨hp,op,hm,a8,vx⟩
  .exact Ho (h.old p x b mL hb) ht.size
  obtain⟨_,b',mz,hc,e',Oh,hbe⟩:=(hu op hm).2 x vx;obtain rfl:b'=b:=by rw[hb] at mz;exact(aJ mz).symm
  exact ht.low e' Oh b' hbe
 case refine_9=>
  rcases cd hx with ⟨hp,mL⟩| ⟨hp,op,hm,a8,vx⟩
  .have hs:=h.sync p x b mL hk hb;refine⟨hs.1,λj hj=>?_⟩;by_cases e:j=i
   .subst e;rw[aY] at hj;have dS:=h.old p x b mL hb;rcases hj with hj|hj
    .rcases ht.RU b hj with h1|h1|h1
     .omega
     .exact hs.2 j (.inl (h1▸hj))
     exact hs.2 j (.inr h1)
    rcases ht.own b hj with h1|h1
    .omega
    exact hs.2 j (.inr h1)
   rw[bz K s' e] at hj;exact hs.2 j hj
  exact absurd ((hu op hm).2 x vx).1 hk
 case refine_8=>
  refine noRace_append (h.clean said) hg λp a ha op hm b hb hc=>?_;obtain⟨hk,c,hbc,w9,_⟩:=(hu op hm).2 b hb;have aHC:blk a.loc=some c:=by rw[hc.1];exact hbc
  rcases w9 with h1|h1|h1
  .exact absurd (h.old p a c ha aHC) (by omega)
  .exact h.perm i c h1 p a ha aHC
  refine h.rZ i c h1.2.1 p a ha aHC ?_ (by rw[hc.1];exact h1.2.2);rcases hc.2.2.1 with hw|hw
  .exact hw
  rw[h1.1] at hw;cases hw
def VX{said:Bool}(h:¬Race said t)(hu:∀op∈u,op.act.touch?=none):¬Race said (t++u):=by
 rintro⟨i,j,Of,⟨a,b,ha,hb,hc⟩,n1,n2⟩;obtain⟨y,hy,hyb⟩:=touch_of hb;rcases getElem?_append_cases hy with ⟨hj,_⟩| ⟨_,hyu⟩
 .have hi:i <t.size:=Nat.lt_trans Of hj;exact h ⟨i,j,Of,⟨a,b,by rw[<-act?_old (u:=u) hi];exact ha,by rw[<-act?_old (u:=u) hj];exact hb,hc⟩,λe=>n1 (hb_app u e),λe=>n2 (hb_app u e)⟩
 rw[hu y hyu] at hyb;cases hyb
section
variable {L:Nat->Option Obj} {K:Nat->St} {w w':World} {t u:Trace}
theorem Fit.P8(h:Fit L K w t)(hk:(K i).knows b):b <w.heap.size:=by
 rcases hk with hk| ⟨o,hk⟩
 .cases hr:(K i).ro b with
  |none=>grind
  |some o=>exact(h.nk i).lt (.inl hr)
 exact(h.nk i).lt (.inr hk)
theorem cZ.congr{s:St}(h:cZ s w)(hf:∀b,s.knows b->w'.heap[b]?=w.heap[b]?):cZ s w':=
 ⟨λb o hb=>by rw[hf b (.inl (by grind))];exact h.ro b o hb,λb o hb=>by rw[hf b (.inr ⟨o,hb⟩)];exact h.rw b o hb,h.real,h.nodup,h.apart⟩
def Fit.quiet(h:Fit L K w t)(B:Nat)(hB:∀j,¬(K j).knows B)(hBL:L B=none)(hs:w.heap.size<=w'.heap.size)(hf:∀b,b≠B->b <w.heap.size->w'.heap[b]?=w.heap[b]?)
 (hu:∀op∈u,op.act.touch?=none):Fit L K w' (t++u):=by
 have old:∀p x,touchAt (t++u) p=some x->touchAt t p=some x:=λp x hx=>by
  rcases cd hx with ⟨_,h'⟩| ⟨_,op,hm,_,vx⟩
  .exact h'
  rw[hu op hm] at vx;cases vx
 refine⟨λb o hl=>?_,h.mJ,λi=>?_,h.sep,λi b ho p x hx hb=>(h.perm i b ho p x (old p x hx) hb).app u,λi b ho p x hx hb hw hh=>(h.rZ i b ho p x (old p x hx) hb hw hh).app u,
  λp x b hx hb=>Ho (h.old p x b (old p x hx) hb) hs,λsaid=>VX (h.clean said) hu,λp x b hx hk hb=>h.sync p x b (old p x hx) hk hb⟩
 .rw[hf b (λe=>by rw[e,hBL] at hl;cases hl) (lt_size (h.CG b o hl))];exact h.CG b o hl
 exact(h.nk i).congr λb hb=>hf b (λe=>hB i (e▸hb)) (h.P8 hb)
def Fit.beside(h:Fit L K w t)(B i:Nat)(hB:∀j,¬(K j).knows B)(hBL:L B=none)(hBw:B <w.heap.size)(hs:w.heap.size<=w'.heap.size)(hf:∀b,b≠B->b <w.heap.size->w'.heap[b]?=w.heap[b]?)
 (hg:∀op∈u,op.g=i) (hu:∀op∈u,∀x,op.act.touch?=some x->blk x.loc=some B/\∀said p a,touchAt t p=some a->a.conflicts said x->Knows t i p):Fit L K w' (t++u):=by
 have old:∀b,b≠B->∀p x,touchAt (t++u) p=some x->blk x.loc=some b->touchAt t p=some x:=λb eo p x hx hb=>by
  rcases cd hx with ⟨_,h'⟩| ⟨_,op,hm,_,vx⟩
  .exact h'
  have:=(hu op hm x vx).1;rw[hb] at this;exact absurd (aJ this) eo
 have ne:∀j b,(K j).knows b->b≠B:=λj b hk e=>hB j (e▸hk);refine⟨λb o hl=>?_,h.mJ,λi=>?_,h.sep,λj b ho p x hx hb=>(h.perm j b ho p x (old b (ne j b (.inr ho)) p x hx hb) hb).app u,
  λj b ho p x hx hb hw hh=>(h.rZ j b ho p x (old b (ne j b (.inl ho)) p x hx hb) hb hw hh).app u,
  λp x b hx hb=>?_,λsaid=>noRace_append (h.clean said) hg λp a ha op hm b hb hc=>(hu op hm b hb).2 said p a ha hc,λp x b hx hk hb=>?_⟩
 .rw[hf b (λe=>by rw[e,hBL] at hl;cases hl) (lt_size (h.CG b o hl))];exact h.CG b o hl
 .exact(h.nk i).congr λb hb=>hf b (λe=>hB i (e▸hb)) (h.P8 hb)
 .by_cases e:b=B
  .subst e;omega
  exact Ho (h.old p x b (old b e p x hx hb) hb) hs
 by_cases e:b=B
 .subst e;exact⟨hBL,hB⟩
 exact h.sync p x b (old b e p x hx hb) hk hb
theorem St.le.owns{s:St}(h:s.le s')(hb:s.owns b):s'.owns b:=by
 obtain⟨R,h1,_⟩:=h;obtain⟨o,ho⟩:=hb;exact⟨o,h1.mem_iff.2 (by grind)⟩
theorem St.le.ro{s:St}(h:s.le s')(hb:s.ro b≠none):s'.ro b≠none\/s'.owns b:=by
 obtain⟨R,h1,h2⟩:=h;cases hr:s.ro b with
 |none=>grind
 |some o=>
  rcases h2 b o hr with h3|h3
  .grind
  exact .inr ⟨o,h1.mem_iff.2 (by grind)⟩
theorem St.le.bU{s:St}(h:s.le s')(hb:s.ro b≠none):s.ro b=s'.ro b\/s'.owns b:=by
 obtain⟨R,h1,h2⟩:=h;cases hr:s.ro b with
 |none=>grind
 |some o=>
  rcases h2 b o hr with h3|h3
  .grind
  exact .inr ⟨o,h1.mem_iff.2 (by grind)⟩
def St.le.knows{s:St}(h:s.le s')(hb:s.knows b):s'.knows b:=hb.elim (λhr=>(h.ro hr).elim .inl .inr) λho=> .inr (h.owns ho)
def Fit.le{K':Nat->St}(h:Fit L K w t)(hK:∀i,(K' i).le (K i)):Fit L K' w t:=
 ⟨h.CG,λi b ho=>h.mJ i b ((hK i).owns ho),λi=>(h.nk i).of_le (hK i),λi j b Of ho hk=>h.sep i j b Of ((hK i).owns ho) ((hK j).knows hk),
  λi b ho p x hx hb=>h.perm i b ((hK i).owns ho) p x hx hb,
  λi b ho p x hx hb hw hh=>((hK i).bU ho).elim (λhr=>h.rZ i b (hr▸ho) p x hx hb hw λk=>hh (k.congr hb hr)) λhr=>h.perm i b hr p x hx hb,h.old,h.clean,
  λp x b hx hk hb=>⟨(h.sync p x b hx hk hb).1,λi hi=>(h.sync p x b hx hk hb).2 i ((hK i).knows hi)⟩⟩
def Fit.share(h:Fit L K w t)(uB:i≠n)(s:St)(SN:s.rw=[])(qS:∀b o,s.ro b=some o->(K i).ro b=some o)
 (hk:∀b,s.ro b≠none->∀p x,touchAt t p=some x->blk x.loc=some b->x.write=true->¬EC s x.loc->Knows t n p):Fit L (gN K n s) w t:=by
 have no:∀b,¬s.owns b:=λb ⟨o,ho⟩=>by rw[SN] at ho;cases ho
 have kn:∀b,s.ro b≠none->(K i).ro b≠none:=λb hb=>by
  cases hr:s.ro b with
  |none=>exact absurd hr hb
  |some o=>rw[qS b o hr];simp
 refine⟨h.CG,λk b ho=>?_,λk=>?_,λk l b Ui ho hb=>?_,λk b ho p x hx hb=>?_,λk b ho p x hx hb hw hh=>?_,h.old,h.clean,λp x b hx my hb=>⟨(h.sync p x b hx my hb).1,λk ep=>?_⟩⟩
 case refine_6=>
  have hs:=(h.sync p x b hx my hb).2;by_cases a:k=n
  .subst a;rw[aY] at ep;exact hs i (.inl (kn b (ep.resolve_right (no b))))
  rw[bz _ _ a] at ep;exact hs k ep
 .by_cases a:k=n
  .subst a;rw[aY] at ho;exact absurd ho (no b)
  rw[bz _ _ a] at ho;exact h.mJ k b ho
 .by_cases a:k=n
  .subst a;rw[aY];exact⟨λb o hb=>(h.nk i).ro b o (qS b o hb),λb o hb=>absurd ⟨o,hb⟩ (no b),λb o hb=>absurd ⟨o,hb⟩ (no b),by rw[SN];simp,λb o hb=>absurd ⟨o,hb⟩ (no b)⟩
  rw[bz _ _ a];exact h.nk k
 .by_cases a:k=n
  .subst a;rw[aY] at ho;exact no b ho
  rw[bz _ _ a] at ho;by_cases c:l=n
  .subst c;rw[aY] at hb;have hr:=kn b (hb.resolve_right (no b));by_cases d:k=i
   .subst d;obtain⟨o,ho⟩:=ho;exact hr ((h.nk k).apart b o ho)
   exact h.sep k i b d ho (.inl hr)
  rw[bz _ _ c] at hb;exact h.sep k l b Ui ho hb
 .by_cases a:k=n
  .subst a;rw[aY] at ho;exact absurd ho (no b)
  rw[bz _ _ a] at ho;exact h.perm k b ho p x hx hb
 by_cases a:k=n
 .subst a;rw[aY] at ho hh;exact hk b ho p x hx hb hw hh
 rw[bz _ _ a] at ho hh;exact h.rZ k b ho p x hx hb hw hh
def Fit.alone(h:Fit L K w t)(hK:∀j,j≠i->∀b,¬(K j).knows b)(s:St)(ha:cZ s w)
 (uB:∀b,s.knows b->L b≠none\/(K i).knows b)(my:∀b,s.knows b->∀p x,touchAt t p=some x->x.kind= .plain->blk x.loc=some b->Knows t i p):
 Fit (λ_=>none) (gN K i s) w t:=by
 have aPT:∀b,s.knows b->∀p x,touchAt t p=some x->blk x.loc=some b->x.kind= .plain:=λb hb p x hx X3=>by
  by_cases e:x.kind= .plain
  .exact e
  have hs:=h.sync p x b hx e X3;exact((uB b hb).elim (λh'=>h' hs.1) λh'=>hs.2 i h').elim
 have hk:∀b,s.knows b->∀p x,touchAt t p=some x->blk x.loc=some b->Knows t i p:=λb hb p x hx X3=>my b hb p x hx (aPT b hb p x hx X3) X3;refine⟨λb o hl=>((by cases hl)),λ_ _ _=>rfl,λk=>?_,λk l b Ui ho hb=>?_,λk b ho p x hx hb=>?_,λk b ho p x hx hb hw hh=>?_,h.old,h.clean,λp x b hx hkd hb=>⟨rfl,λk ep=>?_⟩⟩
 case refine_5=>
  by_cases a:k=i
  .subst a;rw[aY] at ep;exact hkd (aPT b ep p x hx hb)
  rw[bz _ _ a] at ep;exact hK k a b ep
 .by_cases a:k=i
  .subst a;rw[aY];exact ha
  rw[bz _ _ a];exact h.nk k
 .by_cases a:k=i
  .rw[bz _ _ (λe=>Ui (a.trans e.symm))] at hb;exact hK l (λe=>Ui (a.trans e.symm)) b hb
  rw[bz _ _ a] at ho;exact hK k a b (.inr ho)
 .by_cases a:k=i
  .subst a;rw[aY] at ho;exact hk b (.inr ho) p x hx hb
  rw[bz _ _ a] at ho;exact absurd (.inr ho) (hK k a b)
 by_cases a:k=i
 .subst a;rw[aY] at ho;exact hk b (.inl ho) p x hx hb
 rw[bz _ _ a] at ho;exact absurd (.inl ho) (hK k a b)
end
inductive Tree:Type
 |leaf
 |node (f:World->Tree)
inductive Tree.Lt:Tree->Tree->Prop
 |mk (f:World->Tree) (w:World):Tree.Lt (f w) (.node f)
theorem Tree.wf:WellFounded Tree.Lt:=by
 refine⟨λt=>?_⟩
 induction t with
 |leaf=>exact⟨_,λy h=>(by cases h)⟩
 |node f ih=>exact⟨_,λy h=>by cases h;grind⟩
def qn(P:Program)(main:Bool)(Stop:Goroutine->St->Prop):Tree->Goroutine->St->Prop
 | .leaf,g,s=>Stop g s
 | .node f,g,s=>g.status= .running/\∀w,cZ s w->∃g' w' es s',stepG P main g w= .go g' w' es/\g'.status= .running/\Trans s w s' w' es/\qn P main Stop (f w) g' s'
theorem St.le.trans{a b c:St}(h:a.le b)(k:b.le c):a.le c:=by
 obtain⟨R,h1,h2⟩:=h;obtain⟨R',k1,k2⟩:=k;refine⟨R++R',?_,λx o hx=>?_⟩
 .rw[<-bC];exact k1.trans (h1.append_right R')
 grind
theorem Trans.le{s s' gT:St}{w w':World}{es:Array Event}(h:Trans s w s' w' es)(hl:gT.le s'):Trans s w gT w' es:=
 ⟨h.nk.of_le hl,h.size,h.frame,λb hb=>h.own b (hl.owns hb),λb hb=>(hl.bU hb).elim (λe=>by rw[e];exact h.RU b (e▸hb)) λho=>(h.own b ho).imp id .inr,h.os,h.output,h.tape,h.Am,h.low⟩
def gi(P:Program)(main:Bool)(Stop:Goroutine->St->Prop)(g:Goroutine)(s:St):Prop:=∃tr gT,gT.le s/\qn P main Stop tr g gT
def fH(P:Program)(main:Bool)(Stop:Goroutine->St->Prop):Closed P main (gi P main Stop) where
 step:=λg s hs h=>by
  have key:∀w,∃tr,cZ s w->∃g' w' es s',stepG P main g w= .go g' w' es/\g'.status= .running/\Trans s w s' w' es/\qn P main Stop tr g' s':=λw=>by
   by_cases ha:cZ s w
   .obtain⟨g',w',es,s',h1,h2,h3,tr,gT,hl,h4⟩:=h w ha;exact⟨tr,λ_=>⟨g',w',es,gT,h1,h2,h3.le hl,h4⟩⟩
   exact⟨.leaf,λvL=>absurd vL ha⟩
  refine⟨.node λw=>(key w).choose,s,St.le_refl s,hs,λw ha=>(key w).choose_spec ha⟩
 mono:=λg s s' hl ⟨tr,gT,h,ht⟩=>⟨tr,gT,h.trans hl,ht⟩
def gi.stop{P:Program}{g:Goroutine}{s:St}(h:Stop g s):gi P main Stop g s:=⟨.leaf,s,St.le_refl s,h⟩
section
variable {α:Type}
inductive One(r:α->α->Prop):List α->List α->Prop
 |mk (a:List α) (x y:α) (b:List α):r y x->One r (a++y::b) (a++x::b)
theorem One.cons_inv{r:α->α->Prop}{x:α}{l m:List α}(h:One r m (x::l)):(∃y,m=y::l/\r y x)\/∃l',m=x::l'/\One r l' l:=by
 generalize hk:x::l=k at h;obtain⟨a,u,v,b,hr⟩:=h;cases a with
 |nil=>grind
 |cons c a=>obtain⟨rfl,rfl⟩:=hk;exact .inr ⟨_,rfl,.mk a u v b hr⟩
def One.acc{r:α->α->Prop}:∀l:List α,(∀x∈l,Acc r x)->Acc (One r) l
 | [],_=>⟨_,λm h=>by
  generalize hk:([]:List α)=k at h;obtain⟨a,u,v,b,hr⟩:=h;cases a<;>simp at hk⟩
 |x::l,h=>by
  have hl:=One.acc l λy hy=>h y (cm _ hy);have hx:=h x (dX ..);clear h
  induction hx generalizing l with
  |intro x hx ihx=>
   clear hx
   induction hl with
   |intro l hl ihl=>
    refine⟨_,λm hm=>?_⟩;rcases hm.cons_inv with ⟨y,rfl,hr⟩| ⟨l',rfl,hr⟩
    .exact ihx y hr l ⟨_,hl⟩
    exact ihl l' hr
def One.wf{r:α->α->Prop}(h:WellFounded r):WellFounded (One r):=⟨λl=>One.acc l λx _=>h.apply x⟩
theorem One.set{r:α->α->Prop}{l:List α}{x y:α}(h:l[i]?=some x) (hr:r y x):One r (l.set i y) l:=by
 obtain⟨hi,rfl⟩:=aB.1 h;have e1:l=l.take i++l[i]::l.drop (i+1):=by
  rw[List.getElem_cons_drop,fF]
 have e2:l.set i y=l.take i++y::l.drop (i+1):=by
  rw[List.set_eq_take_append_cons_drop,dW hi]
 rw[e2]
 conv=>rhs;rw[e1]
 exact .mk _ _ _ _ hr
end
open Go.ConcR (KK wgBlock WgAt stA smA rd wr)
abbrev said(m:Mark):Event:=Go.ConcR.mk m
def Pure(P:Program)(main:Bool)(Live:World->Prop)(Stop:Goroutine->Prop):Nat->Goroutine->Prop
 |0,g=>Stop g
 |n+1,g=>g.status= .running/\∃g',(∀w,Live w->stepG P main g w= .go g' w #[])/\Pure P main Live Stop n g'
structure iS(ι:Type) where
 P:Program
 ty:TypeId
 Wg:Nat
 Ch:Nat
 max:Nat
 z:Value
 os:Os
 out:Array (Nat×ByteArray)
 aub:ι->Value->List (Nat×Obj)->Prop
section
variable {ι:Type} (E:iS ι)
def iS.live(w:World):Prop:=∃st sm,WgAt E.ty E.Wg w st sm
def iS.pure(main:Bool)(Stop:Goroutine->Prop)(g:Goroutine):Prop:=∃n,Pure E.P main E.live Stop n g
def iS.D4(g:Goroutine):Prop:=g.status= .running/\mayWake E.P g=true/\∃g',(∀w,WgAt E.ty E.Wg w 0 0->stepG E.P false g w= .go g' (w.setCell (smA E.Wg) (.int .u32 1)) (semEvents (smA E.Wg)))/\∃q,QuitsD E.P q 1 g'
def iS.D3(g:Goroutine):Prop:=g.status= .running/\∃g',(∀w,WgAt E.ty E.Wg w 1 0->stepG E.P false g w= .go g' (w.setCell (stA E.Wg) (.int .u64 0)) #[wr (stA E.Wg)])/\E.pure false E.D4 g'
def iS.D2(g:Goroutine):Prop:=g.status= .running/\∃g',(∀w,WgAt E.ty E.Wg w 1 0->stepG E.P false g w= .go g' w #[rd (stA E.Wg)])/\E.pure false E.D3 g'
def iS.D1(g:Goroutine):Prop:=g.status= .running/\∀v wt:Nat,wt<=1->v <E.max->
 ∃g',(∀w,WgAt E.ty E.Wg w (((v+1:Nat):Int)*KK+(wt:Int)) 0->stepG E.P false g w= .go g' (w.setCell (stA E.Wg) (.int .u64 ((v:Int)*KK+(wt:Int)))) #[rd (stA E.Wg),wr (stA E.Wg)])/\
  ((v=0/\wt=1)->E.pure false E.D2 g')/\(¬(v=0/\wt=1)->∃q,QuitsD E.P q 1 g')
def iS.K1(g:Goroutine):Prop:=g.status= .running/\∃g',(∀w,stepG E.P false g w= .go g' w #[said .disable])/\E.pure false E.D1 g'
def iS.R0(g:Goroutine):Prop:=g.status= .running/\∃g',(∀w,stepG E.P false g w= .go g' w #[said (.releaseMerge (stA E.Wg))])/\E.pure false E.K1 g'
inductive WK where
 |r0|k1|d1|d2|d3|d4
inductive bG(ι:Type) where
 |leave (q d:Nat) (cur:Bool)
 |work (o:ι) (tr:Tree)
 |mo (o:ι)
 |back (tr:Tree)
 |st (k:WK) (n:Nat)
 |closer
def WK.stop:WK->Goroutine->Prop
 | .r0=>E.R0| .k1=>E.K1| .d1=>E.D1| .d2=>E.D2| .d3=>E.D3| .d4=>E.D4
def WK.deaf:WK->Nat
 | .r0| .k1=>0
 |_=>1
def WK.said:WK->Bool
 | .r0=>false
 |_=>true
def WK.kz:WK->Nat
 | .r0=>6| .k1=>5| .d1=>4| .d2=>3| .d3=>2| .d4=>1
inductive CK where
 |kd|w1 (b:Nat)|w2 (b vs:Nat)|wr|w3|blk|w4|ke|aq|run (tr:Tree)
def CK.deaf:CK->Nat
 | .kd| .aq| .run _=>0
 |_=>1
def fU(t:Trace)(i:Nat):Prop:=∀p,t.g? p=some i->t.counts p->∃j,t.g? j=some 0/\HappensBefore t p j
end
section
variable {ι:Type} {E:iS ι} {t u:Trace} {i j:Nat} {s:St} {g:Goroutine}
theorem Pure.running{P:Program}{Live:World->Prop}{Stop:Goroutine->Prop}(hS:∀g,Stop g->g.status= .running):∀ {n:Nat} {g:Goroutine},Pure P main Live Stop n g->g.status= .running
 |0,_,h=>hS _ h
 |_+1,_,h=>h.1
theorem iS.pure.running{Stop:Goroutine->Prop}(hS:∀g,Stop g->g.status= .running)(h:E.pure main Stop g):g.status= .running:=Pure.running hS h.choose_spec
theorem WK.running:∀(k:WK) (g:Goroutine),k.stop E g->g.status= .running
 | .r0,_,h=>h.1
 | .k1,_,h=>h.1
 | .d1,_,h=>h.1
 | .d2,_,h=>h.1
 | .d3,_,h=>h.1
 | .d4,_,h=>h.1
theorem qn.running{P:Program}(hS:∀g s,Stop g s->g.status= .running):∀ {tr:Tree} {g:Goroutine} {s:St},qn P main Stop tr g s->g.status= .running
 | .leaf,_,_,h=>hS _ _ h
 | .node _,_,_,h=>h.1
def fU.other(h:fU t j)(hu:∀op∈u,op.g≠j):fU (t++u) j:=by
 intro p hp hc;obtain⟨op,ho,hg⟩:=dQ.1 hp;rcases getElem?_append_cases ho with ⟨dS,_⟩| ⟨_,hm⟩
 .obtain⟨q,h1,h2⟩:=h p (by rw[<-g?_old (u:=u) dS];exact hp) ((counts_old dS).1 hc);have hq:q <t.size:=by
   obtain⟨o,ho,_⟩:=dQ.1 h1;exact lt_size_of_getElem? ho
  exact⟨q,by rw[g?_old hq];exact h1,hb_app u h2⟩
 exact absurd hg (hu op hm)
theorem RelBy.other{a:Addr}{r:Nat}(h:ConcN.RelBy a t j r)(hu:∀op∈u,op.g≠j):ConcN.RelBy a (t++u) j r:=by
 refine h.app λp hp hg=>?_;obtain⟨op,ho,hgo⟩:=dQ.1 hg
 grind
theorem jm(t:Trace){g:Nat}(u:Trace)(hu:∀op∈u,op.g≠g):Deaf (t++u) g=Deaf t g:=by
 obtain⟨l⟩:=u;rw[Deaf_append]
 induction l generalizing t with
 |nil=>rfl
 |cons y l ih=>
  have hy:y.g≠g:=hu y (by simp);have e1:deafStep g (Deaf t g) y=Deaf t g:=by
   unfold deafStep;split<;>simp[hy]
  rw[nJ,e1];exact ih t (λop a8=>hu op (by simp at a8 ⊢;exact .inr a8))
def afY(w w':World):Prop:=w'.os=w.os/\w'.output=w.output
theorem ij{P:Program}{k:Nat}{g x:Goroutine}(hki:k≠i)(hk:gs[k]?=some x):((gs.map (woken P g g' w')).setIfInBounds i g')[k]?=some (woken P g g' w' x):=by grind
end
def jB(f:bG ι->Nat)(D:List (bG ι)):Nat:=(D.map f).sum
def CK.waits:CK->Prop
 | .wr| .w3| .blk=>True
 |_=>False
def CK.over:CK->Prop
 | .w4| .ke| .aq| .run _=>True
 |_=>False
inductive Md(mx:Nat):(n n4 n3 n2:Nat)->Option CK->Int->Int->Prop
 |start {n:Nat}:Md mx n 0 0 0 none ((n:Int)*KK) 0
 |kd {n:Nat}:Md mx n 0 0 0 (some .kd) ((n:Int)*KK) 0
 |w1 {n b:Nat}:n<=b->Md mx n 0 0 0 (some (.w1 b)) ((n:Int)*KK) 0
 |w2 {n b v:Nat}:n<=v->1<=v->v<=b+1->Md mx n 0 0 0 (some (.w2 b v)) ((n:Int)*KK) 0
 |reg {n:Nat} {c:CK}:c.waits->1<=n->Md mx n 0 0 0 (some c) ((n:Int)*KK+1) 0
 |l4 {c:CK}:c.waits->Md mx 0 1 0 0 (some c) 1 0
 |l3 {c:CK}:c.waits->Md mx 0 0 1 0 (some c) 1 0
 |l2 {c:CK}:c.waits->Md mx 0 0 0 1 (some c) 0 0
 |sema {c:CK}:c.waits->c≠ .blk->Md mx 0 0 0 0 (some c) 0 1
 |over {c:CK}:c.over->Md mx 0 0 0 0 (some c) 0 0
section
variable {ι:Type} (E:iS ι)
abbrev Hx:=Option (Nat×CK×Nat)
end
abbrev CZ:Nat×Tree×Nat->Nat×Tree×Nat->Prop:=Prod.Lex (· < ·) (Prod.Lex Tree.Lt (· < ·))
def CZ.wf:WellFounded CZ:=(Prod.lex _ (Prod.lex ⟨_,Tree.wf⟩ _)).wf
def eB{a b:Nat×Tree×Nat}(h:a.1 <b.1):CZ a b:=by
 omega
theorem AY{a b:Tree}{y:Nat}(h:Tree.Lt a b):CZ (n,a,x) (n,b,y):=by grind
theorem uZ{a:Tree}{y:Nat}(h:x <y):CZ (n,a,x) (n,a,y):=by grind
section
variable {ι:Type} {E:iS ι}
theorem J2{es:Array Event}(h:∀e∈es,Event.mute e=true):∀op∈MemOp.ofEvents i fn pos es,op.act.touch?=none:=by
 intro op a8;rw[ofEvents_eq] at a8;obtain⟨e,he,rfl⟩:=Array.mem_map.1 a8;have:=h e he;obtain⟨loc,wr,sy⟩:=e;cases loc with
 |mark m=>cases m<;>first|rfl|grind [Event.mute]
 |_=>simp[Event.mute] at this
theorem PX{es:Array Event}(h:∀e∈es,Event.mute e=true)(a:Addr):∀op∈MemOp.ofEvents i fn pos es,op.act≠ .mark (.release a):=by
 intro op a8;rw[ofEvents_eq] at a8;obtain⟨e,he,rfl⟩:=Array.mem_map.1 a8;have:=h e he;obtain⟨loc,wr,sy⟩:=e;cases loc with
 |mark m=>grind [MemAct.ofEvent,Event.mute]
 |_=>simp[Event.mute] at this
variable {L:Nat->Option Obj} {K:Nat->St} {gs:Array Goroutine} {w w':World} {t:Trace} {D:List (bG ι)} {pend d0:Nat} {cl:Hx} {main:Goroutine} {sl:Option (Nat×Nat)}
end
section
variable {ι:Type} {E:iS ι} {L:Nat->Option Obj} {K:Nat->St} {gs:Array Goroutine} {w w':World} {t u:Trace} {D:List (bG ι)} {pend d0:Nat} {cl:Hx} {main:Goroutine} {sl:Option (Nat×Nat)}
 {i:Nat} {g g':Goroutine} {es:Array Event}
theorem kB(K:Nat->St)(i:Nat):gN K i (K i)=K:=by
 grind [aY,bz]
def fU.quiet(h:fU t j)(hu:∀op∈u,op.act.touch?=none):fU (t++u) j:=by
 intro p hp hc;obtain⟨op,ho,hg⟩:=dQ.1 hp;rcases getElem?_append_cases ho with ⟨dS,_⟩| ⟨_,hm⟩
 .obtain⟨q,h1,h2⟩:=h p (by rw[<-g?_old (u:=u) dS];exact hp) ((counts_old dS).1 hc);have hq:q <t.size:=by
   obtain⟨o,ho,_⟩:=dQ.1 h1;exact lt_size_of_getElem? ho
  exact⟨q,by rw[g?_old hq];exact h1,hb_app u h2⟩
 obtain⟨x,hx,_⟩:=hc;obtain⟨o',ho',mL⟩:=touch_of hx;rw[ho] at ho';cases ho';rw[hu op hm] at mL;cases mL
theorem PW{e:Event}(h:Event.mute e=true):(MemAct.ofEvent e).touch?=none:=by
 obtain⟨loc,wr,sy⟩:=e;cases loc with
 |mark m=>cases m<;>first|rfl|grind [Event.mute]
 |_=>grind [Event.mute]
def Ga{s:St}:∀(es:List Event) (d:Nat),(∀e∈es,NU s n e)->es.foldl (λd e=>match e.loc with| .mark .disable=>d+1| .mark .enable=>d-1|_=>d) d=d
 | [],_,_=>rfl
 |e::es,d,h=>by
  have he:=h e (by simp);have:(match e.loc with| .mark .disable=>d+1| .mark .enable=>d-1|_=>d)=d:=by
   unfold NU at he;split<;>simp_all[GC]
  rw[nJ,this];exact Ga es d λx hx=>h x (by simp[hx])
theorem Trans.deaf{s:St}(ht:Trans s w s' w' es)(d:Nat):deafBehind d es=d:=by
 obtain⟨l⟩:=es;rw[deafBehind,List.foldl_toArray']
 .exact Ga l d λe he=>ht.Am e (by grind)
 grind
end
def Md.d1{a c:Nat}{o:Option CK}(h:Md mx n a b c o st sm)(hn:1<=n)(ho:o≠none):
 ∃v wt:Nat,v+1=n/\wt<=1/\st=((v+1:Nat):Int)*KK+(wt:Int)/\sm=0/\a=0/\b=0/\c=0/\
  ((v=0/\wt=1)->Md mx v 1 0 0 o ((v:Int)*KK+(wt:Int)) 0)/\(¬(v=0/\wt=1)->Md mx v 0 0 0 o ((v:Int)*KK+(wt:Int)) 0):=by
 cases h with
 |start=>exact absurd rfl ho
 |kd=>exact⟨n-1,0,by omega,by omega,by rw[show n-1+1=n by omega];simp,rfl,rfl,rfl,rfl,λh=>by omega,λ_=>by simpa using .kd⟩
 |w1 h1=>exact⟨n-1,0,by omega,by omega,by rw[show n-1+1=n by omega];simp,rfl,rfl,rfl,rfl,λh=>by omega,λ_=>by simpa using .w1 (by omega)⟩
 |w2 h1 h2 h3=>exact⟨n-1,0,by omega,by omega,by rw[show n-1+1=n by omega];simp,rfl,rfl,rfl,rfl,λh=>by omega,λ_=>by simpa using .w2 (by omega) h2 h3⟩
 |reg h1 h2=>
  refine⟨n-1,1,by omega,by omega,by rw[show n-1+1=n by omega];simp,rfl,rfl,rfl,rfl,λh=>?_,λh=>?_⟩
  .rw[h.1];simpa using .l4 h1
  exact .reg h1 (by omega)
 |l4 _=>omega
 |l3 _=>omega
 |l2 _=>omega
 |sema _ _=>omega
 |over _=>omega
def Md.d2{a c:Nat}{o:Option CK}(h:Md mx n a b c o st sm)(hn:1<=a):st=1/\sm=0/\n=0/\a=1/\b=0/\c=0/\Md mx 0 0 1 0 o 1 0:=by
 cases h with
 |l4 h1=>exact⟨rfl,rfl,rfl,rfl,rfl,rfl,.l3 h1⟩
 |_=>omega
def Md.d3{a c:Nat}{o:Option CK}(h:Md mx n a b c o st sm)(hn:1<=b):st=1/\sm=0/\n=0/\a=0/\b=1/\c=0/\Md mx 0 0 0 1 o 0 0:=by
 cases h with
 |l3 h1=>exact⟨rfl,rfl,rfl,rfl,rfl,rfl,.l2 h1⟩
 |_=>omega
theorem Md.d4{a c:Nat}{o:Option CK}(h:Md mx n a b c o st sm)(hn:1<=c):st=0/\sm=0/\n=0/\a=0/\b=0/\c=1/\(o≠some .blk->Md mx 0 0 0 0 o 0 1):=by
 cases h with
 |l2 h1=>exact⟨rfl,rfl,rfl,rfl,rfl,rfl,λh'=> .sema h1 λe=>h' (by grind)⟩
 |_=>omega
theorem Md.run{a c:Nat}{o:Option CK}(h:Md mx n a b c o st sm){k:CK}(ho:o=some k)(hk:k.over):n=0/\a=0/\b=0/\c=0/\st=0/\sm=0:=by
 have nw:¬k.waits:=by cases k<;>simp_all[CK.over,CK.waits]
 cases h with
 |start=>cases ho
 |kd=>cases ho;exact hk.elim
 |w1 _=>cases ho;exact hk.elim
 |w2 _ _ _=>cases ho;exact hk.elim
 |reg h1 _=>grind
 |l4 h1=>cases ho;exact absurd h1 nw
 |l3 h1=>cases ho;exact absurd h1 nw
 |l2 h1=>grind
 |sema h1 _=>cases ho;exact absurd h1 nw
 |over _=>simp
section
variable {ι:Type} {E:iS ι} {L:Nat->Option Obj} {K:Nat->St} {gs:Array Goroutine} {w w':World} {t u:Trace} {D:List (bG ι)} {pend d0:Nat} {cl:Hx} {main:Goroutine} {sl:Option (Nat×Nat)}
 {i:Nat} {g g':Goroutine} {es:Array Event}
structure dV(E:iS ι)(w w':World):Prop where
 size:w'.heap.size=w.heap.size
 block:∀b,b≠E.Wg->w'.heap[b]?=w.heap[b]?
 same:afY w w'
def dV.refl(w:World):dV E w w:=⟨rfl,λ_ _=>rfl,rfl,rfl⟩
theorem dV.set(w:World)(k:Nat)(v:Value):dV E w (w.setCell ⟨E.Wg,k,none⟩ v):=
 ⟨by simp,λb hb=>by simp[World.setCell,fG,ju hb],rfl,rfl⟩
end
def CK.phi(mx:Nat):CK->Nat
 | .kd=>2*mx+9
 | .w1 b=>2*b+8
 | .w2 b _=>2*b+9
 | .wr=>7
 | .w3| .blk=>6
 | .w4=>5
 | .ke=>4
 | .aq=>3
 | .run _=>2
def CK.tree:CK->Tree
 | .run tr=>tr
 |_=> .leaf
section
variable {ι:Type} {E:iS ι} {L:Nat->Option Obj} {K:Nat->St} {gs:Array Goroutine} {w w':World} {t u:Trace} {D:List (bG ι)} {pend d0:Nat} {main:Goroutine} {sl:Option (Nat×Nat)}
 {ic:Nat} {g g':Goroutine} {es:Array Event} {c:CK} {n:Nat}
theorem Md.zero{mx n a b c:Nat}{k:CK}{st sm:Int}(h:Md mx n a b c (some k) st sm)(hk:k= .kd\/(∃b,k= .w1 b)\/∃b v,k= .w2 b v):st=(n:Int)*KK/\sm=0/\a=0/\b=0/\c=0/\(∀b,k= .w1 b->n<=b)/\∀b v,k= .w2 b v->n<=v/\1<=v/\v<=b+1:=by
 have nw:¬k.waits/\¬k.over:=by rcases hk with rfl| ⟨_,rfl⟩| ⟨_,_,rfl⟩<;>exact⟨id,id⟩
 cases h with
 |kd=>simp
 |w1 h1=>grind
 |w2 h1 h2 h3=>grind
 |reg h1 _=>exact absurd h1 nw.1
 |l4 h1=>exact absurd h1 nw.1
 |l3 h1=>exact absurd h1 nw.1
 |l2 h1=>exact absurd h1 nw.1
 |sema h1 _=>exact absurd h1 nw.1
 |over h1=>exact absurd h1 nw.2
def Md.waiting{mx n a b c:Nat}{k k':CK}{st sm:Int}(h:Md mx n a b c (some k) st sm)(hk:k.waits)(my:k'.waits)(hb:k'≠ .blk\/sm=0):Md mx n a b c (some k') st sm:=by
 cases h with
 |kd=>exact hk.elim
 |w1 _=>exact hk.elim
 |w2 _ _ _=>exact hk.elim
 |reg _ h2=>exact .reg my h2
 |l4 _=>exact .l4 my
 |l3 _=>exact .l3 my
 |l2 _=>exact .l2 my
 |sema _ _=>exact .sema my (hb.resolve_right (by decide))
 |over h1=>cases k<;>first|exact hk.elim|exact h1.elim
theorem Md.up{mx n a b c:Nat}{k:CK}{st sm:Int}(h:Md mx n a b c (some k) st sm)(hk:k.waits):(∃x,x=st/\sm=0)\/(st=0/\sm=1/\n=0/\a=0/\b=0/\c=0):=by
 cases h with
 |kd=>simp
 |w1 _=>simp
 |w2 _ _ _=>simp
 |reg _ _=>simp
 |l4 _=>simp
 |l3 _=>simp
 |l2 _=>simp
 |sema _ _=>simp
 |over h1=>simp
end
section
variable {ι:Type} {E:iS ι} {L:Nat->Option Obj} {K:Nat->St} {gs jK:Array Goroutine} {w w':World} {t u:Trace} {D:List (bG ι)} {pend d0:Nat} {cl:Hx} {main main':Goroutine} {sl:Option (Nat×Nat)}
 {i:Nat} {g g':Goroutine} {es:Array Event}
def ki(t:Trace)(g:Nat)(u:Trace)(hu:∀op∈u,∀m,op.act≠ .mark m):Deaf (t++u) g=Deaf t g:=by
 obtain⟨l⟩:=u;rw[Deaf_append]
 induction l generalizing t with
 |nil=>rfl
 |cons y l ih=>
  have hy:=hu y (by simp);have e1:deafStep g (Deaf t g) y=Deaf t g:=by
   unfold deafStep;split
   .rename_i e;exact absurd e (hy _)
   .rename_i e;exact absurd e (hy _)
   rfl
  rw[nJ,e1];exact ih t (λop a8=>hu op (by simp at a8 ⊢;exact .inr a8))
end
def Ends(P:Program)(Q:Machine->Outcome->World->Trace->Prop)(m:Machine)(t:Trace):Prop:=
 ∃n last o w' t',runNT P (n+1) m t=(.ended o w',t')/\runN P n m= .next last/\step P last= .ended o w'/\Q last o w' t'
theorem Ends.next{P:Program}{Q:Machine->Outcome->World->Trace->Prop}{m m':Machine}{ops:Array MemOp}(hs:stepT P m=(.next m',ops))(h:Ends P Q m' (t++ops)):Ends P Q m t:=by
 obtain⟨n,last,o,w,t',h1,h2,h3,h4⟩:=h;exact⟨n+1,last,o,w,t',by grind [runNT_succ_next],by grind [runN_succ_next],h3,h4⟩
section
variable {L:Nat->Option Obj} {K:Nat->St} {w:World} {t:Trace}
theorem cZ.at{s:St}(h:cZ s w)(d:Nat):cZ s (w.at d):=⟨h.ro,h.rw,h.real,h.nodup,h.apart⟩
theorem Fit.at(h:Fit L K w t)(d:Nat):Fit L K (w.at d) t:=⟨h.CG,h.mJ,λi=>(h.nk i).at d,h.sep,h.perm,h.rZ,h.old,h.clean,h.sync⟩
end
structure Lv(P:Program)(G:Trace->Nat->Prop)(L:Nat->Option Obj)(K:Nat->St)(gs:Array Goroutine)(w:World)(t:Trace)(q:List Nat):Prop where
 fit:Fit L K w t
 size:gs.size=q.length+1
 ok:∀i n,q[i]?=some n->∃g d,gs[i+1]?=some g/\QuitsD P n d g/\Deaf t (i+1)=d/\G t (i+1)
 none:∀i b,i≠0->¬(K i).knows b
 ops:∀op∈t,op.g <gs.size
structure U7(G:Trace->Nat->Prop):Prop where
 other:∀t u i,G t i->(∀op∈u,op.g≠i)->G (t++u) i
 quiet:∀t u i,G t i->(∀op∈u,op.act.touch?=none)->G (t++u) i
def yX:U7 fU:=⟨λ_ _ _ h hu=>h.other hu,λ_ _ _ h hu=>h.quiet hu⟩
section
variable {P:Program} {G:Trace->Nat->Prop} {L:Nat->Option Obj} {K:Nat->St} {gs:Array Goroutine} {w:World} {t:Trace} {q:List Nat} {sl:Option (Nat×Nat)}
theorem Lv.at(h:Lv P G L K gs w t q)(d:Nat):Lv P G L K gs (w.at d) t q:=⟨h.fit.at d,h.size,h.ok,h.none,h.ops⟩
theorem Lv.le(h:Lv P G L K gs w t q){s:St}(hl:s.le (K 0)):Lv P G L (gN K 0 s) gs w t q:=
 ⟨h.fit.le λj=>by
  grind [aY,bz,St.le_refl],h.size,h.ok,λi b hi hk=>by rw[bz _ _ hi] at hk;exact h.none i b hi hk,h.ops⟩
def Lv.leave(hG:U7 G)(h:Lv P G L K gs w t q){g m:Goroutine}(hm:gs[0]?=some m) (Ag:m.status= .running) (hg:gs[i+1]?=some g) (hs:g.status= .running):
 ∃jK u q',runT P (crowd gs w sl) (i+1)=(.next (crowd jK w sl),u)/\Lv P G L K jK w (t++u) q'/\jK[0]?=some m/\Deaf (t++u) 0=Deaf t 0/\q'.sum <q.sum/\∀op∈u,∀a,op.act≠ .mark (.release a):=by
 have dS:i <q.length:=by have:=lt_size hg;have:=h.size;omega
 have hq:=af dS;obtain⟨dk,d,cO,hqd,hd,hk⟩:=h.ok i _ hq;obtain rfl:dk=g:=by rw[hg] at cO;exact(aJ cO).symm
 cases e:q[i] with
 |zero=>rw[e] at hqd;have:=hqd.1;rw[hs] at this;cases this
 |succ n=>
  rw[e] at hqd;rcases hqd with ⟨h1,_⟩| ⟨_,g',es,FZ,dr,Qi⟩
  .rw[hs] at h1;cases h1
  have hu:=J2 (i:=i+1) (fn:=dk.frame.fn) (pos:=dk.frame.place) FZ;have hgi:∀op∈MemOp.ofEvents (i+1) dk.frame.fn dk.frame.place es,op.g=i+1:=λop a8=>Go.ConcR.g_of_ofEvents op a8;have yw:∀x:Goroutine,(x.status= .running\/x.status= .finished)->woken P dk g' w x=x:=λx hx=>by
   unfold Go.Conc.woken;split
   .exact again_running _ hx
   rfl
  refine⟨_,_,q.set i n,runT_crowd_go (P:=P) (sl:=sl) (i:=i+1) hg (by simpa using dr w),⟨?_,by simp[h.size],λk n' my=>?_,h.none,λop a8=>?_⟩,?_,?_,?_,λop a8 a=>PX FZ a op a8⟩
  .exact h.fit.quiet w.heap.size (λj hj=>absurd (h.fit.P8 hj) (Nat.lt_irrefl _)) (by
    cases hL:L w.heap.size with
    |none=>rfl
    |some o=>exact absurd (lt_size (h.fit.CG _ o hL)) (Nat.lt_irrefl _)) (bu _) (λ_ _ _=>rfl) hu
  .by_cases hki:k=i
   .subst hki;have:n=n':=by simpa [List.getElem?_set,dS] using my
    subst this;exact⟨g',_,by simp[h.size,dS],Qi,by rw[Deaf_own,hd],hG.quiet _ _ _ hk hu⟩
   rw[List.getElem?_set_ne (ju hki)] at my;obtain⟨x,dx,hx,hqx,hdx,Jj⟩:=h.ok k n' my;have eo:∀op∈MemOp.ofEvents (i+1) dk.frame.fn dk.frame.place es,op.g≠k+1:=λop a8=>by rw[hgi op a8];omega
   exact⟨x,dx,by rw[ij (by omega) hx,yw x hqx.status],hqx,by rw[jm _ _ eo];exact hdx,hG.other _ _ _ Jj eo⟩
  .rw[jA,LJ];rcases oW.1 a8 with h'|h'
   .exact h.ops op h'
   rw[hgi op h',h.size];omega
  .rw[ij (by omega) hm,yw m (.inl Ag)]
  .exact jm _ _ λop a8=>by rw[hgi op a8];omega
  have key:∀(l:List Nat) (i:Nat) (x:Nat),l[i]?=some x->∀y,y <x->(l.set i y).sum <l.sum:=by
   intro l
   induction l with
   |nil=>intro i x h;simp at h
   |cons a l ih=>
    intro i x hx y hy;cases i with
    |zero=>simp only[jN,aD] at hx;subst hx;simp only[List.set_cons_zero,Sc];omega
    |succ i=>have:=ih i x (by simpa using hx) y hy;simp only[Hp,Sc];omega
  exact key q i _ (by rw[hq,e]) n (nI n)
theorem Lv.own(hG:U7 G)(h:Lv P G L K gs w t q){g:Goroutine}{es:Array Event}(hm:gs[0]?=some g) (dr:stepG P true g w= .go g' w' es) (ht:Trans (K 0) w s' w' es):
 ∃jK u,runT P (crowd gs w sl) 0=(.next (crowd jK w' sl),u)/\Lv P G L (gN K 0 s') jK w' (t++u) q/\jK[0]?=some g'/\Deaf (t++u) 0=Deaf t 0/\∀op∈u,∀a,op.act≠ .mark (.release a):=by
 have hgi:∀op∈MemOp.ofEvents 0 g.frame.fn g.frame.place es,op.g=0:=λop a8=>Go.ConcR.g_of_ofEvents op a8;refine⟨_,_,runT_crowd_go (P:=P) (sl:=sl) (i:=0) hm (by simpa using dr),⟨h.fit.own ht _ _,by simp[h.size],λk n hk=>?_,λi b hi hk=>?_,λop a8=>?_⟩,?_,?_,λop a8 a e=>?_⟩
 .obtain⟨x,dx,hx,hqx,hdx,Jj⟩:=h.ok k n hk;have eo:∀op∈MemOp.ofEvents 0 g.frame.fn g.frame.place es,op.g≠k+1:=λop a8=>by rw[hgi op a8];omega
  exact⟨x,dx,by rw[ij (by omega) hx,woken_quitsD hqx],hqx,by rw[jm _ _ eo];exact hdx,hG.other _ _ _ Jj eo⟩
 .rw[bz _ _ hi] at hk;exact h.none i b hi hk
 .rw[jA,LJ];rcases oW.1 a8 with h'|h'
  .exact h.ops op h'
  rw[hgi op h',h.size];omega
 .simp[h.size]
 .rw[Deaf_own,ht.deaf]
 rw[ofEvents_eq] at a8;obtain⟨e',he,rfl⟩:=Array.mem_map.1 a8;have hl:=Go.ConcR.loc_of_ofEvent e;have:=ht.Am e' he;unfold NU at this;rw[hl] at this;simp[GC] at this
structure ab5(I:(Nat->St)->World->Trace->Prop):Prop where
 grow:∀K w t u,I K w t->(∀op∈u,∀a,op.act≠ .mark (.release a))->I K w (t++u)
 drawn:∀K w t d,I K w t->I K (w.at d) t
 le:∀K w t s,I K w t->s.le (K 0)->I (gN K 0 s) w t
 own:∀K w t s' w' es u,I K w t->Trans (K 0) w s' w' es->(∀op∈u,∀a,op.act≠ .mark (.release a))->I (gN K 0 s') w' (t++u)
def TL(P:Program)(G:Trace->Nat->Prop)(L:Nat->Option Obj)(I:(Nat->St)->World->Trace->Prop)(Q:Machine->Outcome->World->Trace->Prop)(g:Goroutine)(s:St):Prop:=
 ∀K gs w t q sl,Lv P G L K gs w t q->gs[0]?=some g->s.le (K 0)->Deaf t 0=0->I K w t->Ends P Q (crowd gs w sl) t
def N1(hG:U7 G){I:(Nat->St)->World->Trace->Prop}(hI:ab5 I){Q:Machine->Outcome->World->Trace->Prop}{g:Goroutine}{s:St}(hs:g.status= .running)
 (h:∀K gs w t q sl m,Lv P G L K gs w t q->gs[0]?=some g->K 0=s->Deaf t 0=0->I K w t->stepT P m=runT P (crowd gs w sl) 0->(m.gs=gs/\m.rest.timers= #[])->Ends P Q m t):TL P G L I Q g s:=by
 intro K gs w t q sl hL h0 hle hd hi;generalize hn:q.sum=n
 induction n using Nat.strongRecOn generalizing K gs w t q sl with
 |_ n ih=>
  have hL:=hL.le hle;have hi:=hI.le _ _ _ _ hi hle;obtain⟨i,dk,d,JG,cO,Cm,dr⟩:=crowd_pick (P:=P) (gs:=gs) (w:=w) (sl:=sl) (λx hx=>by
   obtain⟨j,hj,rfl⟩:=Array.mem_iff_getElem.1 hx;have hj':gs[j]?=some gs[j]:=tF hj;intro k;cases j with
   |zero=>rw[h0] at hj';rw[<-aJ hj',hs];simp
   |succ j=>
    have dS:j <q.length:=by have:=hL.size;omega
    obtain⟨y,d,hy,hq,_⟩:=hL.ok j _ (af dS);rw[hj'] at hy;rw[aJ hy];rcases hq.status with e|e<;>rw[e]<;>simp) ⟨0,g,h0,hs⟩
  cases i with
  |zero=>exact h _ gs (w.at d) t q JG _ (hL.at d) h0 (aY _ _ _) hd (hI.drawn _ _ _ _ hi) dr ⟨rfl,rfl⟩
  |succ i=>
   obtain⟨jK,u,q',hr,hL',Kp,Db,dS,hrl⟩:=(hL.at d).leave (sl:=JG) hG h0 hs cO Cm;refine Ends.next (dr.trans hr) (ih q'.sum (hn▸dS) _ jK _ _ q' JG hL' Kp ?_ (by rw[Db];exact hd) (hI.grow _ _ _ _ (hI.drawn _ _ _ _ hi) hrl) rfl);rw[aY];exact St.le_refl _
def JD(hG:U7 G){I:(Nat->St)->World->Trace->Prop}(hI:ab5 I)(Q:Machine->Outcome->World->Trace->Prop):Closed P true (TL P G L I Q) where
 step:=λg s hs h=>N1 hG hI hs λK gs w t q sl m hL h0 hK hd hi dr _=>by
  subst hK;obtain⟨g',w',es,s',hgo,_,ht,hT⟩:=h w (hL.fit.nk 0);obtain⟨jK,u,hr,hL',Kp,Db,hrl⟩:=hL.own (sl:=sl) hG h0 hgo ht;exact Ends.next (dr.trans hr) (hT _ jK w' _ q sl hL' Kp (by rw[aY];exact St.le_refl _) (by rw[Db];exact hd) (hI.own _ _ _ _ _ _ _ hi ht hrl))
 mono:=λg s s' hl h K gs w t q sl hL h0 hle hd hi=>h K gs w t q sl hL h0 (hl.trans hle) hd hi
end
abbrev LA:=Option Value×Option Value
abbrev gq:LA:=(none,none)
def Rl:LA->Nat->Option Value
 | (a,_),0=>a
 | (_,b),1=>b
 |_,_=>none
theorem abP(off:Nat):Rl gq off=none:=by
 match off with
 |0=>rfl
 |1=>rfl
 |_+2=>rfl
def Xq:LA->Nat->Value->LA
 | (_,b),0,v=>(some v,b)
 | (a,_),1,v=>(a,some v)
 |c,_,_=>c
inductive RH(α:Type) where
 |ok (a:α)
 |halt (h:Halt)
structure VO(α:Type) where
 r:RH α
 ws:List (Nat×Value)
 es:List Event
 bs:List Nat
def Cw(P:Program)(ty:TypeId):Sem α->LA->Option (VO α)
 | .pure a,_=>some ⟨.ok a,[],[],[]⟩
 | .load m a k,c=>match a.spot with
  |some _=>none
  |none=>match Rl c a.off with
   |some v=>match Cw P ty (k v) c with
    |some o=>some ⟨o.r,o.ws,⟨.cell a,false,m== .atomic⟩::o.es,a.block::o.bs⟩
    |none=>none
   |none=>none
 | .store m a v k,c=>match a.spot with
  |some _=>none
  |none=>bif single v then (match Rl c a.off with
   |some _=>match Cw P ty k (Xq c a.off v) with
    |some o=>some ⟨o.r,(a.off,v)::o.ws,⟨.cell a,true,m== .atomic⟩::o.es,a.block::o.bs⟩
    |none=>none
   |none=>none) else none
 | .shape r k,c=>match Cw P ty (k (some (ty,2))) c with
  |some o=>some ⟨o.r,o.ws,o.es,r::o.bs⟩
  |none=>none
 | .frozen a k,c=>match Cw P ty (k false) c with
  |some o=>some ⟨o.r,o.ws,o.es,a.block::o.bs⟩
  |none=>none
 | .program k,c=>Cw P ty (k P) c
 | .mark m k,c=>match Cw P ty k c with
  |some o=>some ⟨o.r,o.ws,⟨.mark m,false,true⟩::o.es,o.bs⟩
  |none=>none
 | .halt h,_=>some ⟨.halt h,[],[],[]⟩
 |_,_=>none
def j6(ty:TypeId)(W:Nat)(w:World)(c:LA):Prop:=∃a b,w.heap[W]?=some (.cells #[a,b] ty)/\(∀x,c.1=some x->a=x)/\∀x,c.2=some x->b=x
theorem j6.anf{W:Nat}{w:World}{c:LA}(h:j6 ty W w c):∃a b,w.heap[W]?=some (.cells #[a,b] ty):=by
 obtain⟨a,b,h,_⟩:=h
 grind
def JU(W:Nat)(w:World)(ws:List (Nat×Value)):World:=ws.foldl (λw x=>w.setCell ⟨W,x.1,none⟩ x.2) w
def RH.to(w:World):RH α->Result α
 | .ok a=> .ok a w
 | .halt h=> .halt h w
theorem Rj{W:Nat}{w:World}{c:LA}(h:j6 ty W w c){v:Value}(hv:Rl c off=some v):w.cell? ⟨W,off,none⟩=some v:=by
 obtain⟨p,q,h,h1,h2⟩:=h;unfold Rl at hv
 grind [World.cell?]
def ak5{W:Nat}{w:World}{c:LA}(h:j6 ty W w c){u v:Value}(hv:Rl c off=some u):j6 ty W (w.setCell ⟨W,off,none⟩ v) (Xq c off v):=by
 obtain⟨p,q,h,h1,h2⟩:=h;unfold Rl at hv;split at hv<;>try (cases hv;done)
 .exact⟨v,q,by simp[World.setCell,fG,h],by simp[Xq],λx hx=>h2 x hx⟩
 exact⟨p,v,by simp[World.setCell,fG,h],λx hx=>h1 x hx,by simp[Xq]⟩
theorem amI{W:Nat}{w:World}{a b:Value}(h:w.heap[W]?=some (.cells #[a,b] ty)) (off:Nat) (s:Option Nat):w.frozen? ⟨W,off,s⟩=false:=by
 grind [World.frozen?]
theorem VC{P:Program}{W:Nat}(x:Sem α):∀ {c:LA} {o:VO α} {w:World} (es:Array Event),Cw P ty x c=some o->(∀b∈o.bs,b=W)->((c=gq/\o.bs=[])\/j6 ty W w c)->x.runT P w es=(o.r.to (JU W w o.ws),es++o.es.toArray):=by
 induction x with
 |pure a=>intro c o w es h hb hc;simp only[Cw,Option.some.injEq] at h;subst h;simp[Sem.runT,RH.to,JU]
 |halt a=>intro c o w es h hb hc;simp only[Cw,Option.some.injEq] at h;subst h;simp[Sem.runT,RH.to,JU]
 |load m a k ih=>
  intro c o w es h hb hc;simp only[Cw] at h;split at h<;>try (cases h;done)
  rename_i hs;split at h<;>try (cases h;done)
  rename_i v hv;split at h<;>try (cases h;done)
  rename_i o1 h1;simp only[Option.some.injEq] at h;subst h;have e:a=⟨W,a.off,none⟩:=by
   have:=hb a.block (by simp);rcases a with ⟨x,y,z⟩
   simp only at hs this;subst hs this;rfl
  have Bp:j6 ty W w c:=hc.elim (λhh=>by rw[hh.1] at hv;rw[abP] at hv;cases hv) id;have jP:w.cell? a=some v:=by rw[e];exact Rj Bp hv
  simp only[Sem.runT,jP];rw[ih v _ h1 (λb hm=>hb b (by simp[hm])) (.inr Bp)];simp
 |store m a v k ih=>
  intro c o w es h hb hc;simp only[Cw] at h;split at h<;>try (cases h;done)
  rename_i hs;cases hsg:single v with
  |false=>rw[hsg] at h;cases h
  |true=>
  rw[hsg] at h;simp only[cond_true] at h;split at h<;>try (cases h;done)
  rename_i u hu;split at h<;>try (cases h;done)
  rename_i o1 h1;simp only[Option.some.injEq] at h;subst h;have e:a=⟨W,a.off,none⟩:=by
   have:=hb a.block (by simp);rcases a with ⟨x,y,z⟩
   simp only at hs this;subst hs this;rfl
  have Bp:j6 ty W w c:=hc.elim (λhh=>by rw[hh.1] at hu;rw[abP] at hu;cases hu) id;have jP:w.cell? a=some u:=by rw[e];exact Rj Bp hu
  have F4:w.frozen? a=false:=by
   obtain⟨p,q,hpq⟩:=Bp.anf;rw[e];exact amI hpq _ _
  have wq:=ak5 (v:=v) Bp hu;have key:(Sem.store m a v k).runT P w es=k.runT P (w.setCell a v) (es.push ⟨.cell a,true,m== .atomic⟩):=by
   cases v<;>first| (cases hsg;done)|simp[Sem.runT,jP,F4]
  rw[key,ih _ h1 (λb hm=>hb b (by simp[hm])) (.inr (by rw[e];exact wq))];simp only[JU,List.foldl_cons];rw[<-e];simp
 |shape r k ih=>
  intro c o w es h hb hc;simp only[Cw] at h;split at h<;>try (cases h;done)
  rename_i o1 h1;simp only[Option.some.injEq] at h;subst h;have e:r=W:=hb r (by simp);have Bp:j6 ty W w c:=hc.elim (λhh=>by cases hh.2) id;have hsh:w.shape? r=some (ty,2):=by
   obtain⟨p,q,hpq⟩:=Bp.anf;rw[e];simp[World.shape?,hpq]
  simp only[Sem.runT,hsh];exact ih _ _ h1 (λb hm=>hb b (by simp[hm])) (.inr Bp)
 |frozen a k ih=>
  intro c o w es h hb hc;simp only[Cw] at h;split at h<;>try (cases h;done)
  rename_i o1 h1;simp only[Option.some.injEq] at h;subst h;have e:a.block=W:=hb a.block (by simp);have Bp:j6 ty W w c:=hc.elim (λhh=>by cases hh.2) id;have hsh:w.frozen? a=false:=by
   obtain⟨p,q,hpq⟩:=Bp.anf;rcases a with ⟨x,y,z⟩
   simp only at e;subst e;exact amI hpq _ _
  simp only[Sem.runT,hsh];exact ih _ _ h1 (λb hm=>hb b (by simp[hm])) (.inr Bp)
 |program k ih=>
  intro c o w es h hb hc;simp only[Cw] at h;simp only[Sem.runT];exact ih _ _ h hb hc
 |mark m k ih=>
  intro c o w es h hb hc;simp only[Cw] at h;split at h<;>try (cases h;done)
  rename_i o1 h1;simp only[Option.some.injEq] at h;subst h;simp only[Sem.runT];rw[ih _ h1 (λb hm=>hb b hm) hc];simp
 |new o k ih=>intro c o w es h;cases h
 |freeze a n k ih=>intro c o w es h;cases h
 |getObj r k ih=>intro c o w es h;cases h
 |setObj r o k ih=>intro c o w es h;cases h
 |choose q k ih=>intro c o w es h;cases h
 |sys q k ih=>intro c o w es h;cases h
def aJ7(fr:Frame):Option Frame:=
 match fr.todo with
 | []=>match fr.roundOf with
  |none=>some {fr with mode:= .returning}
  |some _=>none
 | .code .ret::_=>match fr.roundOf with
  |none=>some {fr with mode:= .returning}
  |some _=>none
 | .code .skip::k=>some {fr with todo:=k}
 | .code (.label _)::k=>some {fr with todo:=k}
 | .inBlock _::k=>some {fr with todo:=k}
 | .inScope _::k=>some {fr with todo:=k}
 | .code (.seq a b)::k=>some {fr with todo:= .code a:: .code b::k}
 | .code (.cond c x y)::k=>match fr.eval c with
  | .bool b=>some {fr with todo:= .code (if b then x else y)::k}
  |_=>none
 | .code (.block id body)::k=>some {fr with todo:= .code body:: .inBlock id::k}
 | .code (.loop body)::k=>some {fr with todo:= .code body:: .inLoop body::k}
 | .inLoop body::k=>some {fr with todo:= .code body:: .inLoop body::k}
 | .code (.scope body)::k=>some {fr with todo:= .code body:: .inScope body::k}
 | .code (.exit id)::k=>match exitTo id k with
  |some k'=>some {fr with todo:=k'}
  |none=>none
 | .code (.region _ ops false)::k=>some {fr with todo:= .inRegion ops (List.range ops.size)::k}
 | .inRegion _ []::k=>some {fr with todo:=k}
 | .inRegion ops (i::_)::_=>if ((ops[i]?).map (Region.wanted · (yielded ops fr.tmps))).getD false then none else some (fr.finish undef)
 |_=>none
theorem azb{P:Program}(hm:fr.mode= .run)(h:aJ7 fr=some n8)(w:World):stepG P main (G fr cs) w= .go (G n8 cs) w #[]:=by
 grind [aJ7,aD,G,stepG,stepG.exec]
inductive OV where
 |go (fr:Frame) (jq:List Frame)
 |ret (v:Value)
 |avK
 |block
abbrev OVs:=Option (OV×List (Nat×Value)×List Event×List Nat)
def DN(P:Program)(fn:FuncId)(es:List Event):List Event:=(seen P fn es.toArray).toList
def Od:CallKind->Bool
 | .early=>true
 |_=>false
def aow(P:Program)(ty:TypeId)(c:LA)(fr:Frame)(jq:List Frame):OVs:=
 match fr.todo with
 | .inRegion ops (i::_)::_=>bif ((ops[i]?).map (Region.wanted · (yielded ops fr.tmps))).getD false&& !(Od fr.kind) then (match fr.roundOf,fr.oper? with
  |none,some o=>match Cw P ty (execOp fr.eval o) c with
   |some ⟨.ok (.value v),ws,es,bs⟩=>some (.go (fr.finish v) jq,ws,DN P fr.fn es,bs)
   |some ⟨.ok .skip,ws,es,bs⟩=>some (.go (fr.finish undef) jq,ws,DN P fr.fn es,bs)
   |some ⟨.ok (.enter f args),ws,es,bs⟩=>some (.go (Frame.enter P f args .normal) (fr::jq),ws,DN P fr.fn es,bs)
   |some ⟨.ok (.defer d),ws,es,bs⟩=>some (.go ({fr with defers:=d::fr.defers}.finish undef) jq,ws,DN P fr.fn es,bs)
   |some ⟨.halt .blocked,ws,_,bs⟩=>some (.block,ws,[],bs)
   |_=>none
  |_,_=>none) else none
 |_=>none
def aRx:Target->Bool
 | .fn .. =>true
 |_=>false
def aD4(P:Program)(ty:TypeId)(c:LA)(fr:Frame)(jq:List Frame):OVs:=
 match fr.defers with
 | []=>match P.funcs[fr.fn]? with
  |some fn=>match Cw P ty (results fn fr.tmps) c with
   |some ⟨.ok v,ws,es,bs⟩=>match jq with
    |q::gJ=>match fr.kind with
     | .normal=>some (.go (q.finish v) gJ,ws,DN P fr.fn es,bs)
     | .deferred=>match q.mode with
      | .returning=>some (.go q gJ,ws,DN P fr.fn es,bs)
      |_=>none
     |_=>none
    | []=>match fr.kind with
     | .normal=>some (.ret v,ws,DN P fr.fn es,bs)
     | .deferred=>some (.avK,ws,DN P fr.fn es,bs)
     |_=>none
   |_=>none
  |none=>none
 |d::ds=>bif aRx d.target then (match Cw P ty (invoke d.target d.args) c with
  |some ⟨.ok (.value _),ws,es,bs⟩=>some (.go {fr with defers:=ds} jq,ws,DN P fr.fn es,bs)
  |some ⟨.ok (.enter f args),ws,es,bs⟩=>some (.go (Frame.enter P f args .deferred) ({fr with defers:=ds}::jq),ws,DN P fr.fn es,bs)
  |_=>none) else none
def PO(P:Program)(ty:TypeId)(c:LA)(fr:Frame)(jq:List Frame):OVs:=
 match fr.mode with
 | .run=>match aJ7 fr with
  |some n8=>some (.go n8 jq,[],[],[])
  |none=>aow P ty c fr jq
 | .returning=>aD4 P ty c fr jq
 |_=>none
def OV.is(P:Program)(main:Bool)(g:Goroutine)(w w':World)(es:Array Event)(cs:List Frame):OV->Prop
 | .go fr jq=>stepG P main g w= .go (G fr (jq++cs)) w' es
 | .ret v=>(∀c Sa,cs=c::Sa->stepG P main g w= .go (G (c.finish v) Sa) w' es)
 | .avK=>(∀c Sa,cs=c::Sa->(c.mode= .returning\/∃ch,c.mode= .panicking [⟨ch,false,true⟩])->stepG P main g w= .go (G c Sa) w' es)
 | .block=>stepG P main g w= .go {g with status:= .blocked} w' es
section
variable {P:Program} {main:Bool} {ty:TypeId} {W:Nat} {c:LA} {fr:Frame} {jq cs:List Frame} {w:World} {o:OV} {ws:List (Nat×Value)} {es:List Event} {bs:List Nat}
theorem toArr(P:Program)(fn:FuncId)(es:List Event):(DN P fn es).toArray=seen P fn es.toArray:=by rfl
def aov(hm:fr.mode= .run)(h:aow P ty c fr jq=some (o,ws,es,bs))(hb:∀b∈bs,b=W)(hc:(c=gq/\bs=[])\/j6 ty W w c)(cs:List Frame)(main:Bool):o.is P main (G fr (jq++cs)) w (JU W w ws) es.toArray cs:=by
 rcases fr with ⟨fn,tmps,todo,defers,mode,kind,ro⟩
 simp only at hm;subst hm;unfold aow at h;simp only at h;split at h<;>try (cases h;done)
 rename_i ops i rest k;cases hw:(((ops[i]?).map (Region.wanted · (yielded ops tmps))).getD false&& !(Od kind)) with
 |false=>rw[hw] at h;cases h
 |true=>
 rw[hw] at h;simp only[cH] at h;simp only[au] at hw;have hk:(kind==CallKind.early)=false:=by cases kind<;>first|rfl|cases hw.2
 split at h<;>try (cases h;done)
 rename_i op a8;have lq:∀cs,stepG P main (G ⟨fn,tmps,.inRegion ops (i::rest)::k,defers,.run,kind,none⟩ cs) w=stepG.apply P true ⟨fn,tmps,.inRegion ops (i::rest)::k,defers,.run,kind,none⟩ cs none (execOp (Frame.eval ⟨fn,tmps,.inRegion ops (i::rest)::k,defers,.run,kind,none⟩) op) w:=by
  intro cs;simp only[G,stepG,stepG.exec,hw.1,dI,stepG.oper,a8]
 split at h<;>try (cases h;done)
 all_goals
  rename_i heq hv;simp only[aD,bP] at h;obtain⟨rfl,rfl,rfl,rfl⟩:=h;have dz:=VC _ (w:=w) #[] hv hb hc;simp only[RH.to,dB] at dz;simp only[OV.is];rw[lq];simp only[stepG.apply,dz,dI,hk,aX,cF,GStep.after,bQ,G,toArr]
 all_goals first|rfl| (simp[seen_none];done)
def avf(hm:fr.mode= .returning)(h:aD4 P ty c fr jq=some (o,ws,es,bs))(hb:∀b∈bs,b=W)(hc:(c=gq/\bs=[])\/j6 ty W w c)(cs:List Frame)(main:Bool):o.is P main (G fr (jq++cs)) w (JU W w ws) es.toArray cs:=by
 rcases fr with ⟨fn,tmps,todo,defers,mode,kind,ro⟩
 simp only at hm;subst hm;unfold aD4 at h;simp only at h;split at h
 .split at h<;>try (cases h;done)
  rename_i f hf;split at h<;>try (cases h;done)
  rename_i v ws' iN tZ hv;have dz:=λhb hc=>VC _ (w:=w) #[] hv (W:=W) hb hc;simp only[RH.to,dB] at dz;have key:(∀b∈tZ,b=W)->((c=gq/\tZ=[])\/j6 ty W w c)->∀cs,stepG P main (G ⟨fn,tmps,todo,[],.returning,kind,ro⟩ cs) w=GStep.after (seen P fn iN.toArray) (doReturn P main ⟨fn,tmps,todo,[],.returning,kind,ro⟩ cs none v (JU W w ws')):=by
   intro hb hc cs;simp only[G,stepG,unwind,hf,dz hb hc]
  split at h
  .split at h<;>try (cases h;done)
   .simp only[aD,bP] at h;obtain⟨rfl,rfl,rfl,rfl⟩:=h;simp only[OV.is];rw[key hb hc];simp only[eg,doReturn,GStep.after,bQ,toArr,G]
   split at h<;>try (cases h;done)
   rename_i q gJ hmq;simp only[aD,bP] at h;obtain⟨rfl,rfl,rfl,rfl⟩:=h;simp only[OV.is];rw[key hb hc];simp only[eg,doReturn,hmq,GStep.after,bQ,toArr,G]
  split at h<;>try (cases h;done)
  .simp only[aD,bP] at h;obtain⟨rfl,rfl,rfl,rfl⟩:=h;intro q Sa hq;subst hq;rw[key hb hc];simp only[aL,doReturn,GStep.after,bQ,toArr,G]
  simp only[aD,bP] at h;obtain⟨rfl,rfl,rfl,rfl⟩:=h;intro q Sa hq hmq;subst hq;rw[key hb hc];rcases hmq with hmq| ⟨ch,hmq⟩
  .simp only[aL,doReturn,hmq,GStep.after,bQ,toArr,G]
  simp only[aL,doReturn,hmq,GStep.after,bQ,toArr,G]
 rename_i d ds;cases hd:aRx d.target with
 |false=>rw[hd] at h;cases h
 |true=>
 rw[hd] at h;simp only[cH] at h;rcases d with ⟨tg,args⟩
 cases tg with
 |fn f cap=>
  split at h<;>try (cases h;done)
  all_goals
   rename_i hv;simp only[aD,bP] at h;obtain⟨rfl,rfl,rfl,rfl⟩:=h;have dz:=VC _ (w:=w) #[] hv hb hc;simp only[RH.to,dB] at dz;simp only[OV.is];simp only[G,stepG,unwind,callDeferred,dz,GStep.after,toArr,bQ,wJ,aX,cF,eg]
 |_=>cases hd
def pX(h:PO P ty c fr jq=some (o,ws,es,bs))(hb:∀b∈bs,b=W)(hc:(c=gq/\bs=[])\/j6 ty W w c)(cs:List Frame)(main:Bool):o.is P main (G fr (jq++cs)) w (JU W w ws) es.toArray cs:=by
 unfold PO at h;split at h<;>try (cases h;done)
 .rename_i hm;split at h
  .rename_i n8 SY;obtain⟨rfl,rfl,rfl,rfl⟩:=h;exact azb hm SY w
  exact aov hm h hb hc cs main
 rename_i hm;exact avf hm h hb hc cs main
end
def atq:Event->Option (Nat×Nat×List Nat)
 | ⟨.mark .disable,false,true⟩=>some (1,0,[])
 | ⟨.mark .enable,false,true⟩=>some (2,0,[])
 | ⟨.mark (.releaseMerge ⟨b,o,none⟩),false,true⟩=>some (3,o,[b])
 | ⟨.mark (.acquire ⟨b,o,none⟩),false,true⟩=>some (4,o,[b])
 | ⟨.mark (.read ⟨b,o,none⟩),false,true⟩=>some (5,o,[b])
 | ⟨.mark (.write ⟨b,o,none⟩),false,true⟩=>some (6,o,[b])
 | ⟨.cell ⟨b,o,none⟩,false,true⟩=>some (7,o,[b])
 | ⟨.cell ⟨b,o,none⟩,true,true⟩=>some (8,o,[b])
 |_=>none
def Ed(W:Nat)(x:Nat×Nat):Event:=
 match x.1 with
 |1=>said .disable
 |2=>said .enable
 |3=>said (.releaseMerge ⟨W,x.2,none⟩)
 |4=>said (.acquire ⟨W,x.2,none⟩)
 |5=>said (.read ⟨W,x.2,none⟩)
 |6=>said (.write ⟨W,x.2,none⟩)
 |7=>⟨.cell ⟨W,x.2,none⟩,false,true⟩
 |_=>⟨.cell ⟨W,x.2,none⟩,true,true⟩
theorem atp{W:Nat}{e:Event}{k o:Nat}{bs:List Nat}(h:atq e=some (k,o,bs))(hb:∀b∈bs,b=W):e=Ed W (k,o):=by
 unfold atq at h;split at h<;>try (cases h;done)
 all_goals
  obtain⟨rfl,rfl,rfl⟩:=h
 .rfl
 .rfl
 all_goals
  have:=hb _ (aV.2 rfl);subst this;rfl
def Xm:List Event->Option (List (Nat×Nat)×List Nat)
 | []=>some ([],[])
 |e::l=>match atq e,Xm l with
  |some (k,o,b),some (r,bs)=>some ((k,o)::r,b++bs)
  |_,_=>none
theorem UQ{W:Nat}:∀ {es:List Event} {ks:List (Nat×Nat)} {bs:List Nat},Xm es=some (ks,bs)->(∀b∈bs,b=W)->es=ks.map (Ed W)
 | [],ks,bs,h,hb=>by obtain⟨rfl,rfl⟩:=h;rfl
 |e::l,ks,bs,h,hb=>by
  simp only[Xm] at h;split at h<;>try (cases h;done)
  rename_i k o b r tZ h1 h2;obtain⟨rfl,rfl⟩:=h;rw[bV,<-atp h1 (λx hx=>hb x (by simp[hx])),<-UQ h2 (λx hx=>hb x (by simp[hx]))]
abbrev Bl:=Option (List Nat)
def atZ:List Nat->Bl->Bl
 |a,some b=>some (a++b)
 |_,none=>none
def both:Bl->Bl->Bl
 |some a,some b=>some (a++b)
 |_,_=>none
def alk(f:α->Bl):List α->Bl
 | []=>some []
 |x::l=>both (f x) (alk f l)
theorem XB{a bs:List Nat}{x:Bl}(h:atZ a x=some bs){W:Nat}(hb:∀b∈bs,b=W):(∀b∈a,b=W)/\∃y,x=some y/\∀b∈y,b=W:=by
 cases x with
 |none=>cases h
 |some y=>
  simp only[atZ,aD] at h;subst h;exact⟨λb hm=>hb b (by grind),y,rfl,λb hm=>hb b (by grind)⟩
theorem y8{bs:List Nat}{x y:Bl}(h:both x y=some bs){W:Nat}(hb:∀b∈bs,b=W):(∃a,x=some a/\∀b∈a,b=W)/\∃a,y=some a/\∀b∈a,b=W:=by
 cases x with
 |none=>cases h
 |some a=>
  cases y with
  |none=>cases h
  |some b=>
   simp only[both,aD] at h;subst h;exact⟨⟨a,rfl,λb hm=>hb b (by grind)⟩,b,rfl,λb hm=>hb b (by simp[hm])⟩
theorem B9{f:α->Bl}{W:Nat}:∀ {l:List α} {bs:List Nat},alk f l=some bs->(∀b∈bs,b=W)->∀x∈l,∃a,f x=some a/\∀b∈a,b=W
 | [],_,_,_,x,hx=>by grind
 |y::l,bs,h,hb,x,hx=>by
  obtain⟨h1,h2,h3,h4⟩:=y8 h hb;rcases aS.1 hx with rfl|hx
  .omega
  exact B9 h3 h4 x hx
def E1(P:Program)(ty:TypeId):Nat->Frame->List Frame->(Frame->List Frame->Bl)->Bl
 |0,_,_,_=>none
 |n+1,fr,jq,k=>match PO P ty gq fr jq with
  |some (.go n8 gJ,[],[],bs)=>atZ bs (E1 P ty n n8 gJ k)
  |_=>k fr jq
def acO(P:Program)(ty:TypeId)(c:LA)(fr:Frame)(jq:List Frame):Option (Frame×List Frame×List (Nat×Value)×List (Nat×Nat)×List Nat×List Nat):=
 match PO P ty c fr jq with
 |some (.go n8 gJ,ws,es,bs)=>match Xm es with
  |some (ks,b2)=>some (n8,gJ,ws,ks,bs,b2)
  |none=>none
 |_=>none
def i64(n:Int):Value:= .int .u64 n
def i32(n:Int):Value:= .int .u32 n
def afJ:List (Nat×Nat)->List (Nat×Nat)->Bool
 | [],[]=>true
 | (a,b)::l,(c,d)::m=>Nat.beq a c&&(Nat.beq b d&&afJ l m)
 |_,_=>false
theorem aiv:∀ {l m:List (Nat×Nat)},afJ l m=true->l=m
 | [],[],_=>rfl
 | (a,b)::l,(c,d)::m,h=>by
  simp only[afJ,au] at h;rw[eC h.1,eC h.2.1,aiv h.2.2]
 | [],_::_,h=>by grind [afJ]
 |_::_,[],h=>by grind [afJ]
def ala:List (Nat×Value)->Option (Nat×IntKind×Int)->Bool
 | [],none=>true
 | [(o,.int k n)],some (o',k',n')=>Nat.beq o o'&&(decide (k=k')&&decide (n=n'))
 |_,_=>false
theorem ak9{l:List (Nat×Value)}(h:ala l none=true):l=[]:=by
 grind [ala]
theorem ak8{l:List (Nat×Value)}{o:Nat}{k:IntKind}{n:Int}(h:ala l (some (o,k,n))=true):l=[(o,.int k n)]:=by
 unfold ala at h;split at h
 all_goals simp_all
def Ft(P:Program)(ty:TypeId)(c:LA)(m:Bool)(wr:Option (Nat×IntKind×Int))(ks:List (Nat×Nat))(fr:Frame)(jq:List Frame)(k:Frame->List Frame->Bl):Bl:=
 match acO P ty c fr jq with
 |some (n8,gJ,ws,ks',b1,b2)=>bif ala ws wr&&(afJ ks' ks&&(!m||b1.isEmpty)) then atZ b1 (atZ b2 (k n8 gJ)) else none
 |none=>none
section
variable {P:Program} {ty:TypeId} {W:Nat}
def HF{c:LA}{gJ:List Frame}{ws:List (Nat×Value)}{ks:List (Nat×Nat)}{b1 b2:List Nat}(h:acO P ty c fr jq=some (n8,gJ,ws,ks,b1,b2))(h1:∀b∈b1,b=W)(h2:∀b∈b2,b=W)
 {w:World}(hc:(c=gq/\b1=[])\/j6 ty W w c)(cs:List Frame)(main:Bool):stepG P main (G fr (jq++cs)) w= .go (G n8 (gJ++cs)) (JU W w ws) (ks.map (Ed W)).toArray:=by
 unfold acO at h;split at h<;>try (cases h;done)
 rename_i h0;split at h<;>try (cases h;done)
 rename_i hk;simp only[aD,bP] at h;obtain⟨rfl,rfl,rfl,rfl,rfl,rfl⟩:=h;have:=pX h0 h1 hc cs main;simp only[OV.is] at this;rw[this,UQ hk h2]
def wrote(W:Nat)(w:World):Option (Nat×IntKind×Int)->World
 |none=>w
 |some (o,k,n)=>w.setCell ⟨W,o,none⟩ (.int k n)
def gx{c:LA}{m:Bool}{x:Option (Nat×IntKind×Int)}{ks:List (Nat×Nat)}{k:Frame->List Frame->Bl}{bs:List Nat}(h:Ft P ty c m x ks fr jq k=some bs)(hb:∀b∈bs,b=W):
 ∃n8 gJ tZ,k n8 gJ=some tZ/\(∀b∈tZ,b=W)/\∀cs main w,((c=gq/\m=true)\/j6 ty W w c)->stepG P main (G fr (jq++cs)) w= .go (G n8 (gJ++cs)) (wrote W w x) (ks.map (Ed W)).toArray:=by
 unfold Ft at h;split at h<;>try (cases h;done)
 rename_i n8 gJ ws ks' b1 b2 hv;cases hq:(ala ws x&&(afJ ks' ks&&(!m||b1.isEmpty))) with
 |false=>rw[hq] at h;cases h
 |true=>
 rw[hq] at h;simp only[cH] at h;simp only[au] at hq;obtain⟨q1,q2,q3⟩:=hq;obtain⟨h1,y,hy,R2⟩:=XB h hb;obtain⟨h2,z,hz,BR⟩:=XB hy R2;refine⟨n8,gJ,z,hz,BR,λcs main w hc=>?_⟩;have:=HF hv h1 h2 (w:=w) (by
  rcases hc with ⟨hc,hm⟩|hc
  .subst hm;simp at q3;exact .inl ⟨hc,q3⟩
  exact .inr hc) cs main
 rw[this,aiv q2];cases x with
 |none=>rw[ak9 q1];rfl
 |some x=>
  obtain⟨o,kd,n⟩:=x;rw[ak8 q1];rfl
def WX{k:Frame->List Frame->Bl}:∀ {n:Nat} {fr:Frame} {jq:List Frame} {bs:List Nat},E1 P ty n fr jq k=some bs->(∀b∈bs,b=W)->
 ∀(T:Frame->List Frame->Prop),(∀n8 gJ tZ,k n8 gJ=some tZ->(∀b∈tZ,b=W)->T n8 gJ)->
 (∀fr jq n8 gJ,(∀cs main w,j6 ty W w gq->stepG P main (G fr (jq++cs)) w= .go (G n8 (gJ++cs)) w #[])->T n8 gJ->T fr jq)->T fr jq
 |0,_,_,_,h,_,_,_,_=>by cases h
 |n+1,fr,jq,bs,h,hb,T,hk,hs=>by
  simp only[E1] at h;split at h
  .rename_i n8 gJ b1 h0;obtain⟨h1,y,hy,R2⟩:=XB h hb;refine hs fr jq n8 gJ (λcs main w hc=>?_) (WX hy R2 T hk hs);have:=pX h0 h1 (.inr hc) cs main;simp only[OV.is] at this;rw[this];rfl
  exact hk _ _ _ h hb
end
section
variable {ι:Type} (E:iS ι)
def sZ{w:World}(h:E.live w):j6 E.ty E.Wg w gq:=by
 obtain⟨st,sm,h⟩:=h;exact⟨_,_,h,by simp,by simp⟩
def kR{w:World}(h:WgAt E.ty E.Wg w st sm):j6 E.ty E.Wg w (some (i64 st),some (i32 sm)):=⟨_,_,h,by simp[i64],by simp[i32]⟩
def ang{w:World}(h:WgAt E.ty E.Wg w st sm):j6 E.ty E.Wg w (none,some (i32 sm)):=⟨_,_,h,by simp,by simp[i32]⟩
variable {E}
def jR{Stop:Goroutine->Prop}{k:Frame->List Frame->Bl}{bs:List Nat}(h:E1 E.P E.ty n fr jq k=some bs)(hb:∀b∈bs,b=E.Wg)
 (hk:∀n8 gJ tZ,k n8 gJ=some tZ->(∀b∈tZ,b=E.Wg)->Stop (G n8 (gJ++cs))):E.pure main Stop (G fr (jq++cs)):=by
 refine WX h hb (λfr jq=>E.pure _ _ (G fr (jq++cs))) (λn8 gJ tZ h1 h2=>⟨0,hk _ _ _ h1 h2⟩) λfr jq n8 gJ h1 ⟨m,hm⟩=>⟨m+1,rfl,_,λw hw=>h1 cs _ w (sZ E hw),hm⟩
def goR(P:Program)(ty:TypeId):Nat->Frame->List Frame->Bl
 |0,_,_=>none
 |n+1,fr,jq=>match PO P ty gq fr jq with
  |some (.go n8 gJ,[],[],[])=>goR P ty n n8 gJ
  |some (.ret (.tuple ⟨[]⟩),[],[],[])=>some []
  |_=>none
def KM{P:Program}{c:Frame}:∀ {n:Nat} {fr:Frame} {jq:List Frame} {bs:List Nat},goR P ty n fr jq=some bs->
 ∀(main:Bool) (T:Goroutine->Prop),T (G (c.finish (.tuple #[])) cs)->(∀g g',g.status= .running->g'.status= .running->(∀w,stepG P main g w= .go g' w #[])->T g'->T g)->T (G fr (jq++c::cs))
 |0,_,_,_,h,_,_,_,_=>by cases h
 |n+1,fr,jq,bs,h,main,T,hT,hs=>by
  simp only[goR] at h;split at h
  .rename_i n8 gJ h0;refine hs _ _ rfl rfl (λw=>?_) (KM h main T hT hs);have:=pX (W:=0) (w:=w) h0 (by simp) (.inl ⟨rfl,rfl⟩) (c::cs) main;simp only[OV.is] at this;rw[this];rfl
  .rename_i h0;refine hs _ _ rfl rfl (λw=>?_) hT;have:=pX (W:=0) (w:=w) h0 (by simp) (.inl ⟨rfl,rfl⟩) (c::cs) main;simp only[OV.is] at this;have h2:=this c cs rfl;rw[h2];rfl
  cases h
def Z1:List Event->Bool
 | []=>true
 |e::l=>e.mute&&Z1 l
def goQ(P:Program)(ty:TypeId):Nat->Nat->Frame->List Frame->Bl
 |0,_,_,_=>none
 |n+1,d,fr,jq=>match PO P ty gq fr jq with
  |some (.go n8 gJ,[],es,[])=>bif Z1 es then goQ P ty n (deafBehind d es.toArray) n8 gJ else none
  |some (.avK,[],[],[])=>bif Nat.beq d 0 then some [] else none
  |_=>none
theorem Z0:∀ {es:List Event},Z1 es=true->∀e∈es,e.mute=true
 | [],_,e,he=>by grind
 |x::l,h,e,he=>by
  simp only[Z1,au] at h;rcases aS.1 he with rfl|he
  .grind
  exact Z0 h.2 e he
def ae7{P:Program}{c:Frame}{q:Nat}(hc:c.mode= .returning\/∃ch,c.mode= .panicking [⟨ch,false,true⟩])(hq:QuitsD P q 0 (G c cs)):∀ {n d:Nat} {fr:Frame} {jq:List Frame} {bs:List Nat},goQ P ty n d fr jq=some bs->
 ∃q,QuitsD P q d (G fr (jq++c::cs))
 |0,_,_,_,_,h=>by cases h
 |n+1,d,fr,jq,bs,h=>by
  simp only[goQ] at h;split at h
  .rename_i n8 gJ es h0;cases hm:Z1 es with
   |false=>rw[hm] at h;cases h
   |true=>
   rw[hm] at h;simp only[cH] at h;obtain⟨q',Qi⟩:=ae7 hc hq h;refine⟨q'+1,.inr ⟨rfl,_,es.toArray,λe he=>Z0 hm e (by simpa using he),λw=>?_,Qi⟩⟩;have:=pX (W:=0) (w:=w) h0 (by simp) (.inl ⟨rfl,rfl⟩) (c::cs) false;simp only[OV.is] at this;rw[this];rfl
  .rename_i h0;cases hd:Nat.beq d 0 with
   |false=>rw[hd] at h;cases h
   |true=>
   have:d=0:=eC hd;subst this;refine⟨q+1,.ctl rfl (λw=>?_) hq⟩;have:=pX (W:=0) (w:=w) h0 (by simp) (.inl ⟨rfl,rfl⟩) (c::cs) false;simp only[OV.is] at this;have h2:=this c cs rfl hc;rw[h2];rfl
  cases h
end
section
variable (P:Program) (ty:TypeId)
abbrev Hk(a b:Int):LA:=(some (i64 a),some (i32 b))
abbrev YU:List (Nat×Nat):=[(1,0),(7,1),(8,1),(2,0)]
def atG(f:Frame)(s:List Frame):Bl:=bif mayWake P (G f []) then Ft P ty (Hk 0 0) false (some (1,.u32,1)) YU f s (goQ P ty 300 1) else none
def aCC(f:Frame)(s:List Frame):Bl:=Ft P ty (Hk 1 0) false (some (0,.u64,0)) [(8,0)] f s λf s=>E1 P ty 300 f s (atG P ty)
def aCD(f:Frame)(s:List Frame):Bl:=Ft P ty (Hk 1 0) false none [(7,0)] f s λf s=>E1 P ty 300 f s (aCC P ty)
def afz(f:Frame)(s:List Frame)(v wt:Nat):Bl:=
 Ft P ty (Hk (((v+1:Nat):Int)*KK+(wt:Int)) 0) false (some (0,.u64,(v:Int)*KK+(wt:Int))) [(7,0),(8,0)] f s λf s=>bif Nat.beq v 0&&Nat.beq wt 1 then E1 P ty 300 f s (aCD P ty) else goQ P ty 300 1 f s
def aCE(mx:Nat)(f:Frame)(s:List Frame):Bl:=alk (λv=>both (afz P ty f s v 0) (afz P ty f s v 1)) (List.range mx)
def aCB(mx:Nat)(f:Frame)(s:List Frame):Bl:=Ft P ty gq true none [(1,0)] f s λf s=>E1 P ty 300 f s (aCE P ty mx)
def aCA(mx:Nat)(f:Frame)(s:List Frame):Bl:=Ft P ty gq true none [(3,0)] f s λf s=>E1 P ty 300 f s (aCB P ty mx)
def B4(mx:Nat)(f:Frame):Bl:=E1 P ty 300 f [] (aCA P ty mx)
def atL(f:Frame)(s:List Frame):Bl:=Ft P ty gq true none [(4,0)] f s (goR P ty 300)
def UX(f:Frame)(s:List Frame):Bl:=Ft P ty gq true none [(2,0)] f s λf s=>E1 P ty 300 f s (atL P ty)
def aty(f:Frame)(s:List Frame):Bl:=Ft P ty (Hk 0 0) false none [(7,0)] f s λf s=>E1 P ty 300 f s (UX P ty)
def atT(c:LA)(f:Frame)(s:List Frame):Bl:=match PO P ty c f s with
 |some (.block,[],[],bs)=>some bs
 |_=>none
def atA(f:Frame)(s:List Frame):Bl:=both (atT P ty (none,some (i32 0)) f s) (Ft P ty (Hk 0 1) false (some (1,.u32,0)) YU f s λf s=>E1 P ty 300 f s (aty P ty))
def ail(f:Frame)(s:List Frame):Bl:=Ft P ty gq true none [(6,1)] f s λf s=>E1 P ty 300 f s (atA P ty)
end
section
variable {ι:Type} {E:iS ι}
section leave
variable {c:Frame} {cs:List Frame} (hc:c.mode= .returning\/∃ch,c.mode= .panicking [⟨ch,false,true⟩]) {q0:Nat} (hq:QuitsD E.P q0 0 (G c cs))
include hc hq
theorem atF{s:List Frame}{bs:List Nat}(h:atG E.P E.ty f s=some bs)(hb:∀b∈bs,b=E.Wg):E.D4 (G f (s++c::cs)):=by
 unfold atG at h;cases hm:mayWake E.P (G f []) with
 |false=>grind
 |true=>
 rw[hm] at h;obtain⟨f',s',tZ,h1,h2,h3⟩:=gx h hb;exact⟨rfl,hm,_,λw hw=>h3 _ _ w (.inr (kR E hw)),ae7 hc hq h1⟩
def atH{s:List Frame}{bs:List Nat}(h:aCC E.P E.ty f s=some bs)(hb:∀b∈bs,b=E.Wg):E.D3 (G f (s++c::cs)):=by
 obtain⟨f',s',tZ,h1,h2,h3⟩:=gx h hb;exact⟨rfl,_,λw hw=>h3 _ _ w (.inr (kR E hw)),jR h1 h2 λ_ _ _ k1 k2=>atF hc hq k1 k2⟩
def atI{s:List Frame}{bs:List Nat}(h:aCD E.P E.ty f s=some bs)(hb:∀b∈bs,b=E.Wg):E.D2 (G f (s++c::cs)):=by
 obtain⟨f',s',tZ,h1,h2,h3⟩:=gx h hb;exact⟨rfl,_,λw hw=>h3 _ _ w (.inr (kR E hw)),jR h1 h2 λ_ _ _ k1 k2=>atH hc hq k1 k2⟩
def atJ{s:List Frame}{bs:List Nat}(h:aCE E.P E.ty E.max f s=some bs)(hb:∀b∈bs,b=E.Wg):E.D1 (G f (s++c::cs)):=by
 refine⟨rfl,λv wt hwt hv=>?_⟩;obtain⟨a,h1,h2⟩:=B9 h hb v (ee.2 hv);have key:∃a,afz E.P E.ty f s v wt=some a/\∀b∈a,b=E.Wg:=by
  obtain⟨k1,k2⟩:=y8 h1 h2
  match wt,hwt with
  |0,_=>exact k1
  |1,_=>exact k2
 obtain⟨a',k1,k2⟩:=key;obtain⟨f',s',tZ,j1,j2,j3⟩:=gx k1 k2;refine⟨_,λw hw=>j3 _ _ w (.inr (kR E hw)),λhh=>?_,λhh=>?_⟩
 .obtain⟨rfl,rfl⟩:=hh;exact jR j1 j2 λ_ _ _ k1 k2=>atI hc hq k1 k2
 have:(Nat.beq v 0&&Nat.beq wt 1)=false:=by
  cases hx:(Nat.beq v 0&&Nat.beq wt 1) with
  |false=>rfl
  |true=>
   simp only[au] at hx;exact absurd ⟨eC hx.1,eC hx.2⟩ hh
 rw[this] at j1;simp only[fJ] at j1;exact ae7 hc hq j1
def atE{s:List Frame}{bs:List Nat}(h:aCB E.P E.ty E.max f s=some bs)(hb:∀b∈bs,b=E.Wg):E.K1 (G f (s++c::cs)):=by
 obtain⟨f',s',tZ,h1,h2,h3⟩:=gx h hb;exact⟨rfl,_,λw=>h3 _ _ w (.inl ⟨rfl,rfl⟩),jR h1 h2 λ_ _ _ k1 k2=>atJ hc hq k1 k2⟩
def atD{s:List Frame}{bs:List Nat}(h:aCA E.P E.ty E.max f s=some bs)(hb:∀b∈bs,b=E.Wg):E.R0 (G f (s++c::cs)):=by
 obtain⟨f',s',tZ,h1,h2,h3⟩:=gx h hb;exact⟨rfl,_,λw=>h3 _ _ w (.inl ⟨rfl,rfl⟩),jR h1 h2 λ_ _ _ k1 k2=>atE hc hq k1 k2⟩
def Rg{bs:List Nat}(h:B4 E.P E.ty E.max f=some bs)(hb:∀b∈bs,b=E.Wg):E.pure false E.R0 (G f (c::cs)):=
 jR h hb λ_ _ _ k1 k2=>atD hc hq k1 k2
end leave
end
def CA(P:Program):Class:=λmain T=>Closed P main T
def ann:Code->Nat
 | .seq a b=>ann a+ann b+1
 |_=>0
def nS(l:List Code):List Code:=l.flatMap oz
section
variable {P:Program} {main:Bool} {T:Goroutine->St->Prop} {b:Frame} {k:List Item} {cs:List Frame} {a:Act} {s:St} {n LF:Nat} {D:List Deferred} {call:fC} {ops:Array Oper}
 {ρ:dw} {ce e:Env} {m:Mem} {F:Nat×Obj->Prop} {R:Nat->Option Obj}
abbrev On(T:Goroutine->St->Prop)(b:Frame)(a:Act)(l:List Code)(k:List Item)(cs:List Frame)(s:St):Prop:=T (G (dH b a (l.map .code++k)) cs) s
def xG(hT:Closed P main T){c0:Code}{rest:List Code}:∀ {l:List Code},nS l=c0::rest->(∀l',nS l'=rest->T (G (dH b a (.code c0::(l'.map .code++k))) cs) s)->On T b a l k cs s:=by
 intro l;generalize hn:(l.map ann).sum=q
 induction q using Nat.strongRecOn generalizing l with
 |_ q ih=>
  intro hl h;cases l with
  |nil=>cases hl
  |cons c l=>
   cases hc:c with
   |seq x y=>
    subst hc;refine hT.go rfl rfl (g':=G (dH b a ((x::y::l).map .code++k)) cs) (λw=>by simp[G,stepG,stepG.exec,dH])<|ih ((x::y::l).map ann).sum ?_ rfl ?_ h
    .rw[<-hn];simp[ann];omega
    rw[<-hl];simp[nS,oz]
   |_=>
    subst hc;simp only[nS,iH,oz,List.singleton_append,lO] at hl;obtain⟨rfl,hl⟩:=hl;exact h l hl
def J0(hT:Closed P main T){rest:List Code}(hl:nS l= .region id ops false::rest)(h:∀l',nS l'=rest->T (G (dH b a (.inRegion ops (List.range ops.size)::(l'.map .code++k))) cs) s):On T b a l k cs s:=
 xG hT hl λl' Kr=>hT.go rfl rfl (λw=>by rfl) (h l' Kr)
def awm(hT:Closed P main T){c:Operand}{x y:Code}{t:Bool}{rest:List Code}(hl:nS l= .cond c x y::rest)(hc:a.eval c= .bool t)(h:∀l',nS l'=rest->T (G (dH b a (.code (if t then x else y)::(l'.map .code++k))) cs) s):On T b a l k cs s:=
 xG hT hl λl' Kr=>hT.go rfl rfl (λw=>by
  have he:=uM b a (.code (.cond c x y)::(l'.map .code++k));simp_all[dH,G,stepG,stepG.exec]) (h l' Kr)
def aoB(hT:Closed P main T){c:Code}{rest:List Code}(hl:nS l= .block id c::rest)(h:∀l',nS l'=rest->On T b a [c] (.inBlock id::(l'.map .code++k)) cs s):On T b a l k cs s:=
 xG hT hl λl' Kr=>hT.go rfl rfl (λw=>by rfl) (h l' Kr)
def akS(hT:Closed P main T)(h:T (G (dH b a k) cs) s):T (G (dH b a (.inBlock id::k)) cs) s:=
 hT.go rfl rfl (λw=>by rfl) h
def awl(hT:Closed P main T){c:Code}{rest:List Code}(hl:nS l= .loop c::rest)(h:∀l',nS l'=rest->On T b a [c] (.inLoop c::(l'.map .code++k)) cs s):On T b a l k cs s:=
 xG hT hl λl' Kr=>hT.go rfl rfl (λw=>by rfl) (h l' Kr)
def afT(hT:Closed P main T){c:Code}(h:On T b a [c] (.inLoop c::k) cs s):T (G (dH b a (.inLoop c::k)) cs) s:=
 hT.go rfl rfl (λw=>by rfl) h
def ay7(hT:Closed P main T)(h:T (G (dH b a k) cs) s):T (G (dH b a (.code .skip::k)) cs) s:=
 hT.go rfl rfl (λw=>by rfl) h
theorem ay8(hT:Closed P main T){k':List Item}(hk:exitTo id k=some k')(h:T (G (dH b a k') cs) s):T (G (dH b a (.code (.exit id)::k)) cs) s:=
 hT.go rfl rfl (λw=>by grind [G,stepG,stepG.exec,dH]) h
def rS(hT:Closed P main T)(h:T (G (dH b a k) cs) s):T (G (dH b a (.inRegion ops []::k)) cs) s:=
 hT.go rfl rfl (λw=>by rfl) h
theorem Hf(id:Nat):∀(l:List Code) (k:List Item),exitTo id (l.map .code++k)=exitTo id k
 | [],k=>rfl
 |c::l,k=>by
  exact Hf id l k
def DF(hT:Closed P main T){rest:List Nat}{o:Oper}(ho:ops[i]?=some o) (hw:Region.wanted o (yielded ops a.tmps)=true) (hk:b.kind≠ .early) (hb:b.roundOf=none)
 (h:eJ P (execOp a.eval o) s (λnx s'=>∃v,nx= .value v/\T (G (dH b (a.put o.dst v) (.inRegion ops rest::k)) cs) s') (λ_ _=>False)):T (G (dH b a (.inRegion ops (i::rest)::k)) cs) s:=by
 have my:(b.kind==CallKind.early)=false:=by simpa using hk
 have lq:∀w,stepG P main (G (dH b a (.inRegion ops (i::rest)::k)) cs) w=stepG.apply P true (dH b a (.inRegion ops (i::rest)::k)) cs none (execOp a.eval o) w:=by
  intro w;have he:=uM b a (.inRegion ops (i::rest)::k);simp only[dH] at he;simp only[G,stepG,stepG.exec,dH,ho,di,wH,hw,dI,stepG.oper,Frame.oper?,he];rw[hb]
 refine hT.step _ _ rfl λw yy=>?_;obtain⟨r,es,hr,hl⟩:=lD _ _ _ _ w #[] h yy;rw[dB] at hr;have sJ:=lq w;simp only[stepG.apply,dI,hr] at sJ;simp only[dH,my,aX,cF] at sJ;cases r with
 |ok nx w'=>
  obtain⟨s',ht,v,rfl,hv⟩:=hl;simp only[GStep.after,bQ] at sJ;have uC:=mZ b a ops i rest k v;rw[ho] at uC;simp only[oT] at uC;rw[<-uC] at hv;exact⟨_,_,_,s',sJ,rfl,ht.sub (mG P b.fn es),hv⟩
 |halt hh w'=>
  obtain⟨s',ht,hu⟩:=hl;exact hu.elim
theorem jJ(o:Oper)(f:Nat->Option Bool)(h:o.guard=none):Region.wanted o f=true:=by grind [Region.wanted]
end
def St.freeze(s:St):St:=⟨λb=>match s.rw.find? (λx=>x.1==b) with
 |some x=>some x.2
 |none=>s.ro b,[]⟩
theorem abt{l:List (Nat×Obj)}{x:Nat×Obj}(h:l.find? (λx=>x.1==b)=some x):x∈l/\x.1=b:=
 by grind
theorem MO{l:List (Nat×Obj)}(hn:(l.map (·.1)).Nodup)(h:(b,o)∈l):l.find? (λx=>x.1==b)=some (b,o):=by
 induction l with
 |nil=>grind
 |cons y l ih=>
  grind
theorem St.akL(s:St):s.freeze.le s:=by
 refine⟨s.rw,by rfl,λb o h=>?_⟩
 grind [St.freeze]
theorem St.KP{s:St}(h:s.ro b=some o)(ha:∀b o,(b,o)∈s.rw->s.ro b=none):s.freeze.ro b=some o:=by
 grind [St.freeze]
theorem St.KO{s:St}(h:(b,o)∈s.rw)(hn:(s.rw.map (·.1)).Nodup):s.freeze.ro b=some o:=by
 grind [St.freeze,MO]
section
variable {P:Program} {ρ:dw} {m:Mem} {F:Nat×Obj->Prop} {R:Nat->Option Obj} {s:St}
theorem Closed.nk{T:Goroutine->St->Prop}(hT:Closed P main T){g:Goroutine}(hs:g.status= .running)(h:(∃w,cZ s w)->T g s):T g s:=by
 by_cases ha:∃w,cZ s w
 .grind
 exact hT.step _ _ hs λw hw=>absurd ⟨w,hw⟩ ha
end
section
variable {P:Program} {main:Bool} {T:Goroutine->St->Prop} {b:Frame} {k:List Item} {cs:List Frame} {a:Act} {s:St} {n LF:Nat} {D:List Deferred} {call:fC} {ops:Array Oper}
 {ρ:dw} {ce e:Env} {m:Mem} {F:Nat×Obj->Prop} {R:Nat->Option Obj}
def PN(hT:Closed P main T){rest:List Nat}{o:Oper}(ho:ops[i]?=some o) (hg:o.guard=none) (hk:b.kind≠ .early) (hb:b.roundOf=none) {f:FuncId} {xs:Array Operand} {ats:Array TypeId} (a8:o.op= .call ⟨.value (.func f),xs,ats⟩) (hf:FF P f)
 (h:T (G (Frame.enter P f (xs.map a.eval) .normal) (dH b a (.inRegion ops (i::rest)::k)::cs)) s):T (G (dH b a (.inRegion ops (i::rest)::k)) cs) s:=by
 have my:(b.kind==CallKind.early)=false:=by simpa using hk
 have hw:Region.wanted o (yielded ops a.tmps)=true:=jJ o _ hg;have BS:eJ P (execOp a.eval o) s (λnx s'=>nx= .enter f (xs.map a.eval)/\s'=s) (λ_ _=>False):=by
  have e1:a.eval (.func f)= .func (.func f) #[] #[]:=rfl;simp only[execOp,a8,resolve,e1,Deferred.ofValue,aH,aQ,invoke];have:(#[]++xs.map a.eval:Array Value)++ #[]=xs.map a.eval:=by simp
  rw[this];exact oG hf ⟨rfl,rfl⟩
 have lq:∀w,stepG P main (G (dH b a (.inRegion ops (i::rest)::k)) cs) w=stepG.apply P true (dH b a (.inRegion ops (i::rest)::k)) cs none (execOp a.eval o) w:=by
  intro w;have he:=uM b a (.inRegion ops (i::rest)::k);simp only[dH] at he;simp only[G,stepG,stepG.exec,dH,ho,di,wH,hw,dI,stepG.oper,Frame.oper?,he];rw[hb]
 refine hT.step _ _ rfl λw yy=>?_;obtain⟨r,es,hr,hl⟩:=lD _ _ _ _ w #[] BS yy;rw[dB] at hr;have sJ:=lq w;simp only[stepG.apply,dI,hr] at sJ;simp only[dH,my,aX,cF] at sJ;cases r with
 |ok nx w'=>
  obtain⟨s',ht,rfl,rfl⟩:=hl;simp only[GStep.after,bQ] at sJ;exact⟨_,_,_,_,sJ,rfl,ht.sub (mG P b.fn es),h⟩
 |halt hh w'=>
  obtain⟨s',ht,hu⟩:=hl;exact hu.elim
def gX(P:Program):Frame:={(default:Frame) with fn:=P.funcs.size,defers:=[],mode:= .panicking [goexitEntry]}
def Zo(P:Program):QuitsD P 1 0 (G (gX P) []):=by
 have hc:(gX P).catches P=false:=by
  simp[Frame.catches,gX];rfl
 refine .ctl (g':={(G (gX P) []) with status:= .finished}) rfl (λw=>?_) ⟨rfl,rfl⟩;have dr:stepG P false (G (gX P) []) w=unwind P false (gX P) [] none w:=rfl;rw[dr];unfold unwind;have h1:(gX P).defers=[]:=rfl;have h2:(gX P).mode= .panicking [goexitEntry]:=rfl;simp only[h1,h2,hc,aX,cF];simp[goexitEntry,G]
def zv{fn:Func}(hm:fr.mode= .returning)(hd:fr.defers=[])(hk:fr.kind= .deferred)(hf:P.funcs[fr.fn]?=some fn) (hr:fn.results= #[]):QuitsD P 2 0 (G fr [gX P]):=by
 refine .ctl rfl (λw=>?_) (Zo P);have h1:∀tm,results fn tm=Sem.pure (.tuple #[]):=by intro tm;simp[results,hr];rfl
 rcases fr with ⟨fn',tmps,todo,defers,mode,kind,ro⟩
 subst hm hd hk;simp only[G,stepG,unwind,hf,h1,Sem.runT,seen_none,GStep.after,doReturn,gX,goexitEntry,bQ]
end
structure ab2 where
 f:FuncId
 n:Nat
 cl:List Code
 o7:Array Oper
 o:Oper
 sc:Operand
 sv:Operand
 done:FuncId
def py(h:nS l=[]):l=[]:=by
 cases l with
 |nil=>rfl
 |cons y l=>
  exfalso;have:∀c:Code,oz c≠[]:=by
   intro c
   induction c with
   |seq p q ihp ihq=>simp[oz,ihp]
   |_=>simp[oz]
  simp only[nS,iH,List.append_eq_nil_iff] at h;exact this y h.1
theorem KV{b:Frame}(h:b.roundOf=none)(a:Act)(todo:List Item):dH b a todo=b.at a todo:=by grind [dH,Frame.at]
def adL(P:Program):Sem Next->Nat->Option (Obj×Value)
 | .new o k,b=>match dP P (k b) with
  |some (.value v)=>bif Obj.real o then some (o,v) else none
  |_=>none
 | .program k,b=>adL P (k P) b
 |_,_=>none
theorem aoW{P:Program}{f:Nat->Value}{s:St}{K:Next->St->Prop}{E:Halt->St->Prop}(hK:∀b,¬s.knows b->K (.value (f b)) ⟨s.ro,(b,o)::s.rw⟩):∀(x:Sem Next),(∀b,adL P x b=some (o,f b))->eJ P x s K E:=by
 intro x
 induction x with
 |new o' k ih=>
  intro h;have key:∀b,Obj.real o'=true/\o'=o/\dP P (k b)=some (.value (f b)):=λb=>by
   have h':=h b;simp only[adL] at h'
   grind
  refine⟨(key 0).1,λb hb=>?_⟩;obtain⟨_,rfl,hv⟩:=key b;exact vi hv (hK b hb)
 |program k ih=>intro h;exact ih P h
 |_=>intro h;have:=h 0;simp[adL] at this
def fN(l:List Code)(i:Nat):Array Oper:=match l[i]? with
 |some (.region _ ops _)=>ops
 |_=> #[]
def dZ(o:Array Oper)(i:Nat):Oper:=(o[i]?).getD default
def codeOf(P:Program)(f:FuncId):List Code:=match P.funcs[f]? with
 |some fn=>match fn.body with
  |some c=>oz c
  |none=>[]
 |none=>[]
open Go.ConcM (OsLater)
def Jc(os:Os)(out:Array (Nat×ByteArray)):(Nat->St)->World->Trace->Prop:=λ_ w t=>(∀a,NoRelease a t)/\OsLater os w.os/\w.output=out
def M0(os:Os)(out:Array (Nat×ByteArray)):ab5 (Jc os out) where
 grow:=λ_ _ _ _ h hu=>⟨λa=>(h.1 a).app λop a8=>hu op a8 a,h.2⟩
 drawn:=λ_ _ _ _ h=>h
 le:=λ_ _ _ _ h _=>h
 own:=λ_ _ _ _ _ _ _ h ht hu=>⟨λa=>(h.1 a).app λop a8=>hu op a8 a,by rw[ht.os];exact h.2.1,ht.output.trans h.2.2⟩
def T0L(P:Program)(os:Os)(out:Array (Nat×ByteArray))(Post:Value->World->Prop):Goroutine->St->Prop:=TL P fU (λ_=>none) (Jc os out) (Good P Post)
theorem Gn(P:Program)(os:Os)(out:Array (Nat×ByteArray))(Post:Value->World->Prop):Closed P true (T0L P os out Post):=JD yX (M0 os out) _
def C0L(P:Program):Class:=λmain T=>main=true/\∃mQ fE Post,T=T0L P mQ fE Post
def B6{P:Program}:∀main T,C0L P main T->Closed P main T:=by
 rintro main T ⟨rfl,mQ,fE,Post,rfl⟩;simp[Gn]
def ac1{P:Program}{os:Os}{out:Array (Nat×ByteArray)}{Post:Value->World->Prop}{g:Goroutine}{s:St}(hs:g.status= .running)
 (dr:∀w,cZ s w->OsLater os w.os->w.output=out->∃v w' es s',stepG P true g w= .ended (.done v) w' es/\Post v w'/\Trans s w s' w' es):T0L P os out Post g s:=by
 refine N1 yX (M0 os out) hs λK gs w t q sl m hL h0 hK hd hi hm hmg=>?_;subst hK;obtain⟨v,w',es,s',hgo,hp,ht⟩:=dr w (hL.fit.nk 0) hi.2.1 hi.2.2;have hr:=ConcN.runT_crowd_ended (P:=P) (sl:=sl) (i:=0) h0 (by simpa using hgo);have oe:=hL.fit.own ht g.frame.fn g.frame.place;generalize hu:MemOp.ofEvents 0 g.frame.fn g.frame.place es=u at hr oe;have CJ:∀op∈u,op.g=0:=by rw[<-hu];exact λop a8=>Go.ConcR.g_of_ofEvents op a8
 refine⟨0,m,.done v,w',t++u,by simp[runNT,hm,hr],rfl,by simp[step,hm,hr],v,rfl,hp,oe.clean,λi k hk eo hc=>?_,⟨λx hx=>?_,by rw[hmg.2];rfl⟩,λi x hx eo=>?_⟩
 .obtain⟨op,ho,aku⟩:=dQ.1 hk;cases k with
  |zero=>exact absurd rfl eo
  |succ k=>
   have dS:op.g <gs.size:=by
    rcases oW.1 (mem_of_getElem? ho) with h'|h'
    .exact hL.ops op h'
    rw[CJ op h',hL.size];omega
   have hkq:k <q.length:=by have:=hL.size;omega
   obtain⟨_,_,_,_,_,ep⟩:=hL.ok k _ (af hkq);exact(ep.other λop a8=>by rw[CJ op a8];omega) i hk hc
 .rw[hmg.1] at hx;obtain⟨j,hj⟩:=dA hx;rw[List.getElem?_drop,Array.getElem?_toList] at hj;have hjq:j <q.length:=by have:=lt_size hj;have:=hL.size;omega
  obtain⟨y,d,hy,hq,_⟩:=hL.ok j _ (af hjq);rw[Nat.add_comm] at hj;rw[hj] at hy;obtain rfl:=aJ hy;exact⟨_,hq.leaves⟩
 rw[hmg.1] at hx;cases i with
 |zero=>exact absurd rfl eo
 |succ j=>
  have hjq:j <q.length:=by have:=lt_size hx;have:=hL.size;omega
  obtain⟨y,d,hy,hq,Oi,_⟩:=hL.ok j _ (af hjq);rw[hx] at hy;obtain rfl:=aJ hy;refine⟨q[j],?_⟩;have e:(t++u).deaf (j+1) (t++u).size=d:=by
   have:=jm t u (g:=j+1) λop a8=>by rw[CJ op a8];omega
   unfold Deaf at this Oi;rw[this];exact Oi
  rw[e];exact hq.hears m.world
def aiX{P:Program}{Post:Value->World->Prop}{g:Goroutine}{s:St}{w:World}(ha:cZ s w)(h:T0L P w.os w.output Post g s):Ends P (Good P Post) (solo g w) #[]:=by
 rw[solo_eq_crowd];have wP:∀p x,touchAt #[] p=some x->False:=λp x hx=>by simp[touchAt,Trace.act?] at hx
 have hn:∀i,i≠0->∀b,¬((if i=0 then s else ⟨λ_=>none,[]⟩:St)).knows b:=λi hi b hk=>by
  rw[cJ hi] at hk;rcases hk with hk| ⟨o,ho⟩
  .exact hk rfl
  cases ho
 refine h (λj=>if j=0 then s else ⟨λ_=>none,[]⟩) #[g] w #[] [] none ⟨⟨(λ_ _ e=>(by cases e)),λ_ _ _=>rfl,λi=>?_,λi j b Of ho hk=>?_,λ_ _ _ p x hx=>(wP p x hx).elim,λ_ _ _ p x hx=>(wP p x hx).elim,
  λp x _ hx=>(wP p x hx).elim,(λsaid ⟨i,j,_,⟨a,b,h1,_⟩,_⟩=>by simp[Trace.act?] at h1),λp x _ hx=>(wP p x hx).elim⟩,rfl,λi n hi=>by simp at hi,λi b hi hk=>hn i hi b hk,by simp⟩ rfl (by simp only[dI];exact St.le_refl _) rfl ⟨λa i=>by simp[Trace.act?],OsLater.refl _,rfl⟩
 .by_cases e:i=0
  .simp only[e,dI];exact ha
  simp only[cJ e];exact⟨(λ_ _ e=>(by cases e)),(λ_ _ e=>(by cases e)),(λ_ _ e=>(by cases e)),by simp,(λ_ _ e=>(by cases e))⟩
 by_cases e:j=0
 .exact hn i (λe'=>Of (e'.trans e.symm)) b (.inr ho)
 exact hn j e b hk
structure Wd where
 L:Bool
 W:Bool
 S:Bool
 c:Nat
 deriving DecidableEq
def Wd.enc(o:Wd):Int:=(if o.L then 1 else 0)+(if o.W then 2 else 0)+(if o.S then 4 else 0)+8*(o.c:Int)
inductive cq where
 |out (k:Nat)
 |ld (k:Nat)|l0 (k:Nat)|r0 (k:Nat)
 |sq (k:Nat) (o:Wd) (aw sv:Bool) (it:Nat) (ws:Bool)
 |c1 (k:Nat) (o:Wd) (aw sv:Bool) (it:Nat) (ws:Bool)
 |r1 (k:Nat) (aw sv:Bool) (it:Nat) (ws:Bool)
 |c2 (k:Nat) (o:Wd) (aw sv:Bool) (it:Nat) (ws:Bool)
 |r3 (k:Nat) (aw sv:Bool) (it:Nat) (ws:Bool)
 |t1 (k:Nat) (sv:Bool)|s1 (k:Nat) (sv:Bool)|t2 (k:Nat) (sv:Bool)|r2 (k:Nat) (sv:Bool)|a1 (k:Nat) (ex:Bool)
 |le (k:Nat)|la (k:Nat)|own (k:Nat)|ui (k:Nat)|ur (k:Nat)|ud (k:Nat)|u0 (k:Nat)
 |uc (k:Nat) (o:Wd)|ux (k:Nat)|us (k:Nat)|ue (k:Nat)
def G3(k:Nat)(o:Wd)(aw sv:Bool)(it:Nat)(ws:Bool):cq:=if o.L&& !o.S then .sq k o aw sv it ws else .c2 k o aw sv it ws
def Wd.nw(o:Wd)(aw sv:Bool):Wd:=⟨o.L|| !o.S,o.W&& !aw,o.S||(sv&&o.L),if o.L||o.S then o.c+1 else o.c⟩
def Wd.rest(o:Wd):Bool:=o.c==0||o.L||o.W||o.S
def ucL(k:Nat)(o:Wd):cq:=if o.rest then .ue k else .uc k o
inductive Nx:cq->Wd->Nat->cq->Wd->Nat->Prop
 |out {k w m}:Nx (.out (k+1)) w m (.ld k) w m
 |ld {k w m}:Nx (.ld k) w m (.l0 k) w m
 |l0y {k m}:Nx (.l0 k) ⟨false,false,false,0⟩ m (.le k) ⟨true,false,false,0⟩ m
 |l0n {k w m}:w≠⟨false,false,false,0⟩->Nx (.l0 k) w m (.r0 k) w m
 |r0 {k w m}:Nx (.r0 k) w m (G3 k w false false 0 false) w m
 |sqn {k o aw sv it ws w m}:Nx (.sq k o aw sv it ws) w m (.c2 k o aw sv it ws) w m
 |sqy {k o aw sv it ws w m}:it <4->Nx (.sq k o aw sv it ws) w m (if !aw&& !o.W&&o.c != 0 then .c1 k o aw sv it ws else .r1 k aw sv it ws) w m
 |c1y {k o aw sv it ws m}:Nx (.c1 k o aw sv it ws) o m (.r1 k true sv it ws) ⟨o.L,true,o.S,o.c⟩ m
 |c1n {k o aw sv it ws w m}:w≠o->Nx (.c1 k o aw sv it ws) w m (.r1 k aw sv it ws) w m
 |r1 {k aw sv it ws w m}:Nx (.r1 k aw sv it ws) w m (G3 k w aw sv (it+1) ws) w m
 |c2y {k o aw sv it ws m}:Nx (.c2 k o aw sv it ws) o m (if o.L||o.S then (if ws then .s1 k sv else .t1 k sv) else .le k) (o.nw aw sv) m
 |c2n {k o aw sv it ws w m}:w≠o->Nx (.c2 k o aw sv it ws) w m (.r3 k aw sv it ws) w m
 |r3 {k aw sv it ws w m}:Nx (.r3 k aw sv it ws) w m (G3 k w aw sv it ws) w m
 |t1 {k sv w m}:Nx (.t1 k sv) w m (.s1 k sv) w m
 |s1 {k sv w m}:Nx (.s1 k sv) w (m+1) (.t2 k sv) w m
 |s1s {k w m}:Nx (.s1 k true) w (m+1) (.r2 k true) w m
 |t2 {k sv w m} (b:Bool):Nx (.t2 k sv) w m (.r2 k (sv||b)) w m
 |r2y {k sv w m}:w.S=true->Nx (.r2 k sv) w m (.a1 k (!sv||w.c==1)) w m
 |r2n {k sv w m} (ws:Bool):w.S=false->Nx (.r2 k sv) w m (G3 k w true sv 0 ws) w m
 |a1 {k ex w m}:Nx (.a1 k ex) w m (.le k) ⟨true,w.W,w.S&& !ex,w.c-1⟩ m
 |le {k w m}:Nx (.le k) w m (.la k) w m
 |la {k w m}:Nx (.la k) w m (.own k) w m
 |own {k w m}:Nx (.own k) w m (.ui k) w m
 |ui {k w m}:Nx (.ui k) w m (.ur k) w m
 |ur {k w m}:Nx (.ur k) w m (.ud k) w m
 |ud {k w m}:Nx (.ud k) w m (.u0 k) w m
 |u0 {k w m}:Nx (.u0 k) w m (if w.S then .us k else ucL k ⟨false,w.W,w.S,w.c⟩) ⟨false,w.W,w.S,w.c⟩ m
 |ucy {k o m}:Nx (.uc k o) o m (.us k) ⟨o.L,true,o.S,o.c-1⟩ m
 |ucn {k o w m}:w≠o->Nx (.uc k o) w m (.ux k) w m
 |ux {k w m}:Nx (.ux k) w m (ucL k w) w m
 |us {k w m}:Nx (.us k) w m (.ue k) w (m+1)
 |ue {k w m}:Nx (.ue k) w m (.out k) w m
def cq.H:cq->Nat
 | .le _| .la _| .own _| .ui _| .ur _| .ud _| .u0 _=>1
 |_=>0
def cq.Q:cq->Nat
 | .t1 .. | .s1 .. =>1
 |_=>0
def cq.U:cq->Nat
 | .us _=>1
 |_=>0
def cq.A:cq->Nat
 | .a1 .. =>1
 |_=>0
def cq.G:cq->Nat
 | .t2 .. | .r2 .. =>1
 |_=>0
def cq.B:cq->Nat
 | .sq _ _ aw _ _ _| .c1 _ _ aw _ _ _| .r1 _ aw _ _ _| .c2 _ _ aw _ _ _| .r3 _ aw _ _ _=>aw.toNat
 |_=>0
def cq.X:cq->Nat
 | .uc .. | .ux _=>1
 |_=>0
def cq.Ok:cq->Prop
 | .sq _ o aw sv it _=>o.L=true/\o.S=false/\(aw=true->o.W=true)/\(sv=true->aw=true)/\it<=4
 | .c1 _ o aw sv it _=>o.L=true/\o.S=false/\o.W=false/\o.c≠0/\aw=false/\sv=false/\it <4
 | .c2 _ o aw sv it _=>(aw=true->o.W=true/\o.S=false)/\(sv=true->aw=true)/\it<=4
 | .r1 _ aw sv it _=>(sv=true->aw=true)/\it <4
 | .r3 _ aw sv it _=>(sv=true->aw=true)/\it<=4
 | .uc _ o=>o.rest=false
 |_=>True
def kJ(f:α->Nat)(T:List α):Nat:=(T.map f).sum
theorem kN(f:α->Nat){x y:α}:∀ {T:List α} {i:Nat},T[i]?=some x->kJ f (T.set i y)+f x=kJ f T+f y
 | [],i,h=>by simp at h
 |a::T,0,h=>by grind [kJ]
 |a::T,i+1,h=>by
  have:=kN f (y:=y) (T:=T) (i:=i) (by simpa using h)
  grind [kJ]
theorem nC(f:α->Nat){x:α}:∀ {T:List α},x∈T->f x<=kJ f T
 |a::T,h=>by
  rcases aS.1 h with rfl|h
  .simp[kJ]
  have:=nC f h;grind [kJ]
structure qH(T:List cq)(w:Wd)(m:Nat):Prop where
 held:kJ cq.H T=w.L.toNat
 norm:w.S=false->m+kJ cq.U T+kJ cq.G T+kJ cq.B T=w.W.toNat/\w.c+m+kJ cq.U T=kJ cq.Q T/\kJ cq.A T=0
 star:w.S=true->w.W=false/\kJ cq.B T=0/\m+kJ cq.U T+kJ cq.G T+kJ cq.A T+w.L.toNat=1/\w.c=kJ cq.Q T+kJ cq.G T+kJ cq.A T
 aM1:w.L=false->w.S=false->w.W=false->w.c≠0->1<=kJ cq.X T
 ok:∀x∈T,x.Ok
theorem aFy{T:List cq}{x':cq}(h:∀x∈T,x.Ok)(h':x'.Ok):∀x∈T.set i x',x.Ok:=by grind
def WB{k:Nat}{o:Wd}{aw:Bool}(h1:aw=true->o.W=true/\o.S=false)(h2:sv=true->aw=true)(h3:it<=4):(G3 k o aw sv it ws).Ok:=by
 unfold G3;split
 .rename_i h;simp only[au,az] at h;exact⟨h.1,h.2,λe=>(h1 e).1,h2,h3⟩
 exact⟨h1,h2,h3⟩
section
variable {k:Nat} {o:Wd} {aw sv:Bool} {it:Nat} {ws:Bool}
theorem aB8:(G3 k o aw sv it ws).H=0:=by unfold G3;split<;>rfl
theorem aB7:(G3 k o aw sv it ws).Q=0:=by unfold G3;split<;>rfl
theorem aB6:(G3 k o aw sv it ws).U=0:=by unfold G3;split<;>rfl
theorem aCb:(G3 k o aw sv it ws).A=0:=by unfold G3;split<;>rfl
theorem aB9:(G3 k o aw sv it ws).G=0:=by unfold G3;split<;>rfl
theorem aCa:(G3 k o aw sv it ws).B=aw.toNat:=by unfold G3;split<;>rfl
theorem aB5:(G3 k o aw sv it ws).X=0:=by unfold G3;split<;>rfl
end
section
variable {T:List cq} {w w':Wd} {m m' i:Nat} {x x':cq}
def qH.mk'(h:qH T w m)(hi:T[i]?=some x) (dJ:x'.Ok)
 (k:∀sH sQ sU sA sG sB sX:Nat,∀tH tQ tU tA tG tB tX:Nat,
  tH+x.H=sH+x'.H->tQ+x.Q=sQ+x'.Q->tU+x.U=sU+x'.U->tA+x.A=sA+x'.A->tG+x.G=sG+x'.G->tB+x.B=sB+x'.B->tX+x.X=sX+x'.X->
  x.H<=sH->x.Q<=sQ->x.U<=sU->x.A<=sA->x.G<=sG->x.B<=sB->x.X<=sX->
  sH=w.L.toNat->(w.S=false->m+sU+sG+sB=w.W.toNat/\w.c+m+sU=sQ/\sA=0)->(w.S=true->w.W=false/\sB=0/\m+sU+sG+sA+w.L.toNat=1/\w.c=sQ+sG+sA)->
  (w.L=false->w.S=false->w.W=false->w.c≠0->1<=sX)->
  tH=w'.L.toNat/\(w'.S=false->m'+tU+tG+tB=w'.W.toNat/\w'.c+m'+tU=tQ/\tA=0)/\(w'.S=true->w'.W=false/\tB=0/\m'+tU+tG+tA+w'.L.toNat=1/\w'.c=tQ+tG+tA)/\
  (w'.L=false->w'.S=false->w'.W=false->w'.c≠0->1<=tX)):qH (T.set i x') w' m':=by
 have hm:=aj hi;obtain⟨h1,h2,h3,h4⟩:=k _ _ _ _ _ _ _ _ _ _ _ _ _ _ (kN cq.H (y:=x') hi) (kN cq.Q (y:=x') hi) (kN cq.U (y:=x') hi) (kN cq.A (y:=x') hi) (kN cq.G (y:=x') hi) (kN cq.B (y:=x') hi) (kN cq.X (y:=x') hi)
  (nC cq.H hm) (nC cq.Q hm) (nC cq.U hm) (nC cq.A hm) (nC cq.G hm) (nC cq.B hm) (nC cq.X hm) h.held h.norm h.star h.aM1
 exact⟨h1,h2,h3,h4,aFy h.ok dJ⟩
theorem qH.aw(h:qH T w m)(hi:T[i]?=some x) {aw:Bool} (hB:aw=true->x.B=1):aw=true->w.W=true/\w.S=false:=λe=>by
 have h2:=nC cq.B (aj hi);rw[hB e] at h2;have hS:w.S=false:=by
  cases hS:w.S
  .rfl
  have:=(h.star hS).2.1;omega
 have h1:=(h.norm hS).1
 grind
theorem qH.step(h:qH T w m)(hi:T[i]?=some x) (hs:Nx x w m x' w' m'):qH (T.set i x') w' m':=by
 have hx:=h.ok x (List.mem_of_getElem? hi)
 obtain⟨L,W,S,c⟩:=w
 cases hs
 case sqy k o aw sv it ws hit=>
  split
  .rename_i hc
   simp only[Bool.and_eq_true,Bool.not_eq_true',bne_iff_ne,ne_eq] at hc
   refine h.mk' hi ⟨hx.1,hx.2.1,hc.1.2,hc.2,hc.1.1,?_,hit⟩ λsH sQ sU sA sG sB sX tH tQ tU tA tG tB tX e1 e2 e3 e4 e5 e6 e7 f1 f2 f3 f4 f5 f6 f7 a1 a2 a3 a4=>?_
   .cases sv
    .rfl
    have:=hx.2.2.2.1 rfl;rw[hc.1.1] at this;cases this
   simp only[cq.H,cq.Q,cq.U,cq.A,cq.G,cq.B,cq.X,Nat.add_zero,Nat.zero_add] at e1 e2 e3 e4 e5 e6 e7
   cases L<;>cases W<;>cases S<;>simp at a1 a2 a3 a4 ⊢ <;>(try and_intros)<;>intros<;>omega
  refine h.mk' hi ⟨hx.2.2.2.1,hit⟩ λsH sQ sU sA sG sB sX tH tQ tU tA tG tB tX e1 e2 e3 e4 e5 e6 e7 f1 f2 f3 f4 f5 f6 f7 a1 a2 a3 a4=>?_
  simp only[cq.H,cq.Q,cq.U,cq.A,cq.G,cq.B,cq.X,Nat.add_zero,Nat.zero_add] at e1 e2 e3 e4 e5 e6 e7
  cases L<;>cases W<;>cases S<;>simp at a1 a2 a3 a4 ⊢ <;>(try and_intros)<;>intros<;>omega
 case c2y k aw sv it ws=>
  obtain⟨h1,h2,_⟩:=hx
  cases L<;>cases S<;>cases ws<;>cases aw<;>cases sv<;>cases W<;>(try (simp at h1 h2;done))<;>
   simp only[Bool.true_or,Bool.false_or,Bool.or_self,Bool.or_true,Bool.or_false,Bool.and_true,Bool.and_false,Bool.true_and,Bool.false_and,Bool.not_true,Bool.not_false,reduceIte,Bool.false_eq_true,Wd.nw]<;>
   refine h.mk' hi True.intro λsH sQ sU sA sG sB sX tH tQ tU tA tG tB tX e1 e2 e3 e4 e5 e6 e7 f1 f2 f3 f4 f5 f6 f7 a1 a2 a3 a4=>?_<;>
   simp[cq.H,cq.Q,cq.U,cq.A,cq.G,cq.B,cq.X] at e1 e2 e3 e4 e5 e6 e7 f6 a1 a2 a3 a4 ⊢ <;>(try and_intros)<;>intros<;>omega
 case u0 k=>
  cases S
  .simp only[Bool.false_eq_true,reduceIte]
   unfold ucL Wd.rest
   cases W
   .cases c with
    |zero=>
     refine h.mk' hi True.intro λsH sQ sU sA sG sB sX tH tQ tU tA tG tB tX e1 e2 e3 e4 e5 e6 e7 f1 f2 f3 f4 f5 f6 f7 a1 a2 a3 a4=>?_
     simp[cq.H,cq.Q,cq.U,cq.A,cq.G,cq.B,cq.X] at e1 e2 e3 e4 e5 e6 e7 f1
     cases L<;>simp at a1 a2 a3 a4 ⊢ <;>(try and_intros)<;>intros<;>omega
    |succ c=>
     refine h.mk' (x':= .uc k ⟨false,false,false,c+1⟩) hi rfl λsH sQ sU sA sG sB sX tH tQ tU tA tG tB tX e1 e2 e3 e4 e5 e6 e7 f1 f2 f3 f4 f5 f6 f7 a1 a2 a3 a4=>?_
     simp[cq.H,cq.Q,cq.U,cq.A,cq.G,cq.B,cq.X] at e1 e2 e3 e4 e5 e6 e7 f1
     cases L<;>simp at a1 a2 a3 a4 ⊢ <;>(try and_intros)<;>intros<;>omega
   simp only[Bool.or_true,Bool.true_or,reduceIte]
   refine h.mk' hi True.intro λsH sQ sU sA sG sB sX tH tQ tU tA tG tB tX e1 e2 e3 e4 e5 e6 e7 f1 f2 f3 f4 f5 f6 f7 a1 a2 a3 a4=>?_
   simp[cq.H,cq.Q,cq.U,cq.A,cq.G,cq.B,cq.X] at e1 e2 e3 e4 e5 e6 e7 f1
   cases L<;>simp at a1 a2 a3 a4 ⊢ <;>(try and_intros)<;>intros<;>omega
  simp only[reduceIte]
  refine h.mk' hi True.intro λsH sQ sU sA sG sB sX tH tQ tU tA tG tB tX e1 e2 e3 e4 e5 e6 e7 f1 f2 f3 f4 f5 f6 f7 a1 a2 a3 a4=>?_
  simp[cq.H,cq.Q,cq.U,cq.A,cq.G,cq.B,cq.X] at e1 e2 e3 e4 e5 e6 e7 f1
  cases L<;>cases W<;>simp at a1 a2 a3 a4 ⊢ <;>(try and_intros)<;>intros<;>omega
 case ux k=>
  unfold ucL
  split
  .rename_i hr
   simp only[Wd.rest] at hr
   refine h.mk' hi True.intro λsH sQ sU sA sG sB sX tH tQ tU tA tG tB tX e1 e2 e3 e4 e5 e6 e7 f1 f2 f3 f4 f5 f6 f7 a1 a2 a3 a4=>?_
   simp[cq.H,cq.Q,cq.U,cq.A,cq.G,cq.B,cq.X] at e1 e2 e3 e4 e5 e6 e7
   cases L<;>cases W<;>cases S<;>simp at hr a1 a2 a3 a4 ⊢ <;>(try and_intros)<;>intros<;>omega
  rename_i hr
  refine h.mk' hi (show Wd.rest _=false by simpa using hr) λsH sQ sU sA sG sB sX tH tQ tU tA tG tB tX e1 e2 e3 e4 e5 e6 e7 f1 f2 f3 f4 f5 f6 f7 a1 a2 a3 a4=>?_
  simp[cq.H,cq.Q,cq.U,cq.A,cq.G,cq.B,cq.X] at e1 e2 e3 e4 e5 e6 e7 f7
  cases L<;>cases W<;>cases S<;>simp at a1 a2 a3 a4 ⊢ <;>(try and_intros)<;>intros<;>omega
 all_goals
  refine h.mk' hi ?_ λsH sQ sU sA sG sB sX tH tQ tU tA tG tB tX e1 e2 e3 e4 e5 e6 e7 f1 f2 f3 f4 f5 f6 f7 a1 a2 a3 a4=>?_
 case r0.refine_1=>exact WB (by simp) (by simp) (by omega)
 case sqn.refine_1=>exact⟨λe=>⟨hx.2.2.1 e,hx.2.1⟩,hx.2.2.2.1,hx.2.2.2.2⟩
 case c1y.refine_1=>exact⟨λ_=>rfl,hx.2.2.2.2.2.2⟩
 case c1n.refine_1 k o aw sv it ws eo=>exact⟨λe=>(by have:=hx.2.2.2.2.2.1;rw[e] at this;cases this),hx.2.2.2.2.2.2⟩
 case r1.refine_1=>exact WB (h.aw hi (by intro e;simp[cq.B,e])) hx.1 (by have:=hx.2;omega)
 case r3.refine_1=>exact WB (h.aw hi (by intro e;simp[cq.B,e])) hx.1 hx.2
 case c2n.refine_1=>exact⟨hx.2.1,hx.2.2⟩
 case r2n.refine_1 k sv ws hS=>
  refine WB (λ_=>⟨?_,hS⟩) (λ_=>rfl) (by omega)
  have h1:=(h.norm hS).1
  have h2:=nC cq.G (List.mem_of_getElem? hi)
  simp only[cq.G] at h2
  simp only at h1 ⊢
  cases W
  .simp only[Bool.toNat_false] at h1;omega
  rfl
 all_goals try exact True.intro
 all_goals
  try simp only[aB8,aB7,aB6,aCb,aB9,aCa,aB5] at e1 e2 e3 e4 e5 e6 e7
 all_goals
  simp only[cq.H,cq.Q,cq.U,cq.A,cq.G,cq.B,cq.X,aB8,aB7,aB6,aCb,aB9,aCa,aB5,Nat.add_zero,Nat.zero_add,Bool.toNat_false,Bool.toNat_true] at e1 e2 e3 e4 e5 e6 e7 f1 f2 f3 f4 f5 f6 f7
 all_goals
  first
  | (cases L<;>cases W<;>cases S<;>simp at a1 a2 a3 a4 ⊢ <;>(try and_intros)<;>intros<;>omega)
  | (simp at a1 a2 a3 a4 ⊢ <;>(try and_intros)<;>intros<;>omega)
  | (have hy:=hx.2.2.2.2.1;subst hy;have h1:=hx.1;have h2:=hx.2.1;have h3:=hx.2.2.1;simp only at h1 h2 h3;subst h1 h2 h3;simp only[Bool.toNat_false] at e6 f6;simp at a1 a2 a3 a4 ⊢ <;>(try and_intros)<;>intros<;>omega)
  | (rename_i hS;simp only at hS;subst hS;cases L<;>cases W<;>simp at a1 a2 a3 a4 ⊢ <;>(try and_intros)<;>intros<;>omega)
  | (simp only[cq.Ok,Wd.rest,Bool.or_eq_false_iff,beq_eq_false_iff_ne,ne_eq] at hx;obtain⟨⟨⟨h1,h2⟩,h3⟩,h4⟩:=hx;subst h2 h3 h4;simp at a1 a2 a3 a4 ⊢ <;>(try and_intros)<;>intros<;>omega)
  |skip
end
def cq.Jf:cq->Nat
 | .out k=>7*k
 | .ld k| .l0 k| .r0 k=>7*k+7
 | .sq k _ aw _ _ _| .c1 k _ aw _ _ _| .r1 k aw _ _ _| .c2 k _ aw _ _ _| .r3 k aw _ _ _=>7*k+(if aw then 6 else 7)
 | .t1 k _| .s1 k _=>7*k+5
 | .t2 k _| .r2 k _| .a1 k _=>7*k+6
 | .le k| .la k| .own k| .ui k| .ur k| .ud k| .u0 k=>7*k+5
 | .uc k _| .ux k=>7*k+4
 | .us k=>7*k+3
 | .ue k=>7*k
def cq.kz(w:Wd):cq->Nat
 | .out _=>50
 | .ld _=>22| .l0 _=>21| .r0 _=>20
 | .sq _ o _ _ it _=>3*(4-it)+(if o=w then 6 else 46)
 | .c1 _ o _ _ it _=>3*(4-it)+(if o=w then 5 else 45)
 | .r1 _ _ _ it _=>3*(4-it)+4
 | .c2 _ o _ _ _ _=>if o=w then 1 else 30
 | .r3 .. =>29
 | .t1 .. =>1| .s1 .. =>0| .t2 .. =>24| .r2 .. =>23| .a1 .. =>1
 | .le _=>7| .la _=>6| .own _=>5| .ui _=>4| .ur _=>3| .ud _=>2| .u0 _=>1
 | .uc _ o=>if o=w then 1 else 11
 | .ux _=>10| .us _=>1| .ue _=>60
section
variable {w w':Wd} {m m':Nat} {x x':cq}
theorem Oj{k:Nat}{o:Wd}{aw:Bool}:(G3 k o aw sv it ws).Jf=7*k+(if aw then 6 else 7):=by unfold G3;split<;>rfl
theorem It{k:Nat}{o:Wd}{aw:Bool}:(G3 k o aw sv it ws).kz o<=3*(4-it)+6:=by
 grind [G3,cq.kz]
def Nx.lt(h:Nx x w m x' w' m')(hx:x.Ok)(Im:∀k,x≠ .out k):x'.Jf+2*m' <x.Jf+2*m\/(w'=w/\m'=m/\x'.Jf<=x.Jf/\x'.kz w <x.kz w):=by
 cases h
 case out=>exact absurd rfl (Im _)
 case ld=>exact .inr ⟨rfl,rfl,bu _,by simp[cq.kz]⟩
 case l0y=>exact .inl (by simp[cq.Jf])
 case l0n=>exact .inr ⟨rfl,rfl,bu _,by simp[cq.kz]⟩
 case r0=>exact .inr ⟨rfl,rfl,by rw[Oj];simp[cq.Jf],Fi It (by simp only[cq.kz];omega)⟩
 case sqn k o aw sv it ws=>exact .inr ⟨rfl,rfl,bu _,by simp only[cq.kz];split<;>omega⟩
 case sqy k o aw sv it ws hit=>
  refine .inr ⟨rfl,rfl,by split<;>exact bu _,?_⟩;split<;>(simp only[cq.kz];split<;>omega)
 case c1y k aw sv it ws=>exact .inl (by have:=hx.2.2.2.2.1;subst this;simp[cq.Jf])
 case c1n k o aw sv it ws eo=>exact .inr ⟨rfl,rfl,bu _,by simp only[cq.kz];rw[cJ (ju eo)];omega⟩
 case r1 k aw sv it ws=>exact .inr ⟨rfl,rfl,by rw[Oj];exact bu _,Fi It (by have:=hx.2;simp only[cq.kz];omega)⟩
 case c2y k aw sv it ws=>
  refine .inl ?_;split
  .split<;>(simp only[cq.Jf];split<;>omega)
  simp only[cq.Jf];split<;>omega
 case c2n k o aw sv it ws eo=>exact .inr ⟨rfl,rfl,bu _,by simp only[cq.kz];rw[cJ (ju eo)];omega⟩
 case r3 k aw sv it ws=>exact .inr ⟨rfl,rfl,by rw[Oj];exact bu _,Fi It (by simp only[cq.kz];omega)⟩
 case t1=>exact .inr ⟨rfl,rfl,bu _,by simp[cq.kz]⟩
 case s1=>exact .inl (by simp only[cq.Jf];omega)
 case s1s=>exact .inl (by simp only[cq.Jf];omega)
 case t2=>exact .inr ⟨rfl,rfl,bu _,by simp[cq.kz]⟩
 case r2y=>exact .inr ⟨rfl,rfl,bu _,by simp[cq.kz]⟩
 case r2n k sv ws hS=>exact .inr ⟨rfl,rfl,by rw[Oj];exact bu _,Fi It (by simp only[cq.kz];omega)⟩
 case a1=>exact .inl (by simp[cq.Jf])
 case le=>exact .inr ⟨rfl,rfl,bu _,by simp[cq.kz]⟩
 case la=>exact .inr ⟨rfl,rfl,bu _,by simp[cq.kz]⟩
 case own=>exact .inr ⟨rfl,rfl,bu _,by simp[cq.kz]⟩
 case ui=>exact .inr ⟨rfl,rfl,bu _,by simp[cq.kz]⟩
 case ur=>exact .inr ⟨rfl,rfl,bu _,by simp[cq.kz]⟩
 case ud=>exact .inr ⟨rfl,rfl,bu _,by simp[cq.kz]⟩
 case u0 k=>
  refine .inl ?_;unfold ucL;split
  .simp[cq.Jf]
  split<;>simp[cq.Jf]
 case ucy=>exact .inl (by simp[cq.Jf])
 case ucn k o eo=>exact .inr ⟨rfl,rfl,bu _,by simp only[cq.kz];rw[cJ (ju eo)];omega⟩
 case ux k=>
  unfold ucL;split
  .exact .inl (by simp[cq.Jf])
  exact .inr ⟨rfl,rfl,bu _,by simp[cq.kz]⟩
 case us=>exact .inl (by simp only[cq.Jf];omega)
 case ue=>exact .inr ⟨rfl,rfl,bu _,by simp[cq.kz]⟩
def cq.busy:cq->Prop
 | .out _| .s1 .. =>False
 |_=>True
theorem xA(f:α->Nat):∀ {T:List α},(∀x∈T,f x=0)->kJ f T=0
 | [],_=>rfl
 |a::T,h=>by
  have:=xA f λx hx=>h x (cm _ hx)
  grind [dX,kJ]
def qH.live{T:List cq}(h:qH T w 0){k:Nat}(hs: .s1 k sv∈T):∃y∈T,y.busy:=by
 refine gQ λhn=>?_;have hb:∀y∈T,¬y.busy:=λy hy hb=>hn ⟨y,hy,hb⟩;have z:∀f:cq->Nat,(∀y,¬y.busy->f y=0)->kJ f T=0:=λf hf=>xA f λy hy=>hf y (hb y hy);have zH:=z cq.H λy hy=>by cases y<;>first|rfl|exact absurd True.intro hy
 have zU:=z cq.U λy hy=>by cases y<;>first|rfl|exact absurd True.intro hy
 have zA:=z cq.A λy hy=>by cases y<;>first|rfl|exact absurd True.intro hy
 have zG:=z cq.G λy hy=>by cases y<;>first|rfl|exact absurd True.intro hy
 have zB:=z cq.B λy hy=>by cases y<;>first|rfl|exact absurd True.intro hy
 have zX:=z cq.X λy hy=>by cases y<;>first|rfl|exact absurd True.intro hy
 have hQ:=nC cq.Q hs;simp only[cq.Q] at hQ;obtain⟨L,W,S,c⟩:=w;have a1:=h.held;have a2:=h.norm;have a3:=h.star;have a4:=h.aM1;rw[zH] at a1;rw[zU,zG,zB,zA] at a2;rw[zU,zG,zB,zA] at a3;rw[zX] at a4;cases L<;>cases W<;>cases S<;>simp at a1 a2 a3 a4;omega
theorem am5(f g h:α->Nat){T:List α}(hle:∀x,f x+g x+h x<=1):kJ f T+kJ g T+kJ h T<=T.length:=by
 induction T with
 |nil=>simp[kJ]
 |cons a T ih=>
  grind [kJ,aK]
def qH.few{T:List cq}(h:qH T w m):w.c<=T.length/\m<=1:=by
 have h1:=am5 cq.Q cq.G cq.A (T:=T) λx=>by cases x<;>simp[cq.Q,cq.G,cq.A]
 cases hS:w.S
 .obtain⟨a,b,c⟩:=h.norm hS;have:w.W.toNat<=1:=Bool.toNat_le _;exact⟨by omega,by omega⟩
 obtain⟨a,b,c,d⟩:=h.star hS;exact⟨by omega,by omega⟩
theorem qH.one{T:List cq}(h:qH T w m){x y:cq}(hi:T[i]?=some x) (hj:T[j]?=some y) (hx:x.H=1) (hy:y.H=1):i=j:=by
 refine gQ λeo=>?_;have e:=kN cq.H (y:=cq.out 0) hi;have hj':(T.set i (cq.out 0))[j]?=some y:=by grind
 have l:=nC cq.H (aj hj');have:=h.held;have hb:w.L.toNat<=1:=Bool.toNat_le _;rw[show (cq.out 0).H=0 from rfl] at e;omega
theorem qH.start{T:List cq}(h:∀x∈T,∃k,x= .out k):qH T ⟨false,false,false,0⟩ 0:=by
 have z:∀f,(∀k,f (.out k)=0)->kJ f T=0:=λf hf=>xA f λy hy=>by grind
 refine⟨by rw[z _ λ_=>rfl];rfl,λ_=>⟨by rw[z _ λ_=>rfl,z _ λ_=>rfl,z _ λ_=>rfl];rfl,by rw[z _ λ_=>rfl,z _ λ_=>rfl],z _ λ_=>rfl⟩,λe=>(by grind),λ_ _ _ e=>absurd rfl e,λx hx=>?_⟩;obtain⟨k,rfl⟩:=h x hx;exact True.intro
end
def oS(Hb:Nat)(l:Loc):Prop:=∃a,l= .cell a/\a.block=Hb/\a.off=wB
def lh(r:Nat->Option Obj)(b:Nat)(o:Obj):Nat->Option Obj:=λx=>if x=b then some o else r x
theorem lQ(r:Nat->Option Obj)(b:Nat)(o:Obj):lh r b o b=some o:=by simp[lh]
theorem nK(r:Nat->Option Obj)(o:Obj)(h:x≠b):lh r b o x=r x:=by grind [lh]
section
variable {L L':Nat->Option Obj} {K:Nat->St} {w w':World} {t:Trace} {i Hb:Nat} {X Y:List (Nat×Obj)} {full:Obj} {hc:Array Value} {ht:TypeId}
theorem Fit.take(h:Fit L K w t)(hL:∀b o,L' b=some o->L b=some o)(hX:∀b o,(b,o)∈X->L b=some o/\L' b=none/\Obj.real o=true/\∀j,¬(K j).knows b)(kP:(X.map (·.1)).Nodup)
 (qS:(K i).ro Hb=some (.pending hc ht))(hr:Obj.real full=true)(hw:w.heap[Hb]?=some full)
 (hk:∀p x,touchAt t p=some x->((∃b o,(b,o)∈X/\blk x.loc=some b)\/oS Hb x.loc)->Knows t i p):
 Fit L' (gN K i ⟨lh (K i).ro Hb full,X++(K i).rw⟩) w t:=by
 have FW:∀b,(⟨lh (K i).ro Hb full,X++(K i).rw⟩:St).owns b->(∃o,(b,o)∈X)\/(K i).owns b:=λb ⟨o,ho⟩=>(bI.1 ho).elim (λh'=> .inl ⟨o,h'⟩) λh'=> .inr ⟨o,h'⟩;have aQT:∀b,(⟨lh (K i).ro Hb full,X++(K i).rw⟩:St).knows b->(∃o,(b,o)∈X)\/(K i).knows b:=λb hb=>by
  rcases hb with hb|hb
  .by_cases e:b=Hb
   .subst e;exact .inr (.inl (by rw[qS];simp))
   exact .inr (.inl (by simpa [lh,e] using hb))
  exact(FW b hb).imp id .inr
 have hLn:∀b,L b=none->L' b=none:=λb hb=>by
  cases h':L' b with
  |none=>rfl
  |some o=>rw[hL b o h'] at hb;cases hb
 refine⟨λb o hl=>h.CG b o (hL b o hl),λj b ho=>?_,λj=>?_,λj k b Jl ho hb=>?_,λj b ho p x hx hb=>?_,λj b ho p x hx hb hwr hh=>?_,h.old,h.clean,λp x b hx hkd hb=>?_⟩
 .by_cases e:j=i
  .subst e;rw[aY] at ho;exact(FW b ho).elim (λ⟨o,h'⟩=>(hX b o h').2.1) λh'=>hLn b (h.mJ j b h')
  rw[bz _ _ e] at ho;exact hLn b (h.mJ j b ho)
 .by_cases e:j=i
  .subst e;rw[aY];have a:=h.nk j;refine⟨λb o hb=>?_,λb o hb=>(bI.1 hb).elim (λh'=>h.CG b o (hX b o h').1) (a.rw b o),λb o hb=>(bI.1 hb).elim (λh'=>(hX b o h').2.2.1) (a.real b o),?_,λb o hb=>?_⟩
   .by_cases e:b=Hb
    .subst e;simp only[lQ,aD] at hb;subst hb;exact .inl ⟨hw,hr⟩
    simp only[nK _ _ e] at hb;exact a.ro b o hb
   .rw[cC,eF];refine⟨kP,a.nodup,?_⟩;rintro b h1 _ h2 rfl;obtain⟨⟨b1,o1⟩,m1,rfl⟩:=bB.1 h1;obtain⟨⟨b2,o2⟩,m2,he⟩:=bB.1 h2;simp only at he;subst he;exact(hX b2 o1 m1).2.2.2 j (.inr ⟨o2,m2⟩)
   rcases bI.1 hb with h'|h'
   .have hn:=(hX b o h').2.2.2 j;have e:b≠Hb:=λe=>hn (by subst e;exact .inl (by rw[qS];simp));simp only[nK _ _ e];cases qT:(K j).ro b with
    |none=>rfl
    |some y=>exact absurd (.inl (by rw[qT];simp)) hn
   have e:b≠Hb:=λe=>by subst e;have:=a.apart b o h';rw[qS] at this;cases this
   simp only[nK _ _ e];exact a.apart b o h'
  rw[bz _ _ e];exact h.nk j
 .by_cases e:j=i
  .subst e;rw[aY] at ho;rw[bz _ _ (ju Jl)] at hb;exact(FW b ho).elim (λ⟨o,h'⟩=>(hX b o h').2.2.2 k hb) λh'=>h.sep j k b Jl h' hb
  rw[bz _ _ e] at ho;by_cases e':k=i
  .subst e';rw[aY] at hb;exact(aQT b hb).elim (λ⟨o,h'⟩=>(hX b o h').2.2.2 j (.inr ho)) λh'=>h.sep j k b Jl ho h'
  rw[bz _ _ e'] at hb;exact h.sep j k b Jl ho hb
 .by_cases e:j=i
  .subst e;rw[aY] at ho;exact(FW b ho).elim (λ⟨o,h'⟩=>hk p x hx (.inl ⟨b,o,h',hb⟩)) λh'=>h.perm j b h' p x hx hb
  rw[bz _ _ e] at ho;exact h.perm j b ho p x hx hb
 .by_cases e:j=i
  .subst e;rw[aY] at ho hh;by_cases e':oS Hb x.loc
   .exact hk p x hx (.inr e')
   refine h.rZ j b ?_ p x hx hb hwr λ⟨a,c,ty,h1,h2,h3⟩=>?_
   .by_cases e:b=Hb
    .subst e;rw[qS];simp
    simpa [lh,e] using ho
   by_cases e:a.block=Hb
   .exact e' ⟨a,h1,e,h3⟩
   exact hh ⟨a,c,ty,h1,by simp only[nK _ _ e];exact h2,h3⟩
  rw[bz _ _ e] at ho hh;exact h.rZ j b ho p x hx hb hwr hh
 refine⟨hLn b (h.sync p x b hx hkd hb).1,λj hj=>?_⟩;have hs:=h.sync p x b hx hkd hb;by_cases e:j=i
 .subst e;rw[aY] at hj;exact(aQT b hj).elim (λ⟨o,h'⟩=>by have:=(hX b o h').1;rw[hs.1] at this;cases this) (hs.2 j)
 rw[bz _ _ e] at hj;exact hs.2 j hj
def Fit.give(h:Fit L K w t)(hL:∀b,L' b=L b\/∃o,(b,o)∈X)(hX:∀b o,(b,o)∈X->L' b=some o)(G4:(K i).rw.Perm (X++Y))
 {c:Array Value}{v:Value}(qS:(K i).ro Hb=some (.cells c ht (0,0)))(A3:wB <c.size)(hht:ht<=NI)(Qx:c.size=hc.size)(hce:∀j,j≠wB->c[j]?=hc[j]?) (hLH:L Hb=none)
 (aSm:∀j,j≠i->∀o,(K j).ro Hb=some o->Obj.real o=false)
 (ap5:∀p x,touchAt t p=some x->oS Hb x.loc->Knows t i p) (fn:FuncId) (pos:String):
 Fit L' (gN K i ⟨lh (K i).ro Hb (.pending hc ht),Y⟩) (w.setCell ⟨Hb,wB,none⟩ v) (t++MemOp.ofEvents i fn pos #[⟨.cell ⟨Hb,wB,none⟩,true,false⟩]):=by
 have hwb:w.heap[Hb]?=some (.cells c ht (0,0)):=((h.nk i).ro Hb _ qS).elim (·.1) λh=>h.elim (λ⟨_,_,_,e,_⟩=>by cases e) λ⟨_,_,e,_⟩=>by cases e
 have hw':(w.setCell ⟨Hb,wB,none⟩ v).heap[Hb]?=some (.cells (c.setIfInBounds wB v) ht (0,0)):=by simp[World.setCell,fG,hwb]
 have hwo:∀b,b≠Hb->(w.setCell ⟨Hb,wB,none⟩ v).heap[b]?=w.heap[b]?:=λb hb=>by simp[World.setCell,fG,ju hb]
 have xD:(w.setCell ⟨Hb,wB,none⟩ v).heap.size=w.heap.size:=by simp[World.setCell]
 have e1:MemOp.ofEvents i fn pos #[⟨.cell ⟨Hb,wB,none⟩,true,false⟩]= #[{g:=i,fn,pos,act:= .access ⟨.cell ⟨Hb,wB,none⟩,true,false⟩}]:=by rw[ofEvents_eq];simp[MemAct.ofEvent]
 rw[e1];have hu:∀op∈(#[{g:=i,fn,pos,act:= .access ⟨.cell ⟨Hb,wB,none⟩,true,false⟩}]:Trace),op.g=i/\op.act= .access ⟨.cell ⟨Hb,wB,none⟩,true,false⟩:=by intro op a8;simp at a8;subst a8;exact⟨rfl,rfl⟩
 generalize (#[{g:=i,fn,pos,act:= .access ⟨.cell ⟨Hb,wB,none⟩,true,false⟩}]:Trace)=u at hu;have htc:∀op∈u,∀x,op.act.touch?=some x->x=⟨.cell ⟨Hb,wB,none⟩,true,.plain⟩:=λop a8 x hx=>by
  rw[(hu op a8).2] at hx;simp only[MemAct.touch?,aX,cF,aD] at hx;exact hx.symm
 have old:∀p x b,touchAt (t++u) p=some x->blk x.loc=some b->b≠Hb->touchAt t p=some x:=λp x b hx hb eo=>by
  rcases cd hx with ⟨_,h'⟩| ⟨_,op,hm,_,vx⟩
  .exact h'
  rw[htc op hm x vx] at hb;exact absurd (aJ hb).symm eo
 have kY:∀b,(⟨lh (K i).ro Hb (.pending hc ht),Y⟩:St).knows b->(K i).knows b/\∀o,(b,o)∉X:=λb hb=>by
  have a:=h.nk i;have kP:=(G4.map (·.1)).nodup_iff.1 a.nodup;rw[cC,eF] at kP;rcases hb with hb| ⟨o,hb⟩
  .have hr:(K i).ro b≠none:=by
    by_cases e:b=Hb
    .subst e;rw[qS];simp
    simpa [lh,e] using hb
   exact⟨.inl hr,λo ho=>hr (a.apart b o (G4.mem_iff.2 (by simp[ho])))⟩
  exact⟨.inr ⟨o,G4.mem_iff.2 (by simp[hb])⟩,λo' ho=>kP.2.2 b (bB.2 ⟨_,ho,rfl⟩) b (bB.2 ⟨_,hb,rfl⟩) rfl⟩
 have oY:∀b,(⟨lh (K i).ro Hb (.pending hc ht),Y⟩:St).owns b->(K i).owns b:=λb ⟨o,hb⟩=>⟨o,G4.mem_iff.2 (by simp[hb])⟩;have neH:∀b,(K i).owns b->b≠Hb:=λb ⟨o,hb⟩ e=>by subst e;have:=(h.nk i).apart b o hb;rw[qS] at this;cases this
 have aPA:∀j b,j≠i->(K j).owns b->b≠Hb:=λj b hj hb e=>by subst e;exact h.sep j i b hj hb (.inl (by rw[qS];simp))
 have jX:∀j b o,j≠i->(K j).knows b->(b,o)∉X:=λj b o hj hb ho=>h.sep i j b (ju hj) ⟨o,G4.mem_iff.2 (by simp[ho])⟩ hb;have LX:∀b,(∀o,(b,o)∉X)->L' b=L b:=λb hb=>(hL b).resolve_right λ⟨o,ho⟩=>hb o ho;have bff:Lr (.pending hc ht) (w.setCell ⟨Hb,wB,none⟩ v).heap[Hb]?:=by
  refine .inr (.inl ⟨hc,_,ht,rfl,hw',by simp[Qx],λj hj=>?_,hht⟩);rw[jW (ju hj)];exact hce j hj
 refine⟨λb o hl=>?_,λj b ho=>?_,λj=>?_,λj k b Jl ho hb=>?_,λj b ho p x hx hb=>?_,λj b ho p x hx hb hwr hh=>?_,λp x b hx hb=>?_,λsaid=>?_,λp x b hx hkd hb=>?_⟩
 .rcases hL b with h1| ⟨o',h1⟩
  .rw[hwo b (λe=>by subst e;rw[h1,hLH] at hl;cases hl)];exact h.CG b o (h1▸hl)
  have:=hX b o' h1;rw[hl] at this;cases this;have ho:(b,o)∈(K i).rw:=G4.mem_iff.2 (by simp[h1]);rw[hwo b (neH b ⟨o,ho⟩)];exact(h.nk i).rw b o ho
 .by_cases e:j=i
  .subst e;rw[aY] at ho;rw[LX b (kY b (.inr ho)).2];exact h.mJ j b (oY b ho)
  rw[bz _ _ e] at ho;rw[LX b λo=>jX j b o e (.inr ho)];exact h.mJ j b ho
 .by_cases e:j=i
  .subst e;rw[aY];have a:=h.nk j;have kP:=(G4.map (·.1)).nodup_iff.1 a.nodup;rw[cC,eF] at kP;refine⟨λb o hb=>?_,λb o hb=>?_,λb o hb=>a.real b o (G4.mem_iff.2 (by simp[hb])),kP.2.1,λb o hb=>?_⟩
   .by_cases e:b=Hb
    .subst e;simp only[lQ,aD] at hb;subst hb;exact bff
    simp only[nK _ _ e] at hb;rw[hwo b e];exact a.ro b o hb
   .have ho:(b,o)∈(K j).rw:=G4.mem_iff.2 (by simp[hb]);rw[hwo b (neH b ⟨o,ho⟩)];exact a.rw b o ho
   have ho:(b,o)∈(K j).rw:=G4.mem_iff.2 (by simp[hb]);simp only[nK _ _ (neH b ⟨o,ho⟩)];exact a.apart b o ho
  rw[bz _ _ e];have a:=h.nk j;refine⟨λb o hb=>?_,λb o hb=>?_,a.real,a.nodup,a.apart⟩
  .by_cases e':b=Hb
   .subst e';have hf:=aSm j e o hb;rcases a.ro b o hb with h1| ⟨c1,c2,t1,rfl,h2,h3,h4,h5⟩| ⟨_,_,_,h2⟩
    .rw[hf] at h1;cases h1.2
    .rw[hwb] at h2;cases h2;refine .inr (.inl ⟨c1,_,_,rfl,hw',by simpa using h3,λj hj=>?_,h5⟩);rw[jW (ju hj)];exact h4 j hj
    rw[hwb] at h2;cases h2
   rw[hwo b e'];exact a.ro b o hb
  rw[hwo b (aPA j b e ⟨o,hb⟩)];exact a.rw b o hb
 .by_cases e:j=i
  .subst e;rw[aY] at ho;rw[bz _ _ (ju Jl)] at hb;exact h.sep j k b Jl (oY b ho) hb
  rw[bz _ _ e] at ho;by_cases e':k=i
  .subst e';rw[aY] at hb;exact h.sep j k b Jl ho (kY b hb).1
  rw[bz _ _ e'] at hb;exact h.sep j k b Jl ho hb
 .by_cases e:j=i
  .subst e;rw[aY] at ho;exact(h.perm j b (oY b ho) p x (old p x b hx hb (neH b (oY b ho))) hb).app u
  rw[bz _ _ e] at ho;exact(h.perm j b ho p x (old p x b hx hb (aPA j b e ho)) hb).app u
 .rcases cd hx with ⟨_,mL⟩| ⟨hp,op,hm,a8,vx⟩
  .by_cases e:j=i
   .subst e;rw[aY] at ho hh;refine(h.rZ j b ?_ p x mL hb hwr λ⟨a,c,ty,h1,h2,h3⟩=>hh ⟨a,?_⟩).app u
    .by_cases e:b=Hb
     .subst e;rw[qS];simp
     simpa [lh,e] using ho
    by_cases e:a.block=Hb
    .exact⟨hc,ht,h1,by rw[e];exact lQ _ _ _,h3⟩
    exact⟨c,ty,h1,by simp only[nK _ _ e];exact h2,h3⟩
   rw[bz _ _ e] at ho hh;exact(h.rZ j b ho p x mL hb hwr hh).app u
  obtain rfl:=htc op hm x vx;cases hb;by_cases e:j=i
  .subst e;rw[aY] at hh;exact absurd ⟨_,hc,ht,rfl,lQ _ _ _,rfl⟩ hh
  rw[bz _ _ e] at ho hh;cases hr:(K j).ro Hb with
  |none=>exact absurd hr ho
  |some o=>
   have hf:=aSm j e o hr;cases o with
   |pending c1 t1=>exact absurd ⟨_,_,_,rfl,hr,rfl⟩ hh
   |_=>cases hf
 .rcases cd hx with ⟨_,h'⟩| ⟨_,op,hm,_,vx⟩
  .rw[xD];exact h.old p x b h' hb
  obtain rfl:=htc op hm x vx;cases hb;rw[xD];exact lt_size hwb
 .refine noRace_append (h.clean said) (λop a8=>(hu op a8).1) λp a ha op hm b hb hcf=>?_;obtain rfl:=htc op hm b hb;exact ap5 p a ha ⟨_,hcf.1,rfl,rfl⟩
 rcases cd hx with ⟨_,mL⟩| ⟨_,op,hm,_,vx⟩
 .have hs:=h.sync p x b mL hkd hb;have hbX:∀o,(b,o)∉X:=λo ho=>hs.2 i (.inr ⟨o,G4.mem_iff.2 (by simp[ho])⟩);refine⟨by rw[LX b hbX];exact hs.1,λj hj=>?_⟩;by_cases e:j=i
  .subst e;rw[aY] at hj;exact hs.2 j (kY b hj).1
  rw[bz _ _ e] at hj;exact hs.2 j hj
 obtain rfl:=htc op hm x vx;exact absurd rfl hkd
end
def MuAt(tm:TypeId)(Mu:Nat)(w:World)(st sm:Int):Prop:=w.heap[Mu]?=some (.cells #[.int .i32 st,.int .u32 sm] tm)
def qo(tm:TypeId)(Mu:Nat)(w:World):Prop:=∃st sm,MuAt tm Mu w st sm
def mP(w w':World):Prop:=OsLater w.os w'.os/\w'.output=w.output
structure Ez(tm:TypeId)(Mu:Nat)(w w':World)(o':Wd)(m':Nat):Prop where
 size:w'.heap.size=w.heap.size
 block:∀b,b≠Mu->w'.heap[b]?=w.heap[b]?
 later:mP w w'
 now:MuAt tm Mu w' o'.enc m'
def cq.deaf:cq->Nat
 | .out _| .ld _| .la _| .own _| .ui _| .ur _| .ud _=>0
 |_=>1
def cq.mid:cq->Bool
 | .out _| .own _| .la _| .ue _=>false
 |_=>true
def cq.isL:cq->Bool
 | .out _| .own _| .ui _| .ur _| .ud _| .u0 _| .uc .. | .ux _| .us _| .ue _=>false
 |_=>true
def cq.isU:cq->Bool
 | .ui _| .ur _| .ud _| .u0 _| .uc .. | .ux _| .us _| .ue _=>true
 |_=>false
def cq.k:cq->Nat
 | .out k| .ld k| .l0 k| .r0 k| .sq k .. | .c1 k .. | .r1 k .. | .c2 k .. | .r3 k .. | .t1 k _| .s1 k _| .t2 k _| .r2 k _| .a1 k _| .le k| .la k| .own k| .ui k| .ur k| .ud k| .u0 k| .uc k _| .ux k| .us k| .ue k=>k
def cq.FY:cq->Bool
 | .s1 .. =>true
 |_=>false
def p8:cq->Wd->Prop
 | .r1 _ aw sv _ _,o| .r3 _ aw sv _ _,o=>aw=true->o.W=true/\o.S=false
 | .r2 _ _,o=>(o.S=true->o.L=false/\o.W=false/\1<=o.c)/\(o.S=false->o.W=true)
 | .a1 _ _,o=>o.S=true/\o.L=false/\o.W=false/\1<=o.c
 | .u0 _,o=>o.L=true
 |_,_=>True
def uU(Mu:Nat)(e:Event):Prop:=e=said .disable\/e=said .enable\/e=said (.releaseMerge (stA Mu))\/e=said (.acquire (stA Mu))\/∃a x,e=⟨.cell a,x,true⟩/\a.block=Mu
structure EA(P:Program)(tm:TypeId)(mx:Nat) where
 At:Nat->cq->List Frame->Goroutine->Prop
 running:∀ {Mu x cs g},At Mu x cs g->g.status= .running/\g.offers=none
 step:∀ {Mu x cs g w o m},At Mu x cs g->MuAt tm Mu w (Wd.enc o) (m:Nat)->o.c<=mx->m<=1->x.Ok->p8 x o->x.mid=true->(x.FY=true->m=1)->
  ∃g' w' es x' o' m',Nx x o m x' o' m'/\stepG P false g w= .go g' w' es/\Ez tm Mu w w' o' m'/\(∀e∈es,uU Mu e)/\deafBehind x.deaf es=x'.deaf/\
   (∀k,x= .ur k->es= #[said (.releaseMerge (stA Mu))])/\((∃k,x= .us k)->mayWake P g=true)/\∃n,Pure P false (qo tm Mu) (At Mu x' cs) n g'
 block:∀ {Mu k sv cs g w o},At Mu (.s1 k sv) cs g->MuAt tm Mu w (Wd.enc o) 0->stepG P false g w= .go {g with status:= .blocked} w #[]
 la:∀ {Mu k c cs g},At Mu (.la k) (c::cs) g->∃g',(∀w,stepG P false g w= .go g' w #[said (.acquire (stA Mu))])/\∃n,Pure P false (λ_=>True) (· =G (c.finish (.tuple #[])) cs) n g'
 ue:∀ {Mu k c cs g},At Mu (.ue k) (c::cs) g->c.mode= .returning->∃g',(∀w,stepG P false g w= .go g' w #[said .enable])/\∃n,Pure P false (λ_=>True) (· =G c cs) n g'
structure fW(ι:Type) where
 P:Program
 ty:TypeId
 tm:TypeId
 Wg:Nat
 Mu:Nat
 Hb:Nat
 max:Nat
 mxl:Nat
 hc:Array Value
 ht:TypeId
 os:Os
 out:Array (Nat×ByteArray)
 Gd:List ι->Value->List (Nat×Obj)->Prop
 M:EA P tm max
 hht:ht<=NI
section
variable {ι:Type} (E:fW ι)
def fW.oQ:iS Unit:=⟨E.P,E.ty,E.Wg,0,E.max,undef,E.os,E.out,λ_ _ _=>False⟩
def fW.full(v:Value):Obj:= .cells (E.hc.setIfInBounds wB v) E.ht (0,0)
def fW.hole:Obj:= .pending E.hc E.ht
abbrev fW.pu(Stop:Goroutine->Prop)(n:Nat)(g:Goroutine):Prop:=Pure E.P false (qo E.tm E.Mu) Stop n g
def RL(l1:List ι)(s:St)(w:World)(s':St)(w':World)(es:Array Event):Prop:=∃v X Y c,s.ro E.Hb=some (.cells c E.ht (0,0))/\wB <c.size/\c.size=E.hc.size/\(∀j,j≠wB->c[j]?=E.hc[j]?)/\
 s.rw.Perm (X++Y)/\E.Gd l1 v X/\w'=w.setCell ⟨E.Hb,wB,none⟩ v/\es= #[⟨.cell ⟨E.Hb,wB,none⟩,true,false⟩]/\s'.le ⟨lh s.ro E.Hb E.hole,Y⟩
def tC(l1:List ι)(Stop:Goroutine->St->Prop):Tree->Goroutine->St->Prop
 | .leaf,g,s=>Stop g s
 | .node f,g,s=>g.status= .running/\∀w,cZ s w->∃g' w' es s',stepG E.P false g w= .go g' w' es/\g'.status= .running/\(Trans s w s' w' es\/RL E l1 s w s' w' es)/\tC l1 Stop (f w) g' s'
def rA(l1:List ι)(Stop:Goroutine->St->Prop)(g:Goroutine)(s:St):Prop:=∃tr gT,gT.le s/\tC E l1 Stop tr g gT
def fW.Unl(Next:Goroutine->St->Prop)(k:Nat)(g:Goroutine)(s:St):Prop:=s.ro E.Hb=some E.hole/\∃c cs n,E.pu (E.M.At E.Mu (.ui k) (c::cs)) n g/\c.mode= .returning/\gi E.P false Next (G c cs) s
def fW.aWi(Next:Goroutine->St->Prop)(o:ι)(k:Nat)(c:Frame)(cs:List Frame)(s:St):Prop:=
 s.ro E.Hb=some E.hole/\∀l v X,E.Gd l v X->l.length <E.mxl->rA E (l++[o]) (E.Unl Next k) (G (c.finish (.tuple #[])) cs) ⟨lh s.ro E.Hb (E.full v),X++s.rw⟩
def fW.Lck(Next:Goroutine->St->Prop)(o:ι)(k:Nat)(g:Goroutine)(s:St):Prop:=∃c cs n,E.pu (E.M.At E.Mu (.ld k) (c::cs)) n g/\E.aWi Next o k c cs s
def fW.Stp(E:fW ι):List ι->Goroutine->St->Prop
 | [],g,_=>E.oQ.pure false E.oQ.R0 g
 |o::os,g,s=>E.Lck (E.Stp os) o os.length g s
inductive aN(ι:Type) where
 |leave (q d:Nat) (cur:Bool)
 |work (os:List ι) (tr:Tree)
 |lk (x:cq) (n:Nat) (o:ι) (os:List ι)
 |xj (o:ι) (os l:List ι) (tr:Tree)
 |post (os:List ι) (tr:Tree)
 |ul (x:cq) (n:Nat) (os:List ι)
 |st (k:WK) (n:Nat)
def aN.qO:aN ι->cq
 | .leave .. | .st .. => .out 0
 | .work os _=> .out os.length
 | .lk x .. =>x
 | .xj _ os _ _| .post os _=> .own os.length
 | .ul x _ _=>x
def aN.AT:aN ι->List ι
 | .leave .. | .st .. =>[]
 | .work os _| .post os _| .ul _ _ os=>os
 | .lk _ _ o os| .xj o os _ _=>o::os
def aN.cnt:aN ι->Nat
 | .leave .. =>0
 | .st .r0 _| .st .k1 _| .st .d1 _=>1
 | .st .. =>0
 |_=>1
def aN.c4:aN ι->Nat
 | .st .d2 _=>1
 |_=>0
def aN.c3:aN ι->Nat
 | .st .d3 _=>1
 |_=>0
def aN.c2:aN ι->Nat
 | .st .d4 _=>1
 |_=>0
def aN.left:aN ι->Bool
 | .leave .. =>true
 |_=>false
def aN.tok:aN ι->Bool
 | .post .. | .ul (.ui _) _ _| .ul (.ur _) _ _=>true
 |_=>false
def aN.iJ:aN ι->Bool
 | .xj .. =>true
 |_=>false
def Ca(Hb:Nat)(t:Trace)(i:Nat):Prop:=∀p x,touchAt t p=some x->oS Hb x.loc->Knows t i p
def kg(t:Trace)(i:Nat)(s:St)(g:Goroutine):aN ι->Prop
 | .leave q d cur=>s=⟨λ_=>none,[]⟩/\QuitsD E.P q d g/\Deaf t i=d/\(cur=true->∃r,ConcN.RelBy (stA E.Wg) t i r)/\(cur=false->fU t i)
 | .work os tr=>Deaf t i=0/\qn E.P false (E.Stp os) tr g s
 | .lk x n o os=>x.isL=true/\x.k=os.length/\Deaf t i=x.deaf/\∃c cs,E.aWi (E.Stp os) o os.length c cs s/\
  (E.pu (E.M.At E.Mu x (c::cs)) n g\/(n=0/\x.FY=true/\∃kZ,E.M.At E.Mu x (c::cs) kZ/\g={kZ with status:= .blocked}))
 | .xj o os l tr=>Deaf t i=0/\Ca E.Hb t i/\(∀x,s.ro E.Hb=some x->Obj.real x=true)/\tC E (l++[o]) (E.Unl (E.Stp os) os.length) tr g s
 | .post os tr=>Deaf t i=0/\∃l1,tC E l1 (E.Unl (E.Stp os) os.length) tr g s
 | .ul x n os=>x.isU=true/\x.k=os.length/\Deaf t i=x.deaf/\∃c cs,E.pu (E.M.At E.Mu x (c::cs)) n g/\c.mode= .returning/\gi E.P false (E.Stp os) (G c cs) s
 | .st k n=>s=⟨λ_=>none,[]⟩/\Deaf t i=k.deaf/\Pure E.P false E.oQ.live (k.stop E.oQ) n g/\(k.said=true->∃r,ConcN.RelBy (stA E.Wg) t i r)
section
variable (Fin:Goroutine->Prop)
abbrev fW.pw(Stop:Goroutine->Prop)(g:Goroutine):Prop:=E.oQ.pure true Stop g
def fW.Aq(g:Goroutine):Prop:=g.status= .running/\∃g',(∀w,stepG E.P true g w= .go g' w #[said (.acquire (stA E.Wg))])/\Fin g'
def fW.Ke(g:Goroutine):Prop:=g.status= .running/\∃g',(∀w,stepG E.P true g w= .go g' w #[said .enable])/\E.pw (E.Aq Fin) g'
def fW.W4(g:Goroutine):Prop:=g.status= .running/\∃g',(∀w,WgAt E.ty E.Wg w 0 0->stepG E.P true g w= .go g' w #[rd (stA E.Wg)])/\E.pw (E.Ke Fin) g'
def fW.W3(g:Goroutine):Prop:=g.status= .running/\g.offers=none/\(∀w st,WgAt E.ty E.Wg w st 0->stepG E.P true g w= .go {g with status:= .blocked} w #[])/\
 ∃g',(∀w,WgAt E.ty E.Wg w 0 1->stepG E.P true g w= .go g' (w.setCell (smA E.Wg) (.int .u32 0)) (semEvents (smA E.Wg)))/\E.pw (E.W4 Fin) g'
def fW.Wr(g:Goroutine):Prop:=g.status= .running/\∃g',(∀w,stepG E.P true g w= .go g' w #[said (.write (smA E.Wg))])/\E.pw (E.W3 Fin) g'
def fW.W2(RF:Goroutine->Prop)(vs:Nat)(g:Goroutine):Prop:=g.status= .running/\
 (∃g',(∀w,WgAt E.ty E.Wg w ((vs:Int)*KK) 0->stepG E.P true g w= .go g' (w.setCell (stA E.Wg) (.int .u64 ((vs:Int)*KK+1))) #[rd (stA E.Wg),wr (stA E.Wg)])/\E.pw (E.Wr Fin) g')/\
 ∀v:Nat,v <vs->∃g',(∀w,WgAt E.ty E.Wg w ((v:Int)*KK) 0->stepG E.P true g w= .go g' w #[rd (stA E.Wg)])/\RF g'
def fW.W1(E:fW ι)(Fin:Goroutine->Prop):Nat->Goroutine->Prop
 |0,g=>g.status= .running/\∃g',(∀w,WgAt E.ty E.Wg w 0 0->stepG E.P true g w= .go g' w #[rd (stA E.Wg)])/\E.pw (E.Ke Fin) g'
 |b+1,g=>g.status= .running/\(∃g',(∀w,WgAt E.ty E.Wg w 0 0->stepG E.P true g w= .go g' w #[rd (stA E.Wg)])/\E.pw (E.Ke Fin) g')/\
  ∀v,1<=v->v<=b+1->∃g',(∀w,WgAt E.ty E.Wg w ((v:Int)*KK) 0->stepG E.P true g w= .go g' w #[rd (stA E.Wg)])/\E.pw (E.W2 Fin (E.pw (E.W1 Fin b)) v) g'
def fW.Kd(g:Goroutine):Prop:=g.status= .running/\∃g',(∀w,stepG E.P true g w= .go g' w #[said .disable])/\E.pw (E.W1 Fin E.max) g'
abbrev fW.pm(Stop:Goroutine->Prop)(n:Nat)(g:Goroutine):Prop:=Pure E.P true E.oQ.live Stop n g
def fW.mat(g:Goroutine)(n:Nat):CK->Prop
 | .kd=>E.pm (E.Kd Fin) n g
 | .w1 b=>E.pm (E.W1 Fin b) n g
 | .w2 b vs=>E.pm (E.W2 Fin (E.pw (E.W1 Fin b)) vs) n g
 | .wr=>E.pm (E.Wr Fin) n g
 | .w3=>∃m,n=m+1/\E.pm (E.W3 Fin) m g
 | .blk=>n=0/\∃kZ,E.W3 Fin kZ/\g={kZ with status:= .blocked}
 | .w4=>E.pm (E.W4 Fin) n g
 | .ke=>E.pm (E.Ke Fin) n g
 | .aq=>E.pm (E.Aq Fin) n g
 | .run _=>False
end
end
section
variable {ι:Type} {E:fW ι}
def Mf(l1:List ι)(Stop:Goroutine->St->Prop){g:Goroutine}{s:St}(hs:g.status= .running)
 (h:∀w,cZ s w->∃g' w' es s',stepG E.P false g w= .go g' w' es/\g'.status= .running/\(Trans s w s' w' es\/RL E l1 s w s' w' es)/\rA E l1 Stop g' s'):rA E l1 Stop g s:=by
 have key:∀w,∃tr,cZ s w->∃g' w' es s',stepG E.P false g w= .go g' w' es/\g'.status= .running/\(Trans s w s' w' es\/RL E l1 s w s' w' es)/\tC E l1 Stop tr g' s':=λw=>by
  by_cases ha:cZ s w
  .obtain⟨g',w',es,s',h1,h2,h3,tr,gT,hl,h4⟩:=h w ha;refine⟨tr,λ_=>⟨g',w',es,gT,h1,h2,?_,h4⟩⟩;rcases h3 with h3| ⟨v,X,Y,c,k1,k2,k3,k4,k5,k6,k7,k8,k9⟩
   .exact .inl (h3.le hl)
   exact .inr ⟨v,X,Y,c,k1,k2,k3,k4,k5,k6,k7,k8,hl.trans k9⟩
  exact⟨.leaf,λvL=>absurd vL ha⟩
 exact⟨.node λw=>(key w).choose,s,St.le_refl s,hs,λw ha=>(key w).choose_spec ha⟩
def sN(l1:List ι)(Stop:Goroutine->St->Prop):Closed E.P false (rA E l1 Stop) where
 step:=λg s hs h=>Mf l1 _ hs λw ha=>let ⟨g',w',es,s',h1,h2,h3,h4⟩:=h w ha;⟨g',w',es,s',h1,h2,.inl h3,h4⟩
 mono:=λg s s' hl ⟨tr,gT,h,ht⟩=>⟨tr,gT,h.trans hl,ht⟩
def rA.stop{l1:List ι}{g:Goroutine}{s:St}(h:Stop g s):rA E l1 Stop g s:=⟨.leaf,s,St.le_refl s,h⟩
theorem tC.running{l1:List ι}(hS:∀g s,Stop g s->g.status= .running):∀ {tr:Tree} {g:Goroutine} {s:St},tC E l1 Stop tr g s->g.status= .running
 | .leaf,_,_,h=>hS _ _ h
 | .node _,_,_,h=>h.1
end
section
variable {ι:Type} {E:fW ι} {t u:Trace} {i j:Nat} {s:St} {g:Goroutine}
theorem fW.pu.running{x:cq}(h:E.pu (E.M.At E.Mu x cs) n g):g.status= .running:=Pure.running (λ_ y=>(E.M.running y).1) h
theorem fW.Stp.running:∀ {os:List ι},E.Stp os g s->g.status= .running
 | [],h=>iS.pure.running (λ_ y=>y.1) h
 |_::_,⟨_,_,_,h,_⟩=>fW.pu.running h
theorem fW.Unl.running{Next:Goroutine->St->Prop}{k:Nat}(h:E.Unl Next k g s):g.status= .running:=by
 obtain⟨_,_,_,_,h,_⟩:=h;exact fW.pu.running h
theorem Ca.app{Hb:Nat}(h:Ca Hb t i)(hu:∀op∈u,op.g=i\/∀x,op.act.touch?=some x->¬oS Hb x.loc):Ca Hb (t++u) i:=λp x hx hh=>by
 rcases cd hx with ⟨_,h'⟩| ⟨_,op,hm,ho,vx⟩
 .exact(h p x h' hh).app u
 grind [knows_own,absurd]
def kg.other{r:aN ι}(h:kg E t j s g r)(hu:∀op∈u,op.g≠j)(hh:r.iJ=true->∀op∈u,∀x,op.act.touch?=some x->¬oS E.Hb x.loc):kg E (t++u) j s g r:=by
 have hd:=jm t u hu;cases r with
 |leave q d cur=>exact⟨h.1,h.2.1,by rw[hd];exact h.2.2.1,λhc=>let ⟨r,hr⟩:=h.2.2.2.1 hc;⟨r,RelBy.other hr hu⟩,λhc=>(h.2.2.2.2 hc).other hu⟩
 |work o tr=>exact⟨by rw[hd];exact h.1,h.2⟩
 |lk x n o os=>exact⟨h.1,h.2.1,by rw[hd];exact h.2.2.1,h.2.2.2⟩
 |xj o os l tr=>exact⟨by rw[hd];exact h.1,h.2.1.app λop a8=> .inr (hh rfl op a8),h.2.2⟩
 |post os tr=>exact⟨by rw[hd];exact h.1,h.2⟩
 |ul x n os=>exact⟨h.1,h.2.1,by rw[hd];exact h.2.2.1,h.2.2.2⟩
 |st k n=>exact⟨h.1,by rw[hd];exact h.2.1,h.2.2.1,λhc=>let ⟨r,hr⟩:=h.2.2.2 hc;⟨r,RelBy.other hr hu⟩⟩
theorem kg.running{r:aN ι}(h:kg E t j s g r):(g.status= .running\/g.status= .finished)\/(∃x o os,r= .lk x 0 o os/\x.FY=true/\∃kZ c cs,E.M.At E.Mu x (c::cs) kZ/\g={kZ with status:= .blocked}):=by
 cases r with
 |leave q d cur=>exact .inl h.2.1.status
 |work o tr=>exact .inl (.inl (qn.running (λ_ _ x=>fW.Stp.running x) h.2))
 |lk x n o os=>
  obtain⟨_,_,_,c,cs,_,h1| ⟨rfl,h2,kZ,h3,h4⟩⟩:=h
  .exact .inl (.inl (fW.pu.running h1))
  grind
 |xj o os l tr=>exact .inl (.inl (tC.running (λ_ _ x=>fW.Unl.running x) h.2.2.2))
 |post os tr=>obtain⟨_,_,h⟩:=h;exact .inl (.inl (tC.running (λ_ _ x=>fW.Unl.running x) h))
 |ul x n os=>
  obtain⟨_,_,_,c,cs,h1,_⟩:=h;exact .inl (.inl (fW.pu.running h1))
 |st k n=>exact .inl (.inl (Pure.running (WK.running k) h.2.2.1))
theorem again_blocked{kZ:Goroutine}(h1:kZ.status= .running)(h2:kZ.offers=none)(w:World):({kZ with status:= .blocked}:Goroutine).again w=kZ:=by
 obtain⟨f,cs,stt,dy,of⟩:=kZ
 grind [Goroutine.again]
theorem kg.woken{r:aN ι}(h:kg E t j s g r)(a a':Goroutine)(w':World):kg E t j s (woken E.P a a' w' g) r:=by
 rcases h.running with hs| ⟨x,o,os,rfl,hx,kZ,_,_,aIu,hg0⟩
 .have:Go.Conc.woken E.P a a' w' g=g:=by
   unfold Go.Conc.woken;split
   .exact again_running _ hs
   rfl
  rw[this];exact h
 obtain⟨h1,h2,h3,c,cs,h4,h5⟩:=h;refine⟨h1,h2,h3,c,cs,h4,?_⟩;rcases h5 with h5| ⟨_,_,dk,ei,hg⟩
 .have hs:=fW.pu.running h5
  grind
 obtain⟨e1,e2⟩:=E.M.running ei;unfold Go.Conc.woken;split
 .rw[hg,again_blocked e1 e2];exact .inl ei
 exact .inr ⟨rfl,hx,dk,ei,hg⟩
theorem HD{P:Program}{a a':Goroutine}(h1:mayWake P a=true)(h2:a'.status= .running\/a'.status= .finished){r:aN ι}(h:kg E t j s g r):(Go.Conc.woken P a a' w' g).status≠ .blocked:=by
 have hc:(mayWake P a&&a'.status != .blocked&&a'.status != .waiting)=true:=by rcases h2 with h2|h2<;>simp[h1,h2]
 have e:Go.Conc.woken P a a' w' g=g.again w':=by unfold Go.Conc.woken;rw[dW hc]
 rw[e];rcases h.running with hs| ⟨x,o,os,rfl,hx,kZ,_,_,aIu,hg0⟩
 .grind [again_running]
 obtain⟨e1,e2⟩:=E.M.running aIu;rw[hg0,again_blocked e1 e2,e1];simp
def mP.refl(w:World):mP w w:=⟨OsLater.refl _,rfl⟩
def mP.ZG{s:St}{w:World}{es:Array Event}(h:Trans s w s' w' es):mP w w':=⟨by rw[h.os];exact OsLater.refl _,h.output⟩
structure nX(E:fW ι)(L:Nat->Option Obj)(K:Nat->St)(gs:Array Goroutine)(w:World)(t:Trace)(D:List (aN ι)):Prop where
 fit:Fit L K w t
 size:gs.size=D.length+1
 ok:∀i r,D[i]?=some r->∃g,gs[i+1]?=some g/\kg E t (i+1) (K (i+1)) g r
 far:∀i,gs.size<=i->∀b,¬(K i).knows b
 ops:∀op∈t,op.g <gs.size
 same:OsLater E.os w.os/\w.output=E.out
theorem nX.step{L L':Nat->Option Obj}{K:Nat->St}{w:World}{D:List (aN ι)}(h:nX E L K gs w t D){r':aN ι}(hi:i <D.length) 
 (hu:∀op∈u,op.g=i+1)(GX:mP w w')(oe:Fit L' (gN K (i+1) s') w' (t++u))(hr:kg E (t++u) (i+1) s' g' r')
 (hh:∀k r,k≠i->D[k]?=some r->r.iJ=true->∀op∈u,∀x,op.act.touch?=some x->¬oS E.Hb x.loc):
 nX E L' (gN K (i+1) s') ((gs.map (woken E.P g g' w')).setIfInBounds (i+1) g') w' (t++u) (D.set i r'):=by
 refine⟨oe,by simp[h.size],λk r hk=>?_,λk hk=>?_,λop a8=>?_,⟨h.same.1.trans GX.1,GX.2.trans h.same.2⟩⟩
 .by_cases e:k=i
  .subst e;have qT:r=r':=by simpa [List.getElem?_set,hi] using hk.symm
   subst qT;exact⟨g',by simp[h.size,hi],by rw[aY];exact hr⟩
  rw[List.getElem?_set_ne (ju e)] at hk;obtain⟨x,hx,dJ⟩:=h.ok k r hk;have eo:k+1≠i+1:=by omega
  rw[bz K s' eo];exact⟨_,ij eo hx,(dJ.other (u:=u) (λop a8=>by rw[hu op a8];omega) (hh k r e hk)).woken _ _ _⟩
 .rw[jA,LJ] at hk;rw[bz K s' (by have:=h.size;omega)];exact h.far k hk
 rw[jA,LJ];rcases oW.1 a8 with h'|h'
 .exact h.ops op h'
 rw[hu op h',h.size];omega
abbrev e8(f:aN ι->Nat)(D:List (aN ι)):Nat:=kJ f D
def jQ(D:List (aN ι)):List ι:=D.flatMap aN.AT
abbrev yq:=Option (CK×Nat)
inductive Nb:yq->yq->Prop
 |same (c:yq):Nb c c
 |up:Nb (some (.blk,0)) (some (.w3,1))
theorem Md.ML{a c:Nat}{cl cl':yq}(h:Md mx n a b c (cl.map (·.1)) st sm)(hw:Nb cl cl'):Md mx n a b c (cl'.map (·.1)) st sm:=by
 cases hw with
 |same=>grind
 |up=>
  cases h with
  |reg _ h2=>exact .reg bW h2
  |l4 _=>exact .l4 bW
  |l3 _=>exact .l3 bW
  |l2 _=>exact .l2 bW
  |sema _ h2=>grind
  |over h1=>exact h1.elim
variable (E) in
def rk(Fin:Goroutine->Prop)(main:Goroutine)(d0:Nat):yq->Prop
 |none=>main.status= .running
 |some (c,n)=>E.mat Fin main n c/\d0=c.deaf
variable {Fin:Goroutine->Prop}
theorem fW.mat.running:∀ {c:CK},E.mat Fin g n c->c≠ .blk->g.status= .running
 | .kd,h,_=>Pure.running (λ_ x=>x.1) h
 | .w1 b,h,_=>Pure.running (λ_ x=>by cases b<;>exact x.1) h
 | .w2 _ _,h,_=>Pure.running (λ_ x=>x.1) h
 | .wr,h,_=>Pure.running (λ_ x=>x.1) h
 | .w3,⟨_,_,h⟩,_=>Pure.running (λ_ x=>x.1) h
 | .blk,_,h=>absurd rfl h
 | .w4,h,_=>Pure.running (λ_ x=>x.1) h
 | .ke,h,_=>Pure.running (λ_ x=>x.1) h
 | .aq,h,_=>Pure.running (λ_ x=>x.1) h
 | .run _,h,_=>h.elim
def rk.tries{main:Goroutine}{d0:Nat}{cl:yq}(h:rk E Fin main d0 cl)(a a':Goroutine)(w':World):
 ∃cl',Nb cl cl'/\rk E Fin (woken E.P a a' w' main) d0 cl'/\(mayWake E.P a=true->(a'.status= .running\/a'.status= .finished)->cl'.map (·.1)≠some .blk)/\(main.status= .running->woken E.P a a' w' main=main)/\(cl=none↔cl'=none):=by
 have dz:main.status= .running->woken E.P a a' w' main=main:=λhs=>by
  unfold Go.Conc.woken;split
  .exact again_running _ (.inl hs)
  rfl
 match cl,h with
 |none,h=>exact⟨none,.same _,by show (Go.Conc.woken _ _ _ _ _).status=_;rw[dz h];exact h,by simp,dz,Iff.rfl⟩
 |some (c,n),⟨h,hd⟩=>
  by_cases hb:c= .blk
  .subst hb;obtain⟨rfl,kZ,hg,rfl⟩:=h;by_cases hw:(mayWake E.P a&&a'.status != .blocked&&a'.status != .waiting)=true
   .refine⟨some (.w3,1),.up,⟨⟨0,rfl,?_⟩,hd⟩,by simp,dz,by simp⟩;have:Go.Conc.woken E.P a a' w' {kZ with status:= .blocked}=kZ:=by
     unfold Go.Conc.woken;rw[dW hw];exact again_blocked hg.1 hg.2.1 w'
    rw[this];exact hg
   refine⟨some (.blk,0),.same _,⟨⟨rfl,kZ,hg,by simp[Go.Conc.woken,hw]⟩,hd⟩,λh1 h2=>absurd ?_ hw,dz,by simp⟩;rcases h2 with h2|h2<;>simp[h1,h2]
  refine⟨some (c,n),.same _,⟨?_,hd⟩,λ_ _=>by simpa using hb,dz,by simp⟩;rw[dz (fW.mat.running h hb)];exact h
def aN.mu(w:Wd):aN ι->Nat×Tree×Nat
 | .leave q _ _=>(0,.leaf,q)
 | .st k n=>(k.kz,.leaf,n)
 | .work _ tr=>(105,tr,0)
 | .lk x n _ _| .ul x n _=>(2*x.kz w+7,.leaf,n)
 | .xj _ _ _ tr=>(18,tr,0)
 | .post _ tr=>(17,tr,0)
def tE(w:Wd)(a b:aN ι):Prop:=CZ (a.mu w) (b.mu w)
def tE.wf(w:Wd):WellFounded (tE (ι:=ι) w):=InvImage.wf _ CZ.wf
structure GM(ι:Type) where
 D:List (aN ι)
 o:Wd
 m:Nat
 c:Nat×Tree×Nat
 r:Nat
def DZ(D:List (aN ι))(m:Nat):Nat:=kJ cq.Jf (D.map aN.qO)+2*m
def GM.P(a:GM ι):Nat:=DZ a.D a.m
inductive Ct:GM ι->GM ι->Prop
 |p {a b:GM ι}:a.P <b.P->Ct a b
 |d {a b:GM ι}:a.P<=b.P->a.o=b.o->One (tE a.o) a.D b.D->Ct a b
 |c {a b:GM ι}:a.P<=b.P->a.o=b.o->a.D=b.D->CZ a.c b.c->Ct a b
 |r {a b:GM ι}:a.P<=b.P->a.o=b.o->a.D=b.D->a.c=b.c->a.r <b.r->Ct a b
theorem Ct.wf:WellFounded (Ct (ι:=ι)):=by
 refine⟨λa=>?_⟩;generalize hP:a.P=P
 induction P using Nat.strongRecOn generalizing a with
 |_ P ih=>
  obtain⟨D,o,m,c,r⟩:=a;have key:∀D,∀c,∀r,∀m,(GM.mk D o m c r).P<=P->Acc Ct (GM.mk (ι:=ι) D o m c r):=by
   intro D
   induction D using (One.wf (tE.wf o)).induction with
   |_ D ihD=>
    intro c
    induction c using CZ.wf.induction with
    |_ c ihc=>
     intro r
     induction r using Nat.strongRecOn with
     |_ r ihr=>
      intro m hle;refine⟨_,λy hy=>?_⟩;obtain⟨D',o',m',c',r'⟩:=y;cases hy with
      |p h=>exact ih _ (by omega) _ rfl
      |d h1 h2 h3=>simp only at h2 h3;subst h2;exact ihD D' h3 c' r' m' (by omega)
      |c h1 h2 h3 h4=>simp only at h2 h3 h4;subst h2 h3;exact ihc c' h4 r' m' (by omega)
      |r h1 h2 h3 h4 h5=>grind
  exact key D c r m (by omega)
def lZ(mx:Nat):yq->Nat×Tree×Nat
 |none=>(0,.leaf,0)
 |some (c,n)=>(c.phi mx,c.tree,n)
def runN(gs:Array Goroutine):Nat:=kJ (λg=>if g.status= .running then 1 else 0) gs.toList
end
end Go.L
