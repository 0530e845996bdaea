/- Part 1 of the proof. -/
import Derived.Calls
import Derived.Conc.Own
import Derived.IntWalk
import Derived.Laws.Sem
set_option maxRecDepth 100000
set_option linter.all false
namespace Go.L
open Go
variable {α β ι:Type} {v:Value} {l z vs z':List Value} {R:List (Nat×Obj)} {t T':TypeId} {b o n i id sz dep j iY w7:Nat} {Pl:List (Nat×Value)} {x y:Operand} {f:Operand→Value} {args:Array Value} {xs:Array Operand} {o':Obj} {r main ye:Bool} {w' abA:World} {cs:List Frame} {d:Tmp}
structure St where
 ro:Nat→Option Obj
 rw:List (Nat×Obj)
variable {E:Halt→St→Prop} {s s' Pn acg acf:St} {T:Goroutine→St→Prop}
def qg:Nat:=9
def Obj.real:Obj→Bool
 | .pending .. =>false
 |_=>true
def Fj:Nat:=1000000
theorem Ug{t u:Nat}(h:t≤Fj):t≠u+(Fj+1):=by omega
def DU(o:Obj)(h:Option Obj):Prop:=(h=some o∧Obj.real o=true)∨(∃c c' t,o= .pending c t∧h=some (.cells c' t (0,0))∧c'.size=c.size∧(∀j,j≠qg→c'[j]?=c[j]?)∧t≤Fj)∨
 ∃c t,o= .pending c (t+(Fj+1))∧h=some (.pending c t)
def St.has(s:St)(b:Nat)(o:Obj):Prop:=s.ro b=some o∨(b,o)∈s.rw
def St.owns(s:St)(b:Nat):Prop:=∃o,(b,o)∈s.rw
def St.knows(s:St)(b:Nat):Prop:=s.ro b≠none∨s.owns b
structure aZ(s:St)(w:World):Prop where
 ro:∀b o,s.ro b=some o→DU o w.heap[b]?
 rw:∀b o,(b,o)∈s.rw→w.heap[b]?=some o
 real:∀b o,(b,o)∈s.rw→Obj.real o=true
 nodup:(s.rw.map (·.1)).Nodup
 apart:∀b o,(b,o)∈s.rw→s.ro b=none
theorem aZ.has{w:World}(h:aZ s w){o:Obj}(hb:s.has b o)(hr:Obj.real o=true):w.heap[b]?=some o:=
 hb.elim (fun k=>(h.ro b o k).elim (·.1) fun h=>h.elim (fun⟨_,_,_,e,_⟩=>by rw[e] at hr;cases hr) fun⟨_,_,e,_⟩=>by rw[e] at hr;cases hr) (h.rw b o)
theorem aZ.My{w:World}(h:aZ s w){o:Obj}(hb:s.has b o):DU o w.heap[b]?:=
 hb.elim (h.ro b o) fun k=> .inl ⟨h.rw b o k,h.real b o k⟩
theorem aZ.lt{w:World}(h:aZ s w){o:Obj}(hb:s.has b o):b <w.heap.size:=by
 rcases Nat.lt_or_ge b w.heap.size with hl|hl
 ·exact hl
 rcases h.My hb with ⟨h1,_⟩| ⟨_,_,_,_,h1,_⟩| ⟨_,_,_,h1⟩<;>simp[Array.getElem?_eq_none hl] at h1
def An:Mark→Bool
 | .acquire _| .release _| .releaseMerge _| .disable| .enable| .read _| .write _=>false
 |_=>true
def Fz(s:St)(n:Nat)(e:Event):Prop:=
 match e.loc with
 | .cell a=>e.sync=false∧(n≤a.block∨s.owns a.block∨(e.write=false∧s.ro a.block≠none∧∀c t,s.ro a.block=some (.pending c t)→a.off≠qg))
 | .obj r=>e.sync=false∧(n≤r∨s.owns r∨(e.write=false∧s.ro r≠none))
 | .mark m=>An m=true
 |_=>False
def blk:Loc→Option Nat
 | .cell a=>some a.block
 | .obj r=>some r
 |_=>none
structure Trans(s:St)(w:World)(s':St)(w':World)(es:Array Event):Prop where
 iX:aZ s' w'
 size:w.heap.size≤w'.heap.size
 frame:∀b,b <w.heap.size→¬s.owns b→w'.heap[b]?=w.heap[b]?
 own:∀b,s'.owns b→w.heap.size≤b∨s.owns b
 IF:∀b,s'.ro b≠none→w.heap.size≤b∨s'.ro b=s.ro b∨s.owns b
 os:w'.os=w.os
 output:w'.output=w.output
 tape:w'.tape=w.tape
 tP:∀e∈es,Fz s w.heap.size e
 low:∀e∈es,∀b,blk e.loc=some b→b <w'.heap.size
theorem Trans.refl{w:World}(h:aZ s w):Trans s w s w #[] where
 iX:=h
 size:=Nat.le_refl _
 frame:=fun _ _ _=>rfl
 own:=fun _ h=> .inr h
 IF:=fun _ _=> .inr (.inl rfl)
 os:=rfl
 output:=rfl
 tape:=rfl
 tP:=by simp
 low:=by simp
theorem Trans.trans{axw axv:World}{agY agX:Array Event}(h:Trans Pn abA acg axw agY)(k:Trans acg axw acf axv agX):
 Trans Pn abA acf axv (agY++agX) where
 iX:=k.iX
 size:=Nat.le_trans h.size k.size
 frame:=fun b hb hn=>by
  rw[k.frame b (Nat.lt_of_lt_of_le hb h.size) (fun ho=>by rcases h.own b ho with h1|h1;omega;exact hn h1),h.frame b hb hn]
 own:=fun b hb=>by
  rcases k.own b hb with h1|h1
  ·exact .inl (Nat.le_trans h.size h1)
  exact h.own b h1
 IF:=fun b hb=>by
  rcases k.IF b hb with h1|h1|h1
  ·exact .inl (Nat.le_trans h.size h1)
  ·rw[h1];exact h.IF b (h1▸hb)
  rcases h.own b h1 with h2|h2
  ·exact .inl h2
  exact .inr (.inr h2)
 os:=k.os.trans h.os
 output:=k.output.trans h.output
 tape:=k.tape.trans h.tape
 low:=fun e he b hb=>by
  rcases Array.mem_append.1 he with he|he
  ·exact Nat.lt_of_lt_of_le (h.low e he b hb) k.size
  exact k.low e he b hb
 tP:=fun e he=>by
  rcases Array.mem_append.1 he with he|he
  ·exact h.tP e he
  have:=k.tP e he
  unfold Fz at*
  split at this
  ·rename_i a _
   refine⟨this.1,?_⟩
   rcases this.2 with h1|h1|h1
   ·exact .inl (Nat.le_trans h.size h1)
   ·rcases h.own _ h1 with h2|h2
    ·exact .inl h2
    exact .inr (.inl h2)
   rcases h.IF _ h1.2.1 with h2|h2|h2
   ·exact .inl h2
   ·exact .inr (.inr ⟨h1.1,by rw[←h2];exact h1.2⟩)
   exact .inr (.inl h2)
  ·rename_i r _
   refine⟨this.1,?_⟩
   rcases this.2 with h1|h1|h1
   ·exact .inl (Nat.le_trans h.size h1)
   ·rcases h.own _ h1 with h2|h2
    ·exact .inl h2
    exact .inr (.inl h2)
   rcases h.IF _ h1.2 with h2|h2|h2
   ·exact .inl h2
   ·exact .inr (.inr ⟨h1.1,by rw[←h2];exact h1.2⟩)
   exact .inr (.inl h2)
  ·exact this
  exact this
def single:Value→Bool
 | .agg _| .tuple _=>false
 |_=>true
def Obj.yB:Obj→Bool
 | .cells .. | .pending .. =>true
 |_=>false
def Obj.shapeOf:Obj→Option (TypeId×Nat)
 | .cells c t _=>some (t,c.size)
 | .pending c t=>if t≤Fj then some (t,c.size) else none
 |_=>none
def Obj.frozenAt(a:Addr):Obj→Bool
 | .cells _ _ (lo,hi)=>lo≤a.off&&a.off <hi
 |_=>false
def Obj.Rx(a:Addr)(n:Nat):Obj→Obj
 | .cells c elem (lo,hi)=> .cells c elem (if lo==hi then (a.off,a.off+n) else (min lo a.off,max hi (a.off+n)))
 |o=>o
def cu(P:Program):Sem α→St→(α→St→Prop)→(Halt→St→Prop)→Prop
 | .pure a,s,Q,_=>Q a s
 | .load m a k,s,Q,E=>m= .plain∧a.spot=none∧∃c t fz v,(s.has a.block (.cells c t fz)∨(s.has a.block (.pending c t)∧a.off≠qg∧t≤Fj))∧c[a.off]?=some v∧cu P (k v) s Q E
 | .store m a v k,s,Q,E=>m= .plain∧a.spot=none∧single v=true∧∃L c t fz R,s.rw=L++(a.block,.cells c t fz)::R∧a.off <c.size∧
  (fz.1≤a.off&&a.off <fz.2)=false∧cu P k ⟨s.ro,L++(a.block,.cells (c.setIfInBounds a.off v) t fz)::R⟩ Q E
 | .new o k,s,Q,E=>Obj.real o=true∧∀b,¬s.knows b→cu P (k b) ⟨s.ro,(b,o)::s.rw⟩ Q E
 | .shape r k,s,Q,E=>∃o,s.has r o∧cu P (k (Obj.shapeOf o)) s Q E
 | .freeze a n k,s,Q,E=>if n=0 then cu P k s Q E else
  ∃L o R,s.rw=L++(a.block,o)::R∧cu P k ⟨s.ro,L++(a.block,Obj.Rx a n o)::R⟩ Q E
 | .frozen a k,s,Q,E=>∃o,s.has a.block o∧cu P (k (Obj.frozenAt a o)) s Q E
 | .getObj r k,s,Q,E=>∃o,s.has r o∧Obj.yB o=false∧o.isChan=false∧cu P (k o) s Q E
 | .setObj r o k,s,Q,E=>o.isChan=false∧Obj.real o=true∧∃L o' R,s.rw=L++(r,o')::R∧Obj.yB o'=false∧cu P k ⟨s.ro,L++(r,o)::R⟩ Q E
 | .choose q k,s,Q,E=>if q.forced then cu P (k 0) s Q E else ∀n,cu P (k (q.cut n)) s Q E
 | .sys _ _,_,_,_=>False
 | .program k,s,Q,E=>cu P (k P) s Q E
 | .mark m k,s,Q,E=>An m=true∧cu P k s Q E
 | .halt h,s,_,E=>E h s
theorem Pb{P:Program}(x:Sem α)(f:α→Sem β)(s:St)(Q:β→St→Prop)(E:Halt→St→Prop)
 (h:cu P x s (fun a s'=>cu P (f a) s' Q E) E):cu P (x.bind f) s Q E:=by
 induction x generalizing s with
 |pure a=>exact h
 |load m a k ih=>obtain⟨h1,h2,c,t,fz,v,h3,h4,h5⟩:=h;exact⟨h1,h2,c,t,fz,v,h3,h4,ih _ _ h5⟩
 |store m a v k ih=>obtain⟨h1,h2,h3,L,c,t,fz,R,h4,h5,h6,h7⟩:=h;exact⟨h1,h2,h3,L,c,t,fz,R,h4,h5,h6,ih _ h7⟩
 |new o k ih=>exact⟨h.1,fun b hb=>ih _ _ (h.2 b hb)⟩
 |shape r k ih=>obtain⟨o,h1,h2⟩:=h;exact⟨o,h1,ih _ _ h2⟩
 |freeze a n k ih=>
  simp only[Sem.bind,cu] at h ⊢
  split
  ·rename_i hn;rw[if_pos hn] at h;exact ih _ h
  rename_i hn;rw[if_neg hn] at h;obtain⟨L,o,R,h1,h2⟩:=h;exact⟨L,o,R,h1,ih _ h2⟩
 |frozen a k ih=>obtain⟨o,h1,h2⟩:=h;exact⟨o,h1,ih _ _ h2⟩
 |getObj r k ih=>obtain⟨o,h1,h2,h3,h4⟩:=h;exact⟨o,h1,h2,h3,ih _ _ h4⟩
 |setObj r o k ih=>obtain⟨h1,h0,L,o',R,h2,h3,h4⟩:=h;exact⟨h1,h0,L,o',R,h2,h3,ih _ h4⟩
 |choose q k ih=>
  simp only[Sem.bind,cu] at h ⊢
  split
  ·rename_i hn;rw[if_pos hn] at h;exact ih _ _ h
  rename_i hn;rw[if_neg hn] at h;exact fun n=>ih _ _ (h n)
 |sys c k ih=>exact h.elim
 |program k ih=>exact ih _ _ h
 |mark m k ih=>exact⟨h.1,ih _ h.2⟩
 |halt hh=>exact h
theorem xd{P:Program}(x:Sem α)(s:St)(Q Q':α→St→Prop)(E E':Halt→St→Prop)
 (hq:∀a s,Q a s→Q' a s)(he:∀a s,E a s→E' a s)(h:cu P x s Q E):cu P x s Q' E':=by
 induction x generalizing s with
 |pure a=>exact hq _ _ h
 |load m a k ih=>obtain⟨h1,h2,c,t,fz,v,h3,h4,h5⟩:=h;exact⟨h1,h2,c,t,fz,v,h3,h4,ih _ _ h5⟩
 |store m a v k ih=>obtain⟨h1,h2,h3,L,c,t,fz,R,h4,h5,h6,h7⟩:=h;exact⟨h1,h2,h3,L,c,t,fz,R,h4,h5,h6,ih _ h7⟩
 |new o k ih=>exact⟨h.1,fun b hb=>ih _ _ (h.2 b hb)⟩
 |shape r k ih=>obtain⟨o,h1,h2⟩:=h;exact⟨o,h1,ih _ _ h2⟩
 |freeze a n k ih=>
  simp only[cu] at h ⊢
  split
  ·rename_i hn;rw[if_pos hn] at h;exact ih _ h
  rename_i hn;rw[if_neg hn] at h;obtain⟨L,o,R,h1,h2⟩:=h;exact⟨L,o,R,h1,ih _ h2⟩
 |frozen a k ih=>obtain⟨o,h1,h2⟩:=h;exact⟨o,h1,ih _ _ h2⟩
 |getObj r k ih=>obtain⟨o,h1,h2,h3,h4⟩:=h;exact⟨o,h1,h2,h3,ih _ _ h4⟩
 |setObj r o k ih=>obtain⟨h1,h0,L,o',R,h2,h3,h4⟩:=h;exact⟨h1,h0,L,o',R,h2,h3,ih _ h4⟩
 |choose q k ih=>
  simp only[cu] at h ⊢
  split
  ·rename_i hn;rw[if_pos hn] at h;exact ih _ _ h
  rename_i hn;rw[if_neg hn] at h;exact fun n=>ih _ _ (h n)
 |sys c k ih=>exact h.elim
 |program k ih=>exact ih _ _ h
 |mark m k ih=>exact⟨h.1,ih _ h.2⟩
 |halt hh=>exact he _ _ h
theorem eV{L:List (Nat×Obj)}{o:Obj}:(b,o)∈L++(b,o)::R:=by simp
theorem VK{w:World}(h:aZ s w){L:List (Nat×Obj)}{o:Obj}(hl:s.rw=L++(b,o)::R)(Fc:Obj.real o=true→Obj.real o'=true)
 (hw:∀j,w'.heap[j]?=if j=b then some o' else w.heap[j]?):aZ ⟨s.ro,L++(b,o')::R⟩ w':=by
 have fM:(b,o)∈s.rw:=by rw[hl];exact eV
 have gX:=h.nodup
 rw[hl] at gX
 simp only[List.map_append,List.map_cons] at gX
 rw[List.nodup_append] at gX
 obtain⟨nL,nR,nLR⟩:=gX
 rw[List.nodup_cons] at nR
 have an9:∀c x,(c,x)∈L∨(c,x)∈R→c≠b:=by
  rintro c x (hc|hc) rfl
  ·exact nLR c (List.mem_map.2 ⟨_,hc,rfl⟩) c (by simp) rfl
  exact nR.1 (List.mem_map.2 ⟨_,hc,rfl⟩)
 refine⟨fun c x hc=>?_,fun c x hc=>?_,fun c x hc=>?_,?_,fun c x hc=>?_⟩
 ·rw[hw]
  by_cases e:c=b
  ·subst e;rw[h.apart c o fM] at hc;cases hc
  rw[if_neg e];exact h.ro c x hc
 ·simp only[List.mem_append,List.mem_cons] at hc
  rw[hw]
  rcases hc with hc|hc|hc
  ·rw[if_neg (an9 c x (.inl hc))];exact h.rw c x (by rw[hl];simp[hc])
  ·cases hc;simp
  rw[if_neg (an9 c x (.inr hc))];exact h.rw c x (by rw[hl];simp[hc])
 ·simp only[List.mem_append,List.mem_cons] at hc
  rcases hc with hc|hc|hc
  ·exact h.real c x (by rw[hl];simp[hc])
  ·cases hc;exact Fc (h.real b o fM)
  exact h.real c x (by rw[hl];simp[hc])
 ·simp only[List.map_append,List.map_cons]
  rw[List.nodup_append]
  exact⟨nL,List.nodup_cons.2 nR,nLR⟩
 simp only[List.mem_append,List.mem_cons] at hc
 rcases hc with hc|hc|hc
 ·exact h.apart c x (by rw[hl];simp[hc])
 ·cases hc;exact h.apart b o fM
 exact h.apart c x (by rw[hl];simp[hc])
theorem adF{ro:Nat→Option Obj}{L:List (Nat×Obj)}{c:Nat}{o:Obj}(h:(⟨ro,L++(b,o')::R⟩:St).owns c):(⟨ro,L++(b,o)::R⟩:St).owns c:=by
 obtain⟨x,hx⟩:=h
 simp only[List.mem_append,List.mem_cons] at hx
 rcases hx with hx|hx|hx
 ·exact⟨x,by simp[hx]⟩
 ·cases hx;exact⟨o,by simp⟩
 exact⟨x,by simp[hx]⟩
theorem Cv{w:World}(h:aZ s w){L:List (Nat×Obj)}{o:Obj}(hl:s.rw=L++(b,o)::R)(Fc:Obj.real o=true→Obj.real o'=true)
 (hs:w'.heap.size=w.heap.size)(hw:∀j,w'.heap[j]?=if j=b then some o' else w.heap[j]?)
 (ho:w'.os=w.os) (hu:w'.output=w.output) (ht:w'.tape=w.tape) {es:Array Event} (he:∀e∈es,Fz s w.heap.size e∧∀b,blk e.loc=some b→b <w.heap.size):
 Trans s w ⟨s.ro,L++(b,o')::R⟩ w' es where
 iX:=VK h hl Fc hw
 size:=by omega
 frame:=fun c _ hn=>by
  rw[hw]
  by_cases e:c=b
  ·subst e;exact absurd ⟨o,by rw[hl];simp⟩ hn
  rw[if_neg e]
 own:=fun c hc=> .inr (by have:=adF (o:=o) hc;obtain⟨x,hx⟩:=this;exact⟨x,by rw[hl];exact hx⟩)
 IF:=fun c hc=> .inr (.inl rfl)
 os:=ho
 output:=hu
 tape:=ht
 tP:=fun e h'=>(he e h').1
 low:=fun e h' b hb=>hs▸(he e h').2 b hb
theorem YI{w:World}(h:aZ s w)(o:Obj)(Fc:Obj.real o=true):Trans s w ⟨s.ro,(w.heap.size,o)::s.rw⟩ {w with heap:=w.heap.push o} #[] where
 iX:=by
  refine⟨fun b x hb=>?_,fun b x hb=>?_,fun b x hb=>?_,?_,fun b x hb=>?_⟩
  ·have:=h.ro b x hb
   have bO:=h.lt (.inl hb)
   simpa [Array.getElem?_push,Nat.ne_of_lt bO] using this
  ·rcases List.mem_cons.1 hb with hb|hb
   ·cases hb;simp
   have:=h.rw b x hb
   have bO:=h.lt (.inr hb)
   simp[Array.getElem?_push,Nat.ne_of_lt bO,this]
  ·rcases List.mem_cons.1 hb with hb|hb
   ·cases hb;exact Fc
   exact h.real b x hb
  ·simp only[List.map_cons]
   refine List.nodup_cons.2 ⟨fun hm=>?_,h.nodup⟩
   obtain⟨⟨b,x⟩,hx,rfl⟩:=List.mem_map.1 hm
   have:=h.lt (.inr hx)
   simp at this
  rcases List.mem_cons.1 hb with hb|hb
  ·cases hb
   cases hr:s.ro w.heap.size with
   |none=>rfl
   |some y=>have:=h.lt (.inl hr);omega
  exact h.apart b x hb
 size:=by simp
 frame:=fun b hb _=>by simp[Array.getElem?_push,Nat.ne_of_lt hb]
 own:=fun b hb=>by
  obtain⟨x,hx⟩:=hb
  rcases List.mem_cons.1 hx with hx|hx
  ·cases hx;exact .inl (Nat.le_refl _)
  exact .inr ⟨x,hx⟩
 IF:=fun b hb=> .inr (.inl rfl)
 os:=rfl
 output:=rfl
 tape:=rfl
 tP:=by simp
 low:=by simp
theorem Rw{w:World}(h:aZ s w):¬s.knows w.heap.size:=by
 rintro(hk| ⟨o,hk⟩)
 ·cases hr:s.ro w.heap.size with
  |none=>exact hk hr
  |some y=>have:=h.lt (.inl hr);omega
 have:=h.lt (.inr hk);omega
theorem D9{w:World}(h:aZ s w)(n:Nat):Trans s w s {w with drawn:=n} #[] where
 iX:=⟨h.ro,h.rw,h.real,h.nodup,h.apart⟩
 size:=Nat.le_refl _
 frame:=fun _ _ _=>rfl
 own:=fun _ h=> .inr h
 IF:=fun _ _=> .inr (.inl rfl)
 os:=rfl
 output:=rfl
 tape:=rfl
 tP:=by simp
 low:=by simp
theorem Gi{w:World}(h:aZ s w){e:Event}(he:Fz s w.heap.size e)(hb:∀b,blk e.loc=some b→b <w.heap.size):Trans s w s w #[e] where
 iX:=h
 size:=Nat.le_refl _
 frame:=fun _ _ _=>rfl
 own:=fun _ h=> .inr h
 IF:=fun _ _=> .inr (.inl rfl)
 os:=rfl
 output:=rfl
 tape:=rfl
 tP:=by simpa using he
 low:=by simpa using hb
def wM(s:St)(w:World)(Q:α→St→Prop)(E:Halt→St→Prop)(es:Array Event):Result α→Prop
 | .ok a w'=>∃s',Trans s w s' w' es∧Q a s'
 | .halt h w'=>∃s',Trans s w s' w' es∧E h s'
theorem wM.after{w:World}{Q:α→St→Prop}{agY agX:Array Event}{r:Result α}
 (ht:Trans s w Pn abA agY)(h:wM Pn abA Q E agX r):wM s w Q E (agY++agX) r:=by
 cases r with
 |ok a w'=>obtain⟨s',h1,h2⟩:=h;exact⟨s',ht.trans h1,h2⟩
 |halt a w'=>obtain⟨s',h1,h2⟩:=h;exact⟨s',ht.trans h1,h2⟩
theorem World.cell_of{w:World}(h:aZ s w){a:Addr}(ha:a.spot=none){c:Array Value}{fz:Nat×Nat}(hb:s.has a.block (.cells c t fz)):
 w.cell? a=c[a.off]?:=by
 simp[World.cell?,h.has hb rfl,ha]
theorem World.aaN{w:World}(h:aZ s w){a:Addr}(ha:a.spot=none){c:Array Value}(hb:s.has a.block (.pending c t))(r5:a.off≠qg)(ht:t≤Fj)(hv:c[a.off]?=some v):
 w.cell? a=some v:=by
 rcases h.My hb with h1| ⟨_,c',_,e,h1,_,h2,_⟩| ⟨_,_,e,_⟩
 ·cases h1.2
 ·cases e
  simp[World.cell?,h1,ha,h2 _ r5,hv]
 exact absurd (Obj.pending.inj e).2 (Ug ht)
theorem gC{P:Program}(x:Sem α)(s:St)(Q:α→St→Prop)(E:Halt→St→Prop)(w:World)(es:Array Event)
 (h:cu P x s Q E)(ha:aZ s w):∃r eE,x.runT P w es=(r,es++eE)∧wM s w Q E eE r:=by
 induction x generalizing s w es with
 |pure a=>exact⟨.ok a w,#[],by simp only[Sem.runT,Array.append_empty],s,Trans.refl ha,h⟩
 |load m a k ih=>
  obtain⟨rfl,OH,c,t,fz,v,hb,hv,hk⟩:=h
  have hc:w.cell? a=some v:=by
   rcases hb with hb| ⟨hb,r5,htt⟩
   ·rw[World.cell_of ha OH hb,hv]
   exact World.aaN ha OH hb r5 htt hv
  have bO:a.block <w.heap.size:=by
   rcases hb with hb| ⟨hb,_⟩
   ·exact ha.lt hb
   exact ha.lt hb
  obtain⟨r,e',hr,hl⟩:=ih v s w (es.push ⟨.cell a,false,false⟩) hk ha
  refine⟨r,#[⟨.cell a,false,false⟩]++e',?_,wM.after (Gi ha ?_ (fun b h'=>by cases h';exact bO)) hl⟩
  ·simp only[Sem.runT,hc]
   rw[show (Mode.plain==Mode.atomic)=false from rfl,hr,←Array.append_singleton,Array.append_assoc]
  refine⟨rfl,?_⟩
  rcases hb with (hb|hb)| ⟨hb|hb,r5,_⟩
  ·exact .inr (.inr ⟨rfl,by rw[hb];simp,fun c t e=>by rw[hb] at e;cases e⟩)
  ·exact .inr (.inl ⟨_,hb⟩)
  rotate_left
  ·have:=ha.real _ _ hb;cases this
  exact .inr (.inr ⟨rfl,by rw[hb];simp,fun _ _ _=>r5⟩)
 |store m a v k ih=>
  obtain⟨rfl,OH,ho,L,c,t,fz,R,hl,bO,zt,hk⟩:=h
  have hb:s.has a.block (.cells c t fz):= .inr (by rw[hl];exact eV)
  have hc:w.cell? a=some c[a.off]:=by rw[World.cell_of ha OH hb];simp[bO]
  have hh:=ha.has hb rfl
  have amc:=ha.lt hb
  have UX:w.frozen? a=false:=by simp only[World.frozen?,hh];exact zt
  have ht:Trans s w ⟨s.ro,L++(a.block,.cells (c.setIfInBounds a.off v) t fz)::R⟩ (w.setCell a v) #[⟨.cell a,true,false⟩]:=by
   refine Cv (w':=w.setCell a v) ha hl (fun _=>rfl) (by simp[World.setCell]) (fun j=>?_) rfl rfl rfl ?_
   ·simp only[World.setCell,Array.getElem?_modify]
    by_cases e:a.block=j
    ·subst e;simp[hh,OH]
    simp[e,Ne.symm e]
   simp only[List.mem_toArray,List.mem_singleton,forall_eq]
   exact⟨⟨rfl,.inr (.inl ⟨_,hb.resolve_left (by rw[ha.apart _ _ (show (a.block,_)∈s.rw by rw[hl];exact eV)];simp)⟩)⟩,fun b h'=>by cases h';exact amc⟩
  obtain⟨r,e',hr,Dl⟩:=ih _ (w.setCell a v) (es.push ⟨.cell a,true,false⟩) hk ht.iX
  refine⟨r,#[⟨.cell a,true,false⟩]++e',?_,wM.after ht Dl⟩
  cases v<;>simp only[single,Bool.false_eq_true] at ho<;>
   (simp only[Sem.runT,hc,UX]
    rw[show (Mode.plain==Mode.atomic)=false from rfl]
    simp only[Bool.false_eq_true,if_false]
    rw[hr,←Array.append_singleton,Array.append_assoc])
 |new o k ih=>
  have ht:=YI ha o h.1
  obtain⟨r,e',hr,hl⟩:=ih _ _ {w with heap:=w.heap.push o} es (h.2 w.heap.size (Rw ha)) ht.iX
  exact⟨r,#[]++e',by simp only[Sem.runT];rw[hr,Array.empty_append],wM.after ht hl⟩
 |shape r k ih=>
  obtain⟨o,hb,hk⟩:=h
  have hs:w.shape? r=Obj.shapeOf o:=by
   rcases ha.My hb with ⟨h1,h2⟩| ⟨c,c',t,rfl,h1,h2,_,h3⟩| ⟨c,t,rfl,h1⟩
   ·simp only[World.shape?,h1];cases o<;>first|rfl|cases h2
   ·simp only[World.shape?,h1,Obj.shapeOf,h2,if_pos h3]
   simp only[World.shape?,h1,Obj.shapeOf];rw[if_neg fun hl=>Ug hl rfl]
  obtain⟨r',e',hr,hl⟩:=ih _ s w es hk ha
  exact⟨r',e',by simp only[Sem.runT,hs];exact hr,hl⟩
 |freeze a n k ih=>
  simp only[cu] at h
  by_cases hn:n=0
  ·rw[if_pos hn] at h
   obtain⟨r',e',hr,hl⟩:=ih s w es h ha
   exact⟨r',e',by simp only[Sem.runT,World.freeze,hn,if_true];exact hr,hl⟩
  rw[if_neg hn] at h
  obtain⟨L,o,R,hl,hk⟩:=h
  have hb:s.has a.block o:= .inr (by rw[hl];exact eV)
  have hh:=ha.has hb (ha.real _ _ (by rw[hl];exact eV))
  have ht:Trans s w ⟨s.ro,L++(a.block,Obj.Rx a n o)::R⟩ (w.freeze a n) #[]:=by
   refine Cv (w':=w.freeze a n) ha hl (by cases o<;>exact id) (by simp[World.freeze,hn]) (fun j=>?_) (by simp[World.freeze,hn]) (by simp[World.freeze,hn]) (by simp[World.freeze,hn]) (by simp)
   simp only[World.freeze,hn,if_false,Array.getElem?_modify]
   by_cases e:a.block=j
   ·subst e;simp only[hh,if_true,Option.map_some];cases o<;>rfl
   simp[e,Ne.symm e]
  obtain⟨r',e',hr,Dl⟩:=ih _ (w.freeze a n) es hk ht.iX
  exact⟨r',#[]++e',by simp only[Sem.runT];rw[hr,Array.empty_append],wM.after ht Dl⟩
 |frozen a k ih=>
  obtain⟨o,hb,hk⟩:=h
  have hs:w.frozen? a=Obj.frozenAt a o:=by
   rcases ha.My hb with ⟨h1,h2⟩| ⟨c,c',t,rfl,h1,h2,_⟩| ⟨c,t,rfl,h1⟩
   ·simp only[World.frozen?,h1];cases o<;>first|rfl|cases h2
   ·simp[World.frozen?,h1,Obj.frozenAt]
   simp[World.frozen?,h1,Obj.frozenAt]
  obtain⟨r',e',hr,hl⟩:=ih _ s w es hk ha
  exact⟨r',e',by simp only[Sem.runT,hs];exact hr,hl⟩
 |getObj r k ih=>
  obtain⟨o,hb,Jr,FT,hk⟩:=h
  have hh:=ha.has hb (by cases o<;>first|rfl|cases Jr)
  obtain⟨r',e',hr,hl⟩:=ih o s w (es.push ⟨.obj r,false,false⟩) hk ha
  refine⟨r',#[⟨.obj r,false,false⟩]++e',?_,wM.after (Gi ha ?_ (fun b h'=>by cases h';exact ha.lt hb)) hl⟩
  ·cases o<;>simp only[Obj.yB,Obj.isChan,Bool.true_eq_false] at Jr FT<;>
    (simp only[Sem.runT,hh,Obj.isChan];rw[hr,←Array.append_singleton,Array.append_assoc])
  refine⟨rfl,?_⟩
  rcases hb with hb|hb
  ·exact .inr (.inr ⟨rfl,by rw[hb];simp⟩)
  exact .inr (.inl ⟨_,hb⟩)
 |setObj r o k ih=>
  obtain⟨FT,Fc,L,o',R,hl,Jr,hk⟩:=h
  have hb:s.has r o':= .inr (by rw[hl];exact eV)
  have hh:=ha.has hb (ha.real _ _ (by rw[hl];exact eV))
  have amc:=ha.lt hb
  have ht:Trans s w ⟨s.ro,L++(r,o)::R⟩ {w with heap:=w.heap.setIfInBounds r o} #[⟨.obj r,true,false⟩]:=by
   refine Cv (w':={w with heap:=w.heap.setIfInBounds r o}) ha hl (fun _=>Fc) (by simp) (fun j=>?_) rfl rfl rfl ?_
   ·simp only[Array.getElem?_setIfInBounds]
    by_cases e:r=j
    ·subst e;simp[amc]
    simp[e,Ne.symm e]
   simp only[List.mem_toArray,List.mem_singleton,forall_eq]
   exact⟨⟨rfl,.inr (.inl ⟨o',by rw[hl];exact eV⟩)⟩,fun b h'=>by cases h';exact amc⟩
  obtain⟨r',e',hr,Dl⟩:=ih _ _ (es.push ⟨.obj r,true,false⟩) hk ht.iX
  refine⟨r',#[⟨.obj r,true,false⟩]++e',?_,wM.after ht Dl⟩
  cases o'<;>simp only[Obj.yB,Bool.true_eq_false] at Jr<;>
   (simp only[Sem.runT,hh,FT];rw[hr,←Array.append_singleton,Array.append_assoc])
 |choose q k ih=>
  simp only[cu] at h
  by_cases hq:q.forced
  ·rw[if_pos hq] at h
   obtain⟨r',e',hr,hl⟩:=ih 0 s w es h ha
   exact⟨r',e',by simp only[Sem.runT,hq,if_true];exact hr,hl⟩
  rw[if_neg hq] at h
  have ht:=D9 ha (w.drawn+1)
  obtain⟨r',e',hr,hl⟩:=ih _ s {w with drawn:=w.drawn+1} es (h (w.tape w.drawn q)) ht.iX
  exact⟨r',#[]++e',by simp only[Sem.runT,hq,Bool.false_eq_true,if_false];rw[hr,Array.empty_append],wM.after ht hl⟩
 |sys c k ih=>exact h.elim
 |program k ih=>
  obtain⟨r',e',hr,hl⟩:=ih P s w es h ha
  exact⟨r',e',by simp only[Sem.runT];exact hr,hl⟩
 |mark m k ih=>
  obtain⟨r',e',hr,hl⟩:=ih s w (es.push ⟨.mark m,false,true⟩) h.2 ha
  refine⟨r',#[⟨.mark m,false,true⟩]++e',?_,wM.after (Gi ha ?_ (fun b h'=>by cases h')) hl⟩
  ·simp only[Sem.runT];rw[hr,←Array.append_singleton,Array.append_assoc]
  exact h.1
 |halt hh=>exact⟨.halt hh w,#[],by simp only[Sem.runT,Array.append_empty],s,Trans.refl ha,h⟩
open Go.Conc
def St.le(s s':St):Prop:=∃R,s'.rw.Perm (s.rw++R)∧∀b o,s.ro b=some o→s'.ro b=some o∨(b,o)∈R
theorem St.le_refl(s:St):s.le s:=⟨[],by simp,fun _ _ h=> .inl h⟩
theorem aZ.of_le{w:World}(hl:s.le s')(h:aZ s' w):aZ s w:=by
 obtain⟨R,hR,h1⟩:=hl
 have hm:∀x,x∈s.rw→x∈s'.rw:=fun x hx=>hR.mem_iff.2 (by simp[hx])
 have KO:∀x,x∈R→x∈s'.rw:=fun x hx=>hR.mem_iff.2 (by simp[hx])
 have gX:=(hR.map (·.1)).nodup_iff.1 h.nodup
 rw[List.map_append,List.nodup_append] at gX
 refine⟨fun b o hb=>(h1 b o hb).elim (h.ro b o) (fun hx=> .inl ⟨h.rw b o (KO _ hx),h.real b o (KO _ hx)⟩),fun b o hb=>h.rw b o (hm _ hb),fun b o hb=>h.real b o (hm _ hb),gX.1,fun b o hb=>?_⟩
 have:=h.apart b o (hm _ hb)
 cases hr:s.ro b with
 |none=>rfl
 |some y=>
  rcases h1 b y hr with h3|h3
  ·rw[h3] at this;cases this
  exact absurd rfl (gX.2.2 b (List.mem_map.2 ⟨_,hb,rfl⟩) b (List.mem_map.2 ⟨_,h3,rfl⟩))
structure Closed(P:Program)(main:Bool)(T:Goroutine→St→Prop):Prop where
 step:∀g s,g.status= .running→(∀w,aZ s w→∃g' w' es s',stepG P main g w= .go g' w' es∧g'.status= .running∧Trans s w s' w' es∧T g' s')→T g s
 mono:∀g s s',s.le s'→T g s→T g s'
theorem Closed.go{P:Program}(C:Closed P main T){g g':Goroutine}(hs:g.status= .running)(kR:g'.status= .running)
 (h:∀w,stepG P main g w= .go g' w #[])(ht:T g' s):T g s:=
 C.step g s hs fun w hw=>⟨g',w,#[],s,h w,kR,Trans.refl hw,ht⟩
abbrev Class:=Bool→(Goroutine→St→Prop)→Prop
abbrev Post:=Exit→Act→St→Prop
def aW(b:Frame)(a:Act)(todo:List Item):Frame:={fn:=b.fn,tmps:=a.tmps,todo,defers:=a.defers,mode:= .run,kind:=b.kind,roundOf:=b.roundOf}
def After(T:Goroutine→St→Prop)(b:Frame)(k:List Item)(cs:List Frame):Post
 | .normal,a,s=>T (G (aW b a k) cs) s
 | .exit id,a,s=>match exitTo id k with
  |some k'=>T (G (aW b a k') cs) s
  |none=>∀todo,exitTo id todo=none→T (G (aW b a (.code (.exit id)::todo)) cs) s
 | .ret,a,s=>∀todo,T (G (aW b a (.code .ret::todo)) cs) s
 | .panic ch,a,s=>∀todo,T (G {aW b a todo with mode:= .panicking ch} cs) s
 |_,_,_=>False
def Wp(C:Class)(fn:FuncId)(aF:Option Nat)(c:Code)(Q:Post)(a:Act)(s:St):Prop:=
 ∀main T,C main T→∀(b:Frame) (k:List Item) (cs:List Frame),b.fn=fn→b.kind≠ .early→b.roundOf=aF→
  (∀e a' s',Q e a' s'→After T b k cs e a' s')→T (G (aW b a (.code c::k)) cs) s
def ak(C:Class)(fn:FuncId)(aF:Option Nat)(ops:Array Oper)(todo:List Nat)(Q:Post)(a:Act)(s:St):Prop:=
 ∀main T,C main T→∀(b:Frame) (k:List Item) (cs:List Frame),b.fn=fn→b.kind≠ .early→b.roundOf=aF→
  (∀e a' s',Q e a' s'→After T b k cs e a' s')→T (G (aW b a (.inRegion ops todo::k)) cs) s
def Fn(C:Class)(P:Program)(f:FuncId)(args:Array Value)(s:St)(R:Ending→St→Prop):Prop:=
 ∀main T,C main T→∀(c:Frame) (cs:List Frame),(∀v s',R (.returned v) s'→T (G (c.finish v) cs) s')→(∀ch s',R (.panicked ch) s'→T (G (c.raise ch) cs) s')→
  T (G (Frame.enter P f args .normal) (c::cs)) s
def Round(C:Class)(l:Nat)(f:FuncId)(tmps:Array Value)(assign body:Code)(s:St)(R:Ending→St→Prop):Prop:=
 ∀main T,C main T→∀(c:Frame) (cs:List Frame),(∀v s',R (.returned v) s'→T (G (c.finish v) cs) s')→(∀ch s',R (.panicked ch) s'→T (G (c.raise ch) cs) s')→
  T (G (Frame.round l f tmps assign body .normal) (c::cs)) s
section rules
variable {P:Program} {C:Class} {fn:FuncId} {aF:Option Nat} {Q:Post} {a:Act} {s:St}
theorem Fn.mono{f:FuncId}{R R':Ending→St→Prop}(h:Fn C P f args s R)(hr:∀e s,R e s→R' e s):Fn C P f args s R':=
 fun main T hT c cs h1 h2=>h main T hT c cs (fun v s' hv=>h1 v s' (hr _ _ hv)) fun ch s' hv=>h2 ch s' (hr _ _ hv)
theorem Fn.weaken{C':Class}(hc:∀main T,C' main T→C main T){f:FuncId}{R:Ending→St→Prop}(h:Fn C P f args s R):Fn C' P f args s R:=
 fun main T hT=>h main T (hc _ _ hT)
theorem Wp.more(hC:∀main T,C main T→Closed P main T){c:Code}(hl:s.le s')(h:Wp C fn aF c Q a s):Wp C fn aF c Q a s':=
 fun main T hT b k cs h1 h2 h3 h4=>(hC _ _ hT).mono _ _ _ hl (h main T hT b k cs h1 h2 h3 h4)
theorem wp_skip(hC:∀main T,C main T→Closed P main T)(h:Q .normal a s):Wp C fn aF .skip Q a s:=
 fun main T hT b k cs _ _ _ h4=>(hC main T hT).go rfl rfl (g':=G (aW b a k) cs) (fun w=>by simp[G,stepG,stepG.exec,aW]) (h4 _ _ _ h)
theorem After.push{b:Frame}{x:Item}{k:List Item}{e:Exit}(hx:x.plain=true)(he:e≠ .normal)
 (h:After T b k cs e a s):After T b (x::k) cs e a s:=by
 cases e with
 |normal=>exact absurd rfl he
 |exit id=>
  have hh:exitTo id (x::k)=exitTo id k:=by cases x<;>simp_all[exitTo,Item.plain]
  simp only[After,hh] at h ⊢;exact h
 |ret=>exact h
 |panic ch=>exact h
 |goto l=>exact h
 |outgrown=>exact h
def nj(K:Act→St→Prop)(Q:Post):Post
 | .normal,a,s=>K a s
 |e,a,s=>Q e a s
theorem wp_seq(hC:∀main T,C main T→Closed P main T){x y:Code}(h:Wp C fn aF x (nj (fun a' s'=>Wp C fn aF y Q a' s') Q) a s):Wp C fn aF (.seq x y) Q a s:=by
 intro main T hT b k cs h1 h2 h3 h4
 refine(hC main T hT).go rfl rfl (g':=G (aW b a (.code x:: .code y::k)) cs) (fun w=>by simp[G,stepG,stepG.exec,aW]) ?_
 refine h main T hT b (.code y::k) cs h1 h2 h3 fun e a' s' q=>?_
 cases e with
 |normal=>exact q main T hT b k cs h1 h2 h3 h4
 |exit id=>exact(h4 _ _ _ q).push rfl (by simp)
 |ret=>exact(h4 _ _ _ q).push (x:= .code y) rfl (by simp)
 |panic ch=>exact(h4 _ _ _ q).push (x:= .code y) rfl (by simp)
 |goto l=>exact(h4 _ _ _ q).elim
 |outgrown=>exact(h4 _ _ _ q).elim
theorem HN(b:Frame)(a:Act)(todo:List Item)(x:Operand):(aW b a todo).eval x=a.eval x:=by cases x<;>rfl
theorem oQ(b:Frame)(a:Act)(todo:List Item):(aW b a todo).eval=a.eval:=funext (HN b a todo)
theorem wp_cond(hC:∀main T,C main T→Closed P main T){c:Operand}{x y:Code}{t:Bool}(hc:a.eval c= .bool t)(h:Wp C fn aF (if t then x else y) Q a s):Wp C fn aF (.cond c x y) Q a s:=by
 intro main T hT b k cs h1 h2 h3 h4
 refine(hC main T hT).go rfl rfl (g':=G (aW b a (.code (if t then x else y)::k)) cs) (fun w=>?_) (h main T hT b k cs h1 h2 h3 h4)
 have h':(aW b a (.code (.cond c x y)::k)).eval c= .bool t:=by rw[HN];exact hc
 simp only[aW] at h'
 simp[G,stepG,stepG.exec,aW,h']
theorem wp_cond_split(hC:∀main T,C main T→Closed P main T){c:Operand}{x y:Code}{t:Bool}(hc:a.eval c= .bool t)(h1:t=true→Wp C fn aF x Q a s)(h2:t=false→Wp C fn aF y Q a s):
 Wp C fn aF (.cond c x y) Q a s:=by
 cases t
 ·exact wp_cond hC hc (h2 rfl)
 exact wp_cond hC hc (h1 rfl)
def rH(id:Nat)(Q:Post):Post
 | .exit SG,a,s=>if SG=id then Q .normal a s else Q (.exit SG) a s
 |e,a,s=>Q e a s
theorem wp_block(hC:∀main T,C main T→Closed P main T){c:Code}(h:Wp C fn aF c (rH id Q) a s):Wp C fn aF (.block id c) Q a s:=by
 intro main T hT b k cs h1 h2 h3 h4
 refine(hC main T hT).go rfl rfl (g':=G (aW b a (.code c:: .inBlock id::k)) cs) (fun w=>by simp[G,stepG,stepG.exec,aW]) ?_
 refine h main T hT b (.inBlock id::k) cs h1 h2 h3 fun e a' s' q=>?_
 cases e with
 |normal=>exact(hC main T hT).go rfl rfl (g':=G (aW b a' k) cs) (fun w=>by simp[G,stepG,stepG.exec,aW]) (h4 _ _ _ q)
 |exit SG=>
  by_cases zr:SG=id
  ·simp only[rH,zr,if_true] at q
   have:=h4 _ _ _ q
   simp only[After,exitTo,zr,beq_self_eq_true,if_true]
   exact this
  simp only[rH,zr,if_false] at q
  have:=h4 _ _ _ q
  have cF:(id==SG)=false:=by simp;exact fun h=>zr h.symm
  simp only[After,exitTo,cF,Bool.false_eq_true,if_false] at this ⊢
  exact this
 |ret=>exact h4 _ _ _ q
 |panic ch=>exact h4 _ _ _ q
 |goto l=>exact(h4 _ _ _ q).elim
 |outgrown=>exact(h4 _ _ _ q).elim
theorem wp_exit(hC:∀main T,C main T→Closed P main T)(h:Q (.exit id) a s):Wp C fn aF (.exit id) Q a s:=by
 intro main T hT b k cs h1 h2 h3 h4
 have h':=h4 _ _ _ h
 simp only[After] at h'
 cases hk:exitTo id k with
 |some k'=>
  rw[hk] at h'
  exact(hC main T hT).go rfl rfl (g':=G (aW b a k') cs) (fun w=>by simp[G,stepG,stepG.exec,aW,hk]) h'
 |none=>rw[hk] at h';exact h' k hk
theorem wp_ret{fn:FuncId}(h:Q .ret a s):Wp C fn aF .ret Q a s:=fun _ _ _ _ _ _ _ _ _ h4=>h4 _ _ _ h _
theorem wp_region(hC:∀main T,C main T→Closed P main T){ops:Array Oper}(h:ak C fn aF ops (List.range ops.size) Q a s):Wp C fn aF (.region id ops false) Q a s:=
 fun main T hT b k cs h1 h2 h3 h4=>(hC main T hT).go rfl rfl (g':=G (aW b a (.inRegion ops (List.range ops.size)::k)) cs) (fun w=>by simp[G,stepG,stepG.exec,aW]) (h main T hT b k cs h1 h2 h3 h4)
theorem wp_region_draw(hC:∀main T,C main T→Closed P main T){ops:Array Oper}(h:∀t,ak C fn aF ops (Region.schedule (P.follows .mixedOrders) ops t) Q a s):Wp C fn aF (.region id ops true) Q a s:=by
 intro main T hT b k cs h1 h2 h3 h4
 refine(hC main T hT).step _ _ rfl fun w hw=>?_
 refine⟨G (aW b a (.inRegion ops (Region.schedule (P.follows .mixedOrders) ops (w.tape w.drawn (.order b.fn id)))::k)) cs,{w with drawn:=w.drawn+1},#[],s,?_,rfl,D9 hw _,h _ main T hT b k cs h1 h2 h3 h4⟩
 simp[G,stepG,stepG.exec,aW,choose,Sem.run,Question.forced,Question.cut]
theorem vt(hC:∀main T,C main T→Closed P main T){ops:Array Oper}(h:Q .normal a s):ak C fn aF ops [] Q a s:=
 fun main T hT b k cs _ _ _ h4=>(hC main T hT).go rfl rfl (g':=G (aW b a k) cs) (fun w=>by simp[G,stepG,stepG.exec,aW]) (h4 _ _ _ h)
theorem iO(b:Frame)(a:Act)(ops:Array Oper)(i:Nat)(rest:List Nat)(k:List Item)(v:Value):
 (aW b a (.inRegion ops (i::rest)::k)).finish v=aW b (a.put ((ops[i]?).bind (·.dst)) v) (.inRegion ops rest::k):=by
 cases h:(ops[i]?).bind (·.dst)<;>simp[Frame.finish,aW,Act.put,h]
theorem vq(hC:∀main T,C main T→Closed P main T){ops:Array Oper}{rest:List Nat}{o:Oper}(ho:ops[i]?=some o) (hw:Region.wanted o (yielded ops a.tmps)=false)
 (h:ak C fn aF ops rest Q (a.put o.dst undef) s):ak C fn aF ops (i::rest) Q a s:=by
 intro main T hT b k cs h1 h2 h3 h4
 refine(hC main T hT).go rfl rfl (g':=G (aW b (a.put o.dst undef) (.inRegion ops rest::k)) cs) (fun w=>?_) (h main T hT b k cs h1 h2 h3 h4)
 have:=iO b a ops i rest k undef
 rw[ho] at this
 simp only[Option.bind_some] at this
 rw[←this]
 simp[G,stepG,stepG.exec,aW,ho,hw]
def ark(dst:Option Tmp)(a:Act)(K:Act→St→Prop)(Q:Post):Ending→St→Prop
 | .returned v,s=>K (a.put dst v) s
 | .panicked ch,s=>Q (.panic ch) a s
 | .outgrown,_=>False
def upon(C:Class)(P:Program)(aF:Option Nat)(dst:Option Tmp)(a:Act)(K:Act→St→Prop)(Q:Post):Next→St→Prop
 | .value v,s=>K (a.put dst v) s
 | .skip,s=>K (a.put dst undef) s
 | .enter f args,s=>Fn C P f args s (ark dst a K Q)
 | .round l f tmps assign body,s=>Round C l f tmps assign body s (ark dst a K Q)
 | .defer d,s=>aF=none∧K ({a with defers:=d::a.defers}.put dst undef) s
 |_,_=>False
def MQ(a:Act)(Q:Post):Halt→St→Prop
 | .panic v,s=>Q (.panic [{v,recovered:=false}]) a s
 |_,_=>False
theorem aaw(g:Bool×Array Event→Event→Bool×Array Event)(hg:∀x y,(g x y).2=x.2∨(g x y).2=x.2.push y):
 ∀(l:List Event) (x:Bool×Array Event),∀e∈(l.foldl g x).2,e∈x.2∨e∈l:=by
 intro l
 induction l with
 |nil=>intro x e he;exact .inl he
 |cons y l ih=>
  intro x e he
  simp only[List.foldl_cons] at he
  rcases ih _ e he with h|h
  ·rcases hg x y with h'|h'
   ·rw[h'] at h;exact .inl h
   rw[h'] at h
   rcases Array.mem_push.1 h with h|h
   ·exact .inl h
   exact .inr (by simp[h])
  exact .inr (List.mem_cons_of_mem _ h)
theorem iz(P:Program)(f:FuncId)(es:Array Event):∀e∈seen P f es,e∈es:=by
 intro e he
 unfold seen at he
 simp only at he
 rw[←Array.foldl_toList] at he
 rcases aaw _ (fun x y=>by
  rcases x with ⟨q,kept⟩
  dsimp only
  split
  ·exact .inl rfl
  dsimp only
  split
  ·exact .inl rfl
  exact .inr rfl) es.toList _ e he with h|h
 ·simp at h
 exact Array.mem_toList_iff.1 h
theorem Trans.sub{w:World}{es eE:Array Event}(h:Trans s w s' w' es)(hs:∀e∈eE,e∈es):Trans s w s' w' eE:=
 ⟨h.iX,h.size,h.frame,h.own,h.IF,h.os,h.output,h.tape,fun e he=>h.tP e (hs e he),fun e he=>h.low e (hs e he)⟩
theorem MO(hC:∀main T,C main T→Closed P main T){ops:Array Oper}{rest:List Nat}{o:Oper}(ho:ops[i]?=some o) (hw:Region.wanted o (yielded ops a.tmps)=true)
 (hd:aF=none∨∀c,o.op≠ .defer c)
 (h:cu P (execOp a.eval o) s (upon C P aF o.dst a (fun a' s'=>ak C fn aF ops rest Q a' s') Q) (MQ a Q)):ak C fn aF ops (i::rest) Q a s:=by
 intro main T hT b k cs h1 h2 h3 h4
 have fN:=hC main T hT
 have lY:∀(a:Act) v,(aW b a (.inRegion ops (i::rest)::k)).finish v=aW b (a.put o.dst v) (.inRegion ops rest::k):=by
  intro a v;rw[iO,ho];rfl
 have hk:(b.kind==CallKind.early)=false:=by simpa using h2
 have gz:∀w,stepG P main (G (aW b a (.inRegion ops (i::rest)::k)) cs) w=stepG.apply P true (aW b a (.inRegion ops (i::rest)::k)) cs none (execOp a.eval o) w:=by
  intro w
  have he:=oQ b a (.inRegion ops (i::rest)::k)
  simp only[aW] at he
  simp only[G,stepG,stepG.exec,aW,ho,Option.map_some,Option.getD_some,hw,if_true,stepG.oper,Frame.oper?,he]
  rcases hd with hd|hd
  ·rw[h3,hd]
  split
  ·rename_i hx hy;exact absurd hy (hd _)
  rfl
 refine fN.step _ _ rfl fun w rU=>?_
 obtain⟨r,es,hr,hl⟩:=gC _ _ _ _ w #[] h rU
 rw[Array.empty_append] at hr
 have nE:=gz w
 simp only[stepG.apply,if_true,hr] at nE
 simp only[aW,hk,Bool.false_eq_true,if_false] at nE
 have ib:=iz P b.fn es
 cases r with
 |ok nx w'=>
  obtain⟨s',ht,hu⟩:=hl
  have ht':=ht.sub ib
  cases nx with
  |value v=>
   simp only[GStep.after,Array.append_empty] at nE
   refine⟨_,_,_,s',nE,rfl,ht',?_⟩
   have:=hu main T hT b k cs h1 h2 h3 h4
   rw[←lY] at this;exact this
  |skip=>
   simp only[GStep.after,Array.append_empty] at nE
   refine⟨_,_,_,s',nE,rfl,ht',?_⟩
   have:=hu main T hT b k cs h1 h2 h3 h4
   rw[←lY] at this;exact this
  |enter f args=>
   simp only[GStep.after,Array.append_empty] at nE
   refine⟨_,_,_,s',nE,rfl,ht',?_⟩
   refine hu main T hT (aW b a (.inRegion ops (i::rest)::k)) cs (fun v s'' hv=>?_) (fun ch s'' hv=>?_)
   ·rw[lY];exact hv main T hT b k cs h1 h2 h3 h4
   exact h4 _ _ _ hv _
  |round l f tmps assign body=>
   simp only[GStep.after,Array.append_empty] at nE
   refine⟨_,_,_,s',nE,rfl,ht',?_⟩
   refine hu main T hT (aW b a (.inRegion ops (i::rest)::k)) cs (fun v s'' hv=>?_) (fun ch s'' hv=>?_)
   ·rw[lY];exact hv main T hT b k cs h1 h2 h3 h4
   exact h4 _ _ _ hv _
  |defer d=>
   simp only[GStep.after,Array.append_empty] at nE
   refine⟨_,_,_,s',nE,rfl,ht',?_⟩
   have:=hu.2 main T hT b k cs h1 h2 h3 h4
   rw[←lY] at this
   exact this
  |_=>exact hu.elim
 |halt hh w'=>
  obtain⟨s',ht,hu⟩:=hl
  have ht':=ht.sub ib
  cases hh with
  |panic v=>
   simp only[GStep.after,Array.append_empty] at nE
   refine⟨_,_,_,s',nE,rfl,ht',?_⟩
   have hp:MQ a Q (.panic v) s':=hu
   exact h4 _ _ _ hp _
  |_=>exact absurd hu id
def sW(P:Program)(fn:Func)(R:Ending→St→Prop):Post
 | .normal,a,s| .ret,a,s=>a.defers=[]∧cu P (results fn a.tmps) s (fun v s'=>∃s0,s0.le s'∧R (.returned v) s0) (fun _ _=>False)
 | .panic ch,a,s=>a.defers=[]∧R (.panicked ch) s
 |_,_,_=>False
theorem qZ(hC:∀main T,C main T→Closed P main T){main:Bool}{T:Goroutine→St→Prop}(hT:C main T){f:FuncId}{fn:Func}(hf:P.funcs[f]?=some fn) {fr c:Frame} {cs:List Frame}
 (h1:fr.fn=f) (h2:fr.kind= .normal) (h3:fr.mode= .returning) (h4:fr.defers=[]) {R:Ending→St→Prop} {s:St}
 (hr:cu P (results fn fr.tmps) s (fun v s'=>∃s0,s0.le s'∧R (.returned v) s0) (fun _ _=>False)) (hk:∀v s',R (.returned v) s'→T (G (c.finish v) cs) s'):T (G fr (c::cs)) s:=by
 refine(hC main T hT).step _ _ rfl fun w rU=>?_
 obtain⟨r,es,bx,hl⟩:=gC _ _ _ _ w #[] hr rU
 clear hr
 rw[Array.empty_append] at bx
 cases r with
 |ok v w'=>
  obtain⟨s',ht,hu⟩:=hl
  refine⟨G (c.finish v) cs,w',seen P fr.fn es,s',?_,rfl,ht.sub (iz _ _ _),by obtain⟨s0,hl0,p6⟩:=hu;exact(hC main T hT).mono _ _ _ hl0 (hk _ _ p6)⟩
  rcases fr with ⟨fn',tmps,todo,defers,mode,kind,ro⟩
  simp only at h1 h2 h3 h4 bx ⊢
  subst h1 h2 h3 h4
  simp only[G,stepG,unwind,hf,bx,doReturn,GStep.after,Array.append_empty]
 |halt _ _=>obtain⟨_,_,hu⟩:=hl;exact hu.elim
theorem RA(hC:∀main T,C main T→Closed P main T){f:FuncId}{fn:Func}{c:Code}{args:Array Value}{R:Ending→St→Prop}
 (hf:P.funcs[f]?=some fn) (hb:fn.body=some c) (h:Wp C f none c (sW P fn R) ⟨args++Array.replicate (fn.ntmps-args.size) undef,[]⟩ s):Fn C P f args s R:=by
 intro main T hT cl cs k1 k2
 let b:Frame:={(default:Frame) with fn:=f,kind:= .normal,roundOf:=none}
 have j8:Frame.enter P f args .normal=aW b ⟨args++Array.replicate (fn.ntmps-args.size) undef,[]⟩ [.code c]:=by
  simp[Frame.enter,aW,hf,hb,b]
 rw[j8]
 refine h main T hT b [] (cl::cs) rfl (by simp[b]) rfl fun e a' s' q=>?_
 have tK:∀(todo:List Item),a'.defers=[]→cu P (results fn a'.tmps) s' (fun v s'=>∃s0,s0.le s'∧R (.returned v) s0) (fun _ _=>False)→T (G {aW b a' todo with mode:= .returning} (cl::cs)) s':=
  fun todo hd hr=>qZ hC hT hf rfl rfl rfl hd hr k1
 cases e with
 |normal=>
  exact(hC main T hT).go rfl rfl (g':=G {aW b a' [] with mode:= .returning} (cl::cs)) (fun w=>by simp[G,stepG,stepG.exec,aW,b]) (tK _ q.1 q.2)
 |ret=>
  exact fun todo=>(hC main T hT).go rfl rfl (g':=G {aW b a' (.code .ret::todo) with mode:= .returning} (cl::cs)) (fun w=>by simp[G,stepG,stepG.exec,aW,b]) (tK _ q.1 q.2)
 |panic ch=>
  intro todo
  refine(hC main T hT).go rfl rfl (g':=G (cl.raise ch) cs) (fun w=>?_) (k2 _ _ q.2)
  have Jr:∀fr:Frame,fr.fn=f→fr.catches P=false:=by
   intro fr UX;simp[Frame.catches,UX,hf]
  have:=Jr {aW b a' todo with mode:= .panicking ch} rfl
  simp only[aW,q.1] at this
  simp[G,stepG,unwind,aW,b,q.1,this]
 |exit id=>exact q.elim
 |goto l=>exact q.elim
 |outgrown=>exact q.elim
end rules
abbrev Env:=List (Nat×Value)
variable {env e:Env}
def get:Env→Nat→Value
 | [],_=>undef
 | (k,v)::r,t=>bif Nat.beq k t then v else get r t
def A(n:Nat)(env:Env)(D:List Deferred):Act:=⟨Array.ofFn (n:=n) fun i=>get env i,D⟩
def ev(n:Nat)(env:Env):Operand→Value
 | .tmp t=>bif Nat.blt t n then get env t else undef
 | .const v=>v
 | .global g=> .pointer (some ⟨g,0,none⟩)
 | .func f=> .func (.func f) #[] #[]
def gM:Env→Nat→Option Value
 | [],_=>none
 | (k,v)::r,t=>bif Nat.beq k t then some v else gM r t
def bA(n:Nat)(env:Env):Operand→Option Value
 | .tmp t=>bif Nat.blt t n then gM env t else none
 | .const v=>some v
 | .global g=>some (.pointer (some ⟨g,0,none⟩))
 | .func f=>some (.func (.func f) #[] #[])
def ze(n:Nat)(env:Env):List Operand→Option (List Value)
 | []=>some []
 |x::l=>match bA n env x with
  |some v=>match ze n env l with
   |some r=>some (v::r)
   |none=>none
  |none=>none
def tP(n:Nat)(env:Env)(xs:Array Operand):Option (List Value):=ze n env xs.toList
theorem nQ{t:Nat}(h:gM env t=some v):get env t=v:=by
 induction env with
 |nil=>cases h
 |cons x env ih=>
  rcases x with ⟨k,u⟩
  simp only[gM,get] at h ⊢
  cases hb:Nat.beq k t with
  |true=>rw[hb] at h;simpa using h
  |false=>rw[hb] at h;exact ih h
theorem aL(h:bA n env x=some v):ev n env x=v:=by
 cases x with
 |tmp t=>
  simp only[bA,ev] at h ⊢
  cases hb:Nat.blt t n with
  |true=>rw[hb] at h;exact nQ h
  |false=>rw[hb] at h;cases h
 |const u=>simpa [bA,ev] using h
 |global g=>simpa [bA,ev] using h
 |func f=>simpa [bA,ev] using h
theorem ag8:∀ {xs:List Operand} {l:List Value},ze n env xs=some l→xs.map (ev n env)=l
 | [],l,h=>by simpa [ze] using h
 |x::xs,l,h=>by
  simp only[ze] at h
  cases hx:bA n env x with
  |none=>rw[hx] at h;cases h
  |some v=>
   rw[hx] at h
   cases hr:ze n env xs with
   |none=>rw[hr] at h;cases h
   |some r=>rw[hr] at h;simp only[Option.some.injEq] at h;subst h;simp[aL hx,ag8 hr]
theorem rC(h:tP n env xs=some l):xs.map (ev n env)=⟨l⟩:=by
 have:=ag8 h
 rcases xs with ⟨xs⟩
 simpa using this
def upd(dst:Option Tmp)(v:Value)(env:Env):Env:=
 match dst with
 |some d=>(d,v)::env
 |none=>env
theorem Oz(n:Nat)(env:Env)(D:List Deferred)(t:Nat):(A n env D).tmps[t]?=if t <n then some (get env t) else none:=by
 simp only[A,Array.getElem?_ofFn]
 split<;>rfl
theorem gQ(n:Nat)(env:Env)(D:List Deferred):(A n env D).eval=ev n env:=by
 funext x
 cases x with
 |tmp t=>
  simp only[Act.eval,ev,Array.getD_eq_getD_getElem?,Oz]
  by_cases h:t <n
  ·rw[if_pos h,show Nat.blt t n=true from by simpa [Nat.blt_eq] using h];rfl
  rw[if_neg h,show Nat.blt t n=false from by simpa [Nat.blt_eq,←Bool.not_eq_true] using h];rfl
 |_=>rfl
theorem cT(k t:Nat)(v:Value)(r:Env):get ((k,v)::r) t=if k=t then v else get r t:=by
 simp only[get]
 by_cases h:k=t
 ·subst h;simp
 rw[if_neg h,show Nat.beq k t=false from by simpa [←Bool.not_eq_true] using h];rfl
theorem bI(n:Nat)(env:Env)(D:List Deferred)(dst:Option Tmp)(v:Value):(A n env D).put dst v=A n (upd dst v env) D:=by
 cases dst with
 |none=>rfl
 |some d=>
  simp only[Act.put,upd,A,Act.mk.injEq,and_true]
  apply Array.ext_getElem?
  intro i
  rw[Array.getElem?_setIfInBounds]
  simp only[Array.getElem?_ofFn,Array.size_ofFn]
  by_cases h:d=i
  ·subst h
   by_cases h2:d <n<;>simp[h2,cT]
  simp only[h,if_false]
  split
  ·simp[cT,h]
  rfl
def Holds(n:Nat)(env:Env)(D:List Deferred)(a:Act):Prop:=∃rest,a=A n (env++rest) D
theorem get_append(env rest:Env)(t:Nat):get (env++rest) t=if (env.any fun x=>x.1==t) then get env t else get rest t:=by
 induction env with
 |nil=>simp
 |cons x env ih=>
  rcases x with ⟨k,v⟩
  simp only[List.cons_append,cT,List.any_cons]
  by_cases h:k=t
  ·simp[h]
  have hk:(k==t)=false:=by simpa using h
  rw[if_neg h,if_neg h,ih,hk,Bool.false_or]
theorem holds_of(n:Nat)(env mj:Env)(D:List Deferred)(h:∀x∈env,get mj x.1=x.2)(hd:∀x∈env,get env x.1=x.2):Holds n env D (A n mj D):=by
 refine⟨mj,?_⟩
 simp only[A,Act.mk.injEq,and_true]
 congr 1
 funext i
 rw[get_append]
 split
 ·rename_i ha
  obtain⟨x,hx,hk⟩:=List.any_eq_true.1 ha
  have hk:x.1=i.val:=by simpa using hk
  rw[←hk,h x hx,hd x hx]
 rfl
def aD(ops:Array Oper)(n:Nat)(env:Env):Option (Nat×Bool)→Bool
 |none=>true
 |some (j,want)=>match (ops[j]?).bind (·.dst) with
  |some d=>match bA n env (.tmp d) with
   |some (.bool b)=>b==want
   |_=>false
  |none=>false
theorem F6{ops:Array Oper}{D:List Deferred}{b:Bool}(hd:(ops[j]?).bind (·.dst)=some d) (hv:bA n env (.tmp d)=some (.bool b)):yielded ops (A n env D).tmps j=some b:=by
 simp only[yielded,hd,Option.bind_some,Oz]
 simp only[bA] at hv
 by_cases bO:d <n
 ·rw[show Nat.blt d n=true from by simpa [Nat.blt_eq] using bO] at hv
  simp only[cond_true] at hv
  rw[if_pos bO,nQ hv]
 rw[show Nat.blt d n=false from by simpa [Nat.blt_eq,←Bool.not_eq_true] using bO] at hv
 cases hv
theorem Cr(ops:Array Oper)(n:Nat)(env:Env)(D:List Deferred)(o:Oper)(h:aD ops n env o.guard=true):Region.wanted o (yielded ops (A n env D).tmps)=true:=by
 unfold Region.wanted
 cases hg:o.guard with
 |none=>rfl
 |some x=>
  rcases x with ⟨j,want⟩
  rw[hg] at h
  simp only[aD] at h
  cases hd:(ops[j]?).bind (·.dst) with
  |none=>rw[hd] at h;cases h
  |some d=>
   rw[hd] at h
   simp only at h
   cases hv:bA n env (.tmp d) with
   |none=>rw[hv] at h;cases h
   |some v=>
    rw[hv] at h
    cases v<;>first
     | (simp only at h;simp only[F6 hd hv];simpa using h)
     | (cases h;done)
theorem O8(ops:Array Oper)(n:Nat)(env:Env)(D:List Deferred)(o:Oper)(j:Nat)(want:Bool)(d:Tmp)(b:Bool)(hg:o.guard=some (j,want))(hd:(ops[j]?).bind (·.dst)=some d)
 (hv:bA n env (.tmp d)=some (.bool b)) (hb:(b==want)=false):Region.wanted o (yielded ops (A n env D).tmps)=false:=by
 unfold Region.wanted
 rw[hg]
 simp only[F6 hd hv]
 simpa using hb
structure TF(P:Program)(t:TypeId)(d:TypeDesc)(size bytes:Nat)(zero:List Value)(agg:Bool):Prop where
 und:P.underlying t=some d
 info:∃i,P.info? t=some i∧i.size=size∧i.bytes=bytes∧∃z,i.zero=some z∧z.cells=⟨zero⟩∧z=if agg then .agg ⟨zero⟩ else zero.headD undef
 isAgg:agg=(match d with| .struct _| .array _ _=>true|_=>false)
structure FF(P:Program)(f:FuncId):Prop where
 ff:∃fn,P.funcs[f]?=some fn∧(fn.name== "runtime.NumGoroutine")=false∧fn.body.isNone=false
section rules
variable {P:Program} {C:Class} {fn:FuncId} {aF:Option Nat} {Q:Post} {s:St} {n:Nat} {env:Env} {D:List Deferred}
variable {ops:Array Oper} {i:Nat} {rest:List Nat} {dst:Option Tmp} {ty:TypeId} {pos:String} {dG:Array Edge} {g:Option (Nat×Bool)}
theorem cy(hC:∀main T,C main T→Closed P main T){o:Oper}(ho:ops[i]?=some o) (hw:aD ops n env o.guard=true) (hd:∀c,o.op≠ .defer c)
 (h:cu P (execOp (ev n env) o) s (upon C P aF o.dst (A n env D) (fun a' s'=>ak C fn aF ops rest Q a' s') Q) (MQ (A n env D) Q)):ak C fn aF ops (i::rest) Q (A n env D) s:=by
 rw[←gQ n env D] at h
 exact MO hC ho (Cr _ _ _ _ _ hw) (.inr hd) h
theorem vx(hC:∀main T,C main T→Closed P main T){o:Oper}(ho:ops[i]?=some o) {want:Bool} {b:Bool} (hg:o.guard=some (j,want)) (hd:(ops[j]?).bind (·.dst)=some d)
 (hv:bA n env (.tmp d)=some (.bool b)) (hb:(b==want)=false) (h:ak C fn aF ops rest Q (A n (upd o.dst undef env) D) s):ak C fn aF ops (i::rest) Q (A n env D) s:=by
 refine vq hC ho (O8 _ _ _ _ _ _ _ _ _ hg hd hv hb) ?_
 rw[bI];exact h
theorem uv(hC:∀main T,C main T→Closed P main T){o:Oper}(ho:ops[i]?=some o) (hw:aD ops n env o.guard=true) (hd:∀c,o.op≠ .defer c)
 (hv:execOp (ev n env) o=Sem.pure (.value v)) (h:ak C fn aF ops rest Q (A n (upd o.dst v env) D) s):ak C fn aF ops (i::rest) Q (A n env D) s:=by
 refine cy hC ho hw hd ?_
 rw[hv]
 show ak _ _ _ _ _ _ _ _
 rw[bI];exact h
theorem ir(x:Int)(h: -9223372036854775808≤x∧x≤9223372036854775807):IntKind.i64.wrap x=x:=IntWalk.i64_in x h
end rules
section sem
variable {P:Program} {α:Type} {s:St} {Q:α→St→Prop} {E:Halt→St→Prop} {t:TypeId} {d:TypeDesc} {sz bL:Nat} {z:List Value} {ag:Bool}
theorem aj{a:β}{k:β→Sem α}:cu P (pure a >>= k) s Q E=cu P (k a) s Q E:=rfl
theorem af{γ:Type}{x:Sem β}{f:β→Sem γ}{k:γ→Sem α}:cu P ((x >>= f) >>= k) s Q E=cu P (x >>= fun a=>f a >>= k) s Q E:=by
 have:∀(x:Sem β),((x.bind f).bind k)=x.bind fun a=>(f a).bind k:=by
  intro x
  induction x with
  |pure a=>rfl
  |halt h=>rfl
  |load m a k ih=>simp only[Sem.bind,ih]
  |store m a v k ih=>simp only[Sem.bind,ih]
  |new o k ih=>simp only[Sem.bind,ih]
  |shape r k ih=>simp only[Sem.bind,ih]
  |freeze a n k ih=>simp only[Sem.bind,ih]
  |frozen a k ih=>simp only[Sem.bind,ih]
  |getObj r k ih=>simp only[Sem.bind,ih]
  |setObj r o k ih=>simp only[Sem.bind,ih]
  |choose q k ih=>simp only[Sem.bind,ih]
  |sys c k ih=>simp only[Sem.bind,ih]
  |program k ih=>simp only[Sem.bind,ih]
  |mark m k ih=>simp only[Sem.bind,ih]
 show cu P ((x.bind f).bind k) s Q E=cu P (x.bind fun a=>(f a).bind k) s Q E
 rw[this]
theorem eZ{k:Program→Sem α}:cu P (program >>= k) s Q E=cu P (k P) s Q E:=rfl
theorem a8(h:TF P t d sz bL z ag){k:TypeDesc→Sem α}:cu P (underlying t >>= k) s Q E=cu P (k d) s Q E:=by
 simp only[underlying,af,eZ,h.und,aj]
theorem cw(h:TF P t d sz bL z ag){k:Nat→Sem α}:cu P (sizeOf t >>= k) s Q E=cu P (k sz) s Q E:=by
 obtain⟨i,hi,h1,_⟩:=h.info
 simp only[sizeOf,typeInfo,af,eZ,hi,aj,h1]
def I1(z:List Value)(ag:Bool):Value:=if ag then .agg ⟨z⟩ else z.headD undef
theorem jY(h:TF P t d sz bL z ag){k:Value→Sem α}:cu P (zeroValue t >>= k) s Q E=cu P (k (I1 z ag)) s Q E:=by
 obtain⟨i,hi,h1,h2,x,hx,hc,he⟩:=h.info
 simp only[zeroValue,typeInfo,af,eZ,hi,aj,hx,he,I1]
theorem dQ(h:TF P t d sz bL z ag):(I1 z ag).cells=⟨z⟩:=by
 obtain⟨i,hi,h1,h2,x,hx,hc,he⟩:=h.info
 rw[←hc,he];rfl
theorem kK(h:TF P t d sz bL z ag){k:Bool→Sem α}:cu P (isAgg t >>= k) s Q E=cu P (k ag) s Q E:=by
 simp only[isAgg,af,a8 h]
 rw[h.isAgg]
 cases d<;>rfl
theorem py{o:Obj}{k:Nat→Sem α}:cu P (newObj o >>= k) s Q E=(Obj.real o=true∧∀b,¬s.knows b→cu P (k b) ⟨s.ro,(b,o)::s.rw⟩ Q E):=rfl
theorem gF{e:TypeId}{cs:Array Value}{k:Addr→Sem α}:cu P (newRow e cs >>= k) s Q E=∀b,¬s.knows b→cu P (k ⟨b,0,none⟩) ⟨s.ro,(b,.cells cs e)::s.rw⟩ Q E:=propext ⟨fun h=>h.2,fun h=>⟨rfl,h⟩⟩
theorem uh{e:TypeId}{k:Addr→Sem α}:cu P (newVar e v >>= k) s Q E=∀b,¬s.knows b→cu P (k ⟨b,0,none⟩) ⟨s.ro,(b,.cells v.cells e)::s.rw⟩ Q E:=propext ⟨fun h=>h.2,fun h=>⟨rfl,h⟩⟩
theorem ee(b o k:Nat):(⟨b,o,none⟩:Addr).add k=⟨b,o+k,none⟩:=by
 unfold Addr.add;split
 ·rename_i h;subst h;rfl
 rfl
def nth:List Value→Nat→Option Value
 | [],_=>none
 |v::_,0=>some v
 |_::l,o+1=>nth l o
def kX:List Value→Nat→Option (List Value)
 |_,0=>some []
 | [],_+1=>none
 |v::l,n+1=>match kX l n with
  |some r=>some (v::r)
  |none=>none
def sub:List Value→Nat→Nat→Option (List Value)
 |l,0,n=>kX l n
 | [],_+1,_=>none
 |_::l,o+1,n=>sub l o n
def dI:List Value→Nat→List Value→List Value
 | [],_,_=>[]
 |x::l,_,[]=>x::l
 |_::l,0,v::vs=>v::dI l 0 vs
 |x::l,o+1,v::vs=>x::dI l o (v::vs)
theorem rh:∀(l:List Value) (o:Nat),nth l o=l[o]?
 | [],_=>rfl
 |_::_,0=>rfl
 |_::l,o+1=>by simp[nth,rh l o]
theorem Pf:∀(l:List Value) (n:Nat) (vs:List Value),kX l n=some vs→vs.length=n∧∀(j:Nat) (v:Value),vs[j]?=some v→l[j]?=some v
 |l,0,vs,h=>by simp[kX] at h;subst h;simp
 | [],n+1,vs,h=>by simp[kX] at h
 |x::l,n+1,vs,h=>by
  simp only[kX] at h
  cases hr:kX l n with
  |none=>rw[hr] at h;cases h
  |some r=>
   rw[hr] at h;simp only[Option.some.injEq] at h;subst h
   obtain⟨h1,h2⟩:=Pf l n r hr
   refine⟨by simp[h1],fun j v hj=>?_⟩
   cases j with
   |zero=>simpa using hj
   |succ j=>simp at hj ⊢;exact h2 j v hj
theorem sub_eq:∀(l:List Value) (o n:Nat) (vs:List Value),sub l o n=some vs→vs.length=n∧∀(j:Nat) (v:Value),vs[j]?=some v→l[o+j]?=some v
 |l,0,n,vs,h=>by
  have h:kX l n=some vs:=by cases l<;>exact h
  obtain⟨h1,h2⟩:=Pf l n vs h
  exact⟨h1,fun j v hj=>by rw[Nat.zero_add];exact h2 j v hj⟩
 | [],o+1,n,vs,h=>by simp[sub] at h
 |x::l,o+1,n,vs,h=>by
  obtain⟨h1,h2⟩:=sub_eq l o n vs (by simpa [sub] using h)
  refine⟨h1,fun j v hj=>?_⟩
  rw[show o+1+j=(o+j)+1 from by omega]
  simpa using h2 j v hj
theorem mD:∀(l:List Value) (o:Nat) (vs:List Value),(dI l o vs).length=l.length
 | [],_,_=>rfl
 |_::_,_,[]=>by simp[dI]
 |_::l,0,v::vs=>by simp[dI,mD l 0 vs]
 |x::l,o+1,v::vs=>by simp[dI,mD l o (v::vs)]
theorem mC(l:List Value)(o:Nat):dI l o []=l:=by cases l<;>cases o<;>rfl
theorem CW:∀(l:List Value) (o:Nat) (v:Value) (vs:List Value),o <l.length→dI l o (v::vs)=dI (l.set o v) (o+1) vs
 |x::l,0,v,vs,_=>by
  cases vs with
  |nil=>simp[dI,mC]
  |cons w ws=>simp[dI]
 |x::l,o+1,v,vs,h=>by
  have:=CW l o v vs (by simpa using h)
  cases vs with
  |nil=>simp only[dI,this,mC,List.set_cons_succ]
  |cons w ws=>simp only[dI,this,List.set_cons_succ]
def Reads(s:St)(b o:Nat)(v:Value):Prop:=∃l t fz,s.has b (.cells ⟨l⟩ t fz)∧nth l o=some v
def da(s:St)(b o n:Nat)(vs:List Value):Prop:=∃l t fz,s.has b (.cells ⟨l⟩ t fz)∧sub l o n=some vs
theorem xf(h:Reads s b o v){k:Value→Sem α}(hk:cu P (k v) s Q E):cu P (load ⟨b,o,none⟩ >>= k) s Q E:=by
 obtain⟨l,t,fz,h1,h2⟩:=h
 exact⟨rfl,rfl,⟨l⟩,t,fz,v,.inl h1,by rw[rh] at h2;simpa using h2,hk⟩
theorem E4{c:List Value}{fz:Nat×Nat}(hb:s.has b (.cells ⟨c⟩ t fz))(l:List Value):∀(i:Nat) (acc:Array Value) {k:Array Value→Sem α},(∀(j:Nat) (v:Value),l[j]?=some v→c[o+i+j]?=some v)→cu P (k (acc++l.toArray)) s Q E→
 cu P (loadCellsFrom ⟨b,o,none⟩ i l.length acc >>= k) s Q E:=by
 induction l with
 |nil=>intro i acc k _ hk;simpa [loadCellsFrom,aj] using hk
 |cons v l ih=>
  intro i acc k h2 hk
  simp only[List.length_cons,loadCellsFrom,af,ee]
  refine xf ⟨c,t,fz,hb,by rw[rh];exact h2 0 v rfl⟩ ?_
  refine ih (i+1) (acc.push v) (fun j x hx=>?_) (by simpa using hk)
  have:=h2 (j+1) x (by simpa using hx)
  rw[show o+(i+1)+j=o+i+(j+1) from by omega];exact this
theorem jQ{m:Nat}(h:da s b o m l){k:Array Value→Sem α}(hk:cu P (k ⟨l⟩) s Q E):cu P (loadCells ⟨b,o,none⟩ m >>= k) s Q E:=by
 obtain⟨c,t,fz,h1,h2⟩:=h
 obtain⟨h3,h4⟩:=sub_eq _ _ _ _ h2
 subst h3
 exact E4 h1 l 0 #[] (by simpa using h4) (by simpa using hk)
theorem ajr{L:List (Nat×Obj)}{c:List Value}{e:TypeId}(hs:s.rw=L++(b,.cells ⟨c⟩ e (0,0))::R)(ho:o <c.length)(h1:single v=true){k:Unit→Sem α}
 (hk:cu P (k ()) ⟨s.ro,L++(b,.cells ⟨c.set o v⟩ e (0,0))::R⟩ Q E):cu P (store ⟨b,o,none⟩ v >>= k) s Q E:=
 ⟨rfl,rfl,h1,L,⟨c⟩,e,(0,0),R,hs,by simpa using ho,by simp,by
  rw[show (⟨c⟩:Array Value).setIfInBounds o v=⟨c.set o v⟩ from by simp];exact hk⟩
theorem nI{L:List (Nat×Obj)}{e:TypeId}(l:List Value):∀(i:Nat) (c:List Value) (s:St) {k:Unit→Sem α},s.rw=L++(b,.cells ⟨c⟩ e (0,0))::R→o+i+l.length≤c.length→(∀v∈l,single v=true)→
 cu P (k ()) ⟨s.ro,L++(b,.cells ⟨dI c (o+i) l⟩ e (0,0))::R⟩ Q E→cu P (storeCells ⟨b,o,none⟩ l i >>= k) s Q E:=by
 induction l with
 |nil=>intro i c s k hs _ _ hk;rcases s with ⟨ro,rw_⟩;simp only at hs;subst hs;rw[mC] at hk;simpa [storeCells,aj] using hk
 |cons v l ih=>
  intro i c s k hs ho h1 hk
  simp only[List.length_cons] at ho
  simp only[storeCells,af,ee]
  refine ajr hs (by omega) (h1 v (by simp))<|ih (i+1) _ _ rfl (by simp;omega) (fun x hx=>h1 x (by simp[hx])) ?_
  rw[CW _ _ _ _ (by omega)] at hk
  simpa [Nat.add_assoc] using hk
end sem
section rules
variable {P:Program} {C:Class} {fn:FuncId} {aF:Option Nat} {Q:Post} {s:St} {n:Nat} {env:Env} {D:List Deferred}
variable {ops:Array Oper} {i:Nat} {rest:List Nat} {dst:Option Tmp} {ty:TypeId} {pos:String} {dG:Array Edge} {g:Option (Nat×Bool)}
variable {T:TypeId} {d:TypeDesc} {sz bL:Nat} {z:List Value} {ag:Bool}
theorem aks(hC:∀main T,C main T→Closed P main T)(ho:ops[i]?=some ⟨dst,.alloc T,ty,pos,dG,g⟩) (hw:aD ops n env g=true) (tf:TF P T d sz bL z ag)
 (h:∀b,¬s.knows b→ak C fn aF ops rest Q (A n (upd dst (.pointer (some ⟨b,0,none⟩)) env) D) ⟨s.ro,(b,.cells ⟨z⟩ T)::s.rw⟩):ak C fn aF ops (i::rest) Q (A n env D) s:=by
 refine cy hC ho hw (by simp) ?_
 simp only[execOp,Instr.alloc,af,jY tf,uh,aj,dQ tf]
 intro b hb
 have:=h b hb
 rw[←bI] at this
 exact this
theorem azJ(hC:∀main T,C main T→Closed P main T)(ho:ops[i]?=some ⟨dst,.box T x,ty,pos,dG,g⟩) (hw:aD ops n env g=true) (hx:bA n env x=some (v)) (hl:v.cells=⟨l⟩)
 (h:∀b,¬s.knows b→ak C fn aF ops rest Q (A n (upd dst (.pointer (some ⟨b,0,none⟩)) env) D) ⟨s.ro,(b,.cells ⟨l⟩ T)::s.rw⟩):ak C fn aF ops (i::rest) Q (A n env D) s:=by
 refine cy hC ho hw (by simp) ?_
 simp only[execOp,Instr.box,af,uh,aj,aL hx,hl]
 intro b hb
 have:=h b hb
 rw[←bI] at this
 exact this
theorem FK(hC:∀main T,C main T→Closed P main T){L:List (Nat×Obj)}{c:List Value}{e:TypeId}(ho:ops[i]?=some ⟨dst,.store T x y,ty,pos,dG,g⟩) (hw:aD ops n env g=true) (tf:TF P T d sz bL z ag)
 (hx:bA n env x=some (.pointer (some ⟨b,o,none⟩))) (hy:bA n env y=some (v)) (hl:v.cells=⟨l⟩) (hn:l.length=sz) (h1:∀v∈l,single v=true) (hs:s.rw=L++(b,.cells ⟨c⟩ e (0,0))::R) (hb:o+l.length≤c.length)
 (h:ak C fn aF ops rest Q (A n (upd dst undef env) D) ⟨s.ro,L++(b,.cells ⟨dI c o l⟩ e (0,0))::R⟩):ak C fn aF ops (i::rest) Q (A n env D) s:=by
 refine cy hC ho hw (by simp) ?_
 have nP:v.cells.size=sz:=by rw[hl];simpa using hn
 simp only[execOp,Instr.storeAt,aL hx,aL hy,Instr.sureAddr,storeVar,af,aj,cw tf,nP,ne_eq,not_true,if_false]
 rw[show v.cells.toList=l from by rw[hl]]
 refine nI l 0 c s hs (by simpa using hb) h1 ?_
 rw[←bI] at h
 rw[Nat.add_zero]
 exact h
theorem azF(hC:∀main T,C main T→Closed P main T){E:TypeId}{a:Option Addr}{len cap:Nat}(ho:ops[i]?=some ⟨dst,.call ⟨.builtin .len,#[x],#[T]⟩,ty,pos,dG,g⟩) (hw:aD ops n env g=true)
 (tf:TF P T (.slice E) sz bL z ag) (hx:bA n env x=some (.slice a len cap)) (h:ak C fn aF ops rest Q (A n (upd dst (.int .i64 len) env) D) s):ak C fn aF ops (i::rest) Q (A n env D) s:=by
 refine cy hC ho hw (by simp) ?_
 simp only[execOp,resolve,invoke,builtin,Builtin.len_,List.map_toArray,List.map_cons,List.map_nil,aL hx,aj]
 simp only[List.getElem?_toArray,List.getElem?_cons_zero,a8 tf,aj,af]
 rw[←bI] at h
 exact h
theorem jZ{f:FuncId}{Q:Next→St→Prop}(ff:FF P f)(h:Q (.enter f args) s):cu P (callFunc f args) s Q E:=by
 obtain⟨fn,h1,h2,h3⟩:=ff.ff
 simp only[callFunc,eZ,h1,h2,h3,Bool.false_eq_true,if_false]
 exact h
theorem su(hC:∀main T,C main T→Closed P main T){f:FuncId}{fi ca:Array Value}{at_:Array TypeId}{ws:List Value}{R:Ending→St→Prop}(ho:ops[i]?=some ⟨dst,.call ⟨.value x,xs,at_⟩,ty,pos,dG,g⟩) (hw:aD ops n env g=true)
 (hv:bA n env x=some (.func (.func f) fi ca)) (ff:FF P f) (hx:tP n env xs=some vs) (qS:fi++⟨vs⟩++ca=⟨ws⟩) (hf:Fn C P f ⟨ws⟩ s R) (h:∀v s',R (.returned v) s'→ak C fn aF ops rest Q (A n (upd dst v env) D) s') (hp:∀ch s',R (.panicked ch) s'→Q (.panic ch) (A n env D) s') (hg:∀s',¬R .outgrown s'):
 ak C fn aF ops (i::rest) Q (A n env D) s:=by
 refine cy hC ho hw (by simp) ?_
 simp only[execOp,resolve,aL hv,Deferred.ofValue,aj,rC hx]
 simp only[invoke,qS]
 refine jZ ff<|Fn.mono hf fun e s' hr=>?_
 cases e with
 |returned v=>have:=h v s' hr;rw[←bI] at this;exact this
 |panicked ch=>exact hp ch s' hr
 |outgrown=>exact(hg s' hr).elim
theorem OT(hC:∀main T,C main T→Closed P main T){c:Operand}{x y:Code}{t:Bool}(hc:bA n env c=some (.bool t))(h1:t=true→Wp C fn aF x Q (A n env D) s)(h2:t=false→Wp C fn aF y Q (A n env D) s):
 Wp C fn aF (.cond c x y) Q (A n env D) s:=
 wp_cond_split hC (by rw[gQ];exact aL hc) h1 h2
theorem VZ(hC:∀main T,C main T→Closed P main T){c:Operand}{x y:Code}{t:Bool}(hc:bA n env c=some (.bool t))(ht:t=true)(h1:Wp C fn aF x Q (A n env D) s):Wp C fn aF (.cond c x y) Q (A n env D) s:=
 OT hC hc (fun _=>h1) (fun h=>by rw[ht] at h;cases h)
theorem V0(hC:∀main T,C main T→Closed P main T){c:Operand}{x y:Code}{t:Bool}(hc:bA n env c=some (.bool t))(ht:t=false)(h1:Wp C fn aF y Q (A n env D) s):Wp C fn aF (.cond c x y) Q (A n env D) s:=
 OT hC hc (fun h=>by rw[ht] at h;cases h) (fun _=>h1)
theorem u4{j:Nat}{want:Bool}{d:Tmp}{b:Bool}(hd:(ops[j]?).bind (·.dst)=some d) (hv:bA n env (.tmp d)=some (.bool b)) (hb:b=want):aD ops n env (some (j,want))=true:=by
 simp only[aD,hd,hv,hb,beq_self_eq_true]
def ig:Nat→List Value→Env
 |_,[]=>[]
 |i,v::l=>(i,v)::ig (i+1) l
theorem Ru:∀(l:List Value) (i t:Nat),get (ig i l) t=if i≤t then l.getD (t-i) undef else undef
 | [],i,t=>by simp[ig,get]
 |v::l,i,t=>by
  simp only[ig,cT,Ru l (i+1) t]
  by_cases h:i=t
  ·subst h;simp
  by_cases h2:i≤t
  ·rw[if_neg h,if_pos h2,if_pos (by omega)]
   obtain⟨d,rfl⟩:∃d,t=i+1+d:=⟨t-i-1,by omega⟩
   rw[show i+1+d-i=d+1 from by omega,show i+1+d-(i+1)=d from by omega]
   simp
  rw[if_neg h,if_neg h2,if_neg (by omega)]
theorem mN(args:List Value)(n:Nat)(h:args.length≤n):(⟨(⟨args⟩:Array Value)++Array.replicate (n-args.length) undef,[]⟩:Act)=A n (ig 0 args) []:=by
 simp only[A,Act.mk.injEq,and_true]
 apply Array.ext_getElem?
 intro i
 rw[Array.getElem?_append]
 simp only[Array.getElem?_ofFn,Array.getElem?_replicate,Ru]
 by_cases h1:i <args.length
 ·have h2:i <n:=by omega
  simp[h1,h2]
 by_cases h2:i <n
 ·simp[h1,h2];omega
 simp[h1,h2];omega
theorem Rz(hC:∀main T,C main T→Closed P main T){f:FuncId}{fn:Func}{c:Code}{args:List Value}{R:Ending→St→Prop}
 (hf:P.funcs[f]?=some fn) (hb:fn.body=some c) (hn:fn.ntmps=n) (hl:Nat.ble args.length n=true) (h:Wp C f none c (sW P fn R) (A n (ig 0 args) []) s):Fn C P f ⟨args⟩ s R:=by
 refine RA hC hf hb ?_
 subst hn
 have:=mN args fn.ntmps (Nat.le_of_ble_eq_true hl)
 rw[←this] at h
 exact h
theorem qA{t:Tmp}(hv:bA n env (.tmp t)=some v):(A n env D).tmps[t]?.getD undef=v:=by
 have:=aL hv
 rw[←gQ n env D] at this
 simpa [Act.eval,Array.getD_eq_getD_getElem?] using this
theorem x6{fn:Func}{R:Ending→St→Prop}{e:Exit}{a:Act}(he:e= .ret∨e= .normal)(hd:a.defers=[])(h:cu P (results fn a.tmps) s (fun v s'=>∃s0,s0.le s'∧R (.returned v) s0) (fun _ _=>False)):sW P fn R e a s:=by
 rcases he with rfl|rfl<;>exact⟨hd,h⟩
end rules
theorem alI{P:Program}{i:TypeInfo}{w:World}(h:(typeInfo t).run P w= .ok i w):P.info? t=some i:=by
 simp only[typeInfo] at h
 change (Sem.program fun p=>Sem.bind (Sem.pure p) fun p=>match p.info? t with|some i=>Sem.pure i|none=>stuck "no such type").run P w=_ at h
 simp only[Sem.run,Sem.bind] at h
 cases hi:P.info? t with
 |none=>rw[hi] at h;simp[stuck,Sem.run] at h
 |some j=>rw[hi] at h;simp[Sem.run] at h;rw[h]
theorem fD{P:Program}{t:TypeId}{i:TypeInfo}{d:TypeDesc}{sz bL:Nat}{z:Value}{l:List Value}{ag:Bool}(h:∀w,(typeInfo t).run P w= .ok i w)(hu:P.underlying t=some d)
 (h1:i.size=sz)(h2:i.bytes=bL)(h3:i.zero=some z)(h4:z=if ag then .agg ⟨l⟩ else l.headD undef)(h5:z.cells=⟨l⟩)(h6:ag=(match d with| .struct _| .array _ _=>true|_=>false)):TF P t d sz bL l ag:=
 ⟨hu,⟨i,alI (h default),h1,h2,z,h3,h5,h4⟩,h6⟩
def mb(env:Env):Env→Prop
 | []=>True
 | (t,v)::r=>gM env t=some v∧mb env r
theorem mb.mem:∀ {e:Env},mb env e→∀x∈e,get env x.1=x.2
 | (t,v)::r,h,x,hx=>by
  rcases List.mem_cons.1 hx with rfl|hx
  ·exact nQ h.1
  exact mb.mem h.2 x hx
theorem gE{D:List Deferred}(h:mb env e)(hd:mb e e):∃rest,A n env D=A n (e++rest) D:=by
 obtain⟨rest,hr⟩:=holds_of n e env D (mb.mem h) (mb.mem hd)
 exact⟨rest,hr⟩
def Ext(s s':St):Prop:=∀b o,s.has b o→s'.has b o
theorem Ext.refl(s:St):Ext s s:=fun _ _ h=>h
theorem Ext.trans(h:Ext Pn acg)(k:Ext acg acf):Ext Pn acf:=fun b o hb=>k b o (h b o hb)
theorem da.ext{v:List Value}(h:da s b o n v)(e:Ext s s'):da s' b o n v:=by
 obtain⟨l,t,fz,h1,h2⟩:=h;exact⟨l,t,fz,e _ _ h1,h2⟩
section rules
variable {P:Program} {C:Class} {fn:FuncId} {aF:Option Nat} {Q:Post} {s:St} {n:Nat} {env:Env} {D:List Deferred}
variable {ops:Array Oper} {i:Nat} {rest:List Nat} {dst:Option Tmp} {ty:TypeId} {pos:String} {dG:Array Edge} {g:Option (Nat×Bool)}
variable {T:TypeId} {d:TypeDesc} {sz bL:Nat} {z:List Value} {ag:Bool}
def Ss(n:Nat)(D:List Deferred)(qD:ι→Env)(sf:ι→St)(Inv:ι→Prop)(μ:ι→Nat)(m:Nat)(a:Act)(s:St):Prop:=
 ∃j rest,Inv j∧μ j <m∧a=A n (qD j++rest) D∧(sf j).le s
theorem aky{qD:ι→Env}{sf:ι→St}{Inv:ι→Prop}{μ:ι→Nat}{m:Nat}(j:ι)(h:Inv j)(hm:μ j <m)(hc:mb env (qD j))(hd:mb (qD j) (qD j))(hs:(sf j).le s):
 Ss n D qD sf Inv μ m (A n env D) s:=by
 obtain⟨r,hr⟩:=gE (n:=n) (D:=D) hc hd
 exact⟨j,r,h,hm,hr,hs⟩
theorem abD(hC:∀main T,C main T→Closed P main T)(qD:ι→Env)(sf:ι→St)(Inv:ι→Prop)(μ:ι→Nat){c:Code}(i0:ι)(h0:Inv i0)(hc:mb env (qD i0))(hd:mb (qD i0) (qD i0))(hs:(sf i0).le s)
 (round:∀i,Inv i→∀rest,Wp C fn aF c (nj (Ss n D qD sf Inv μ (μ i)) Q) (A n (qD i++rest) D) (sf i)):Wp C fn aF (.loop c) Q (A n env D) s:=by
 obtain⟨r0,p6⟩:=gE (n:=n) (D:=D) hc hd
 rw[p6]
 intro main T hT b k cs h1 h2 h3 h4
 have key:∀m i rest s,μ i=m→Inv i→(sf i).le s→T (G (aW b (A n (qD i++rest) D) (.code c:: .inLoop c::k)) cs) s:=by
  intro m
  induction m using Nat.strongRecOn with
  |_ m ih=>
   intro i rest s hm hI hle
   refine(hC main T hT).mono _ _ _ hle ?_
   refine round i hI rest main T hT b (.inLoop c::k) cs h1 h2 h3 fun e a' s' q=>?_
   cases e with
   |normal=>
    obtain⟨j,acN,vJ,bO,rfl,y5⟩:=q
    exact(hC main T hT).go rfl rfl (g':=G (aW b _ (.code c:: .inLoop c::k)) cs) (fun w=>by simp[G,stepG,stepG.exec,aW]) (ih _ (hm▸bO) j acN s' rfl vJ y5)
   |exit id=>exact(h4 _ _ _ q).push rfl (by simp)
   |ret=>exact(h4 _ _ _ q).push (x:= .inLoop c) rfl (by simp)
   |panic ch=>exact(h4 _ _ _ q).push (x:= .inLoop c) rfl (by simp)
   |goto l=>exact(h4 _ _ _ q).elim
   |outgrown=>exact(h4 _ _ _ q).elim
 exact(hC main T hT).go rfl rfl (g':=G (aW b (A n (qD i0++r0) D) (.code c:: .inLoop c::k)) cs) (fun w=>by simp[G,stepG,stepG.exec,aW]) (key _ i0 r0 s rfl h0 hs)
end rules
section rules
variable {P:Program} {C:Class} {fn:FuncId} {aF:Option Nat} {Q:Post} {s:St} {n:Nat} {env:Env} {D:List Deferred}
variable {ops:Array Oper} {i:Nat} {rest todo:List Nat} {dst:Option Tmp} {ty:TypeId} {pos:String} {dG:Array Edge} {g:Option (Nat×Bool)}
variable {T:TypeId} {d:TypeDesc} {sz bL:Nat} {z:List Value} {ag:Bool}
theorem EO{a:Act}(h:Q .normal a s):rH id Q (.exit id) a s:=by simp only[rH,if_true];exact h
theorem EN{SG:Nat}{a:Act}(cF:Nat.beq SG id=false)(h:Q (.exit SG) a s):rH id Q (.exit SG) a s:=by
 have:¬SG=id:=by intro e;subst e;simp at cF
 simp only[rH,this,if_false];exact h
theorem Bx(hC:∀main T,C main T→Closed P main T){op:BinOp}{T:TypeId}{a b:ByteArray}(ho:ops[i]?=some ⟨dst,.binOp op T x y T',ty,pos,dG,g⟩) (hw:aD ops n env g=true)
 (hx:bA n env x=some (.string a)) (hy:bA n env y=some (.string b)) (hv:Op.stringOp op a b=Sem.pure v) (av:(match op with| .shl| .shr=>false|_=>true)=true) (h:ak C fn aF ops rest Q (A n (upd dst v env) D) s):ak C fn aF ops (i::rest) Q (A n env D) s:=by
 refine uv hC ho hw (by simp) ?_ h
 simp only[execOp,aL hx,aL hy]
 have he:eqGuard op T x y (.string a) (.string b)=Sem.pure ():=by
  unfold eqGuard
  cases op<;>rfl
 have hb:binOp op T (.string a) (.string b)=Op.stringOp op a b:=by cases op<;>first|rfl|cases av
 rw[he,hb,hv]
 rfl
end rules
def EG:List Edge→List Nat
 | []=>[]
 |e::l=>bif Region.binds .any e then e.on::EG l else EG l
def bG(ops:Array Oper)(i:Nat):List Nat:=
 match ops[i]? with
 |some o=>EG o.after.toList
 |none=>[]
theorem C4{e:Edge}:∀ {l:List Edge},e∈l→Region.binds .any e=true→e.on∈EG l
 |x::l,h,hb=>by
  rcases List.mem_cons.1 h with rfl|h
  ·simp[EG,hb]
  simp only[EG]
  cases Region.binds .any x
  ·exact C4 h hb
  exact List.mem_cons_of_mem _ (C4 h hb)
theorem vw:∀ {l:List Edge},j∈EG l→∃e∈l,Region.binds .any e=true∧e.on=j
 |x::l,h=>by
  simp only[EG] at h
  cases hb:Region.binds .any x
  ·rw[hb] at h
   obtain⟨e,he,h2⟩:=vw h
   exact⟨e,List.mem_cons_of_mem _ he,h2⟩
  rw[hb] at h
  rcases List.mem_cons.1 h with rfl|h
  ·exact⟨x,by simp,hb,rfl⟩
  obtain⟨e,he,h2⟩:=vw h
  exact⟨e,List.mem_cons_of_mem _ he,h2⟩
def Lin(ops:Array Oper):List Nat→List Nat→Prop
 |X,[]=>∀i,i <ops.size→i∈X
 |X,i::l=>i <ops.size∧i∉X∧(∀j∈bG ops i,j∈X)∧Lin ops (i::X) l
def AX(ops:Array Oper):Bool:=(List.range ops.size).all fun i=>(bG ops i).all fun j=>Nat.blt j i
theorem yx[BEq α][LawfulBEq α]:∀ {l₁ l₂:List α},l₁.Nodup→(∀x∈l₁,x∈l₂)→l₁.length≤l₂.length
 | [],_,_,_=>by simp
 |x::l,l₂,hn,hs=>by
  rw[List.nodup_cons] at hn
  have hx:=hs x (by simp)
  have h1:(l₂.erase x).length=l₂.length-1:=List.length_erase_of_mem hx
  have h2:=yx (l₁:=l) (l₂:=l₂.erase x) hn.2 (fun y hy=>by
   have cF:y≠x:=fun e=>hn.1 (e▸hy)
   exact(List.mem_erase_of_ne cF).2 (hs y (by simp[hy])))
  have h3:=List.length_pos_of_mem hx
  simp only[List.length_cons]
  omega
theorem ar9(ops:Array Oper)(hd:AX ops=true):∀(fuel t:Nat) (listed:Array Bool) (acc:List Nat),listed.size=ops.size→acc.Nodup→(∀i∈acc,i <ops.size)→
 (∀i,i <ops.size→(listed.getD i true=true↔i∈acc))→fuel+acc.length=ops.size→∃l,Region.linearise.go .any ops fuel t listed acc=acc.reverse++l∧Lin ops acc l:=by
 intro fuel
 induction fuel with
 |zero=>
  intro t listed acc hs hn bO hl hf
  refine⟨[],by simp[Region.linearise.go],fun i hi=>?_⟩
  apply Classical.byContradiction
  intro rT
  have h1:(i::acc).Nodup:=List.nodup_cons.2 ⟨rT,hn⟩
  have h2:∀x∈i::acc,x∈List.range ops.size:=by
   intro x hx
   rcases List.mem_cons.1 hx with rfl|hx
   ·exact List.mem_range.2 hi
   exact List.mem_range.2 (bO x hx)
  have h3:=yx h1 h2
  simp at h3
  omega
 |succ fuel ih=>
  intro t listed acc hs hn bO hl hf
  simp only[Region.linearise.go]
  generalize hrs:(List.range ops.size).filter (fun i=> !listed.getD i true&&((ops[i]?).map (·.after.all fun e=> !Region.binds .any e||listed.getD e.on false)).getD false)=rs
  have cF:∃i,i <ops.size∧i∉acc:=by
   apply Classical.byContradiction
   intro tL
   have h2:∀x∈List.range ops.size,x∈acc:=by
    intro x hx
    apply Classical.byContradiction
    intro hx2
    exact tL ⟨x,List.mem_range.1 hx,hx2⟩
   have h3:=yx List.nodup_range h2
   simp at h3
   omega
  have fM:∀i,i∈rs↔(i <ops.size∧i∉acc∧∀j∈bG ops i,j∈acc):=by
   intro i
   rw[←hrs,List.mem_filter,List.mem_range]
   constructor
   ·rintro⟨h1,h2⟩
    rw[Bool.and_eq_true] at h2
    refine⟨h1,fun hm=>?_,fun j hj=>?_⟩
    ·have:=(hl i h1).2 hm
     rw[this] at h2;simp at h2
    obtain⟨h3,h4⟩:=h2
    have ho:ops[i]?=some ops[i]:=by simp[h1]
    simp only[bG,ho] at hj
    obtain⟨e,he,hb,rfl⟩:=vw hj
    rw[ho] at h4
    simp only[Option.map_some,Option.getD_some,Array.all_eq_true'] at h4
    have h5:=h4 e (Array.mem_toList_iff.1 he)
    rw[hb] at h5
    simp only[Bool.not_true,Bool.false_or] at h5
    have Js:e.on <ops.size:=by
     apply Classical.byContradiction
     intro hc
     have:listed.getD e.on false=false:=by
      rw[Array.getD_eq_getD_getElem?,Array.getElem?_eq_none (by omega)];rfl
     rw[this] at h5;cases h5
    have:listed.getD e.on true=true:=by
     rw[Array.getD_eq_getD_getElem?] at h5 ⊢
     have:listed[e.on]?=some listed[e.on]:=by simp[hs,Js]
     rw[this] at h5 ⊢;exact h5
    exact(hl _ Js).1 this
   rintro⟨h1,h2,h3⟩
   refine⟨h1,?_⟩
   have hf':listed.getD i true=false:=by
    cases hh:listed.getD i true with
    |false=>rfl
    |true=>exact absurd ((hl i h1).1 hh) h2
   rw[hf']
   have ho:ops[i]?=some ops[i]:=by simp[h1]
   rw[ho]
   simp only[Bool.not_false,Bool.true_and,Option.map_some,Option.getD_some,Array.all_eq_true']
   intro e he
   cases hb:Region.binds .any e with
   |false=>rfl
   |true=>
    have hj:e.on∈acc:=h3 _ (by simp only[bG,ho];exact C4 (Array.mem_toList_iff.2 he) hb)
    have Js:=bO _ hj
    have h4:=(hl _ Js).2 hj
    rw[Array.getD_eq_getD_getElem?] at h4 ⊢
    have:listed[e.on]?=some listed[e.on]:=by simp[hs,Js]
    rw[this] at h4 ⊢
    simpa using h4
  have hrn:rs≠[]:=by
   obtain⟨i,hi,rT⟩:=cF
   have atN:∃i,i <ops.size∧i∉acc∧∀j,j <i→j∈acc:=by
    have:∀m i,i≤m→i <ops.size→i∉acc→∃i,i <ops.size∧i∉acc∧∀j,j <i→j∈acc:=by
     intro m
     induction m with
     |zero=>intro i h1 h2 h3;exact⟨i,h2,h3,fun j hj=>by omega⟩
     |succ m ihm=>
      intro i h1 h2 h3
      by_cases hex:∃j,j <i∧j∉acc
      ·obtain⟨j,hj,hnj⟩:=hex
       exact ihm j (by omega) (by omega) hnj
      refine⟨i,h2,h3,fun j hj=>?_⟩
      apply Classical.byContradiction
      intro hc
      exact hex ⟨j,hj,hc⟩
    exact this i i (Nat.le_refl _) hi rT
   obtain⟨i,h1,h2,h3⟩:=atN
   have:i∈rs:=(fM i).2 ⟨h1,h2,fun j hj=>by
    have:=(List.all_eq_true.1 hd) i (List.mem_range.2 h1)
    have:=(List.all_eq_true.1 this) j hj
    exact h3 j (by simpa [Nat.blt_eq] using this)⟩
   intro he;rw[he] at this;cases this
  have aB4:0 <rs.length:=List.length_pos_iff.2 hrn
  have aOx:=Nat.mod_lt t aB4
  have lX:rs[t % rs.length]?=some rs[t % rs.length]:=by simp[aOx]
  rw[lX]
  simp only
  generalize hi:rs[t % rs.length]=i
  have hir:i∈rs:=by rw[←hi];exact List.getElem_mem _
  obtain⟨h1,h2,h3⟩:=(fM i).1 hir
  obtain⟨l,OJ,y6⟩:=ih (t / rs.length) (listed.setIfInBounds i true) (i::acc) (by simpa using hs) (List.nodup_cons.2 ⟨h2,hn⟩)
   (fun j hj=>by rcases List.mem_cons.1 hj with rfl|hj;exact h1;exact bO j hj)
   (fun j hj=>by
    rw[Array.getD_eq_getD_getElem?,Array.getElem?_setIfInBounds]
    by_cases e:i=j
    ·subst e;simp[hs,h1]
    have:=hl j hj
    rw[Array.getD_eq_getD_getElem?] at this
    simp only[e,if_false,this,List.mem_cons]
    constructor
    ·exact .inr
    rintro(h|h)
    ·exact absurd h.symm e
    exact h)
   (by simp;omega)
  exact⟨i::l,by rw[OJ];simp,h1,h2,h3,y6⟩
theorem BB{ops:Array Oper}(hd:AX ops=true)(t:Nat):Lin ops [] (Region.schedule true ops t):=by
 have:Region.schedule true ops t=Region.linearise .any ops t:=by simp[Region.schedule]
 rw[this]
 obtain⟨l,h1,h2⟩:=ar9 ops hd ops.size t (Array.replicate ops.size false) [] (by simp) (by simp) (by simp) (fun i hi=>by simp[Array.getD_eq_getD_getElem?,hi]) (by simp)
 unfold Region.linearise
 rw[h1];simpa using h2
def aQ(ops:Array Oper)(i:Nat):Option Tmp:=(ops[i]?).bind (·.dst)
def ki(ops:Array Oper)(base:Env):List (Nat×Value)→Env
 | []=>base
 | (i,v)::r=>upd (aQ ops i) v (ki ops base r)
def bC:Nat→List Nat→Bool
 |_,[]=>false
 |i,x::l=>Nat.beq i x||bC i l
theorem aM:∀ {l:List Nat},bC i l=true↔i∈l
 | []=>by simp[bC]
 |x::l=>by
  simp only[bC,Bool.or_eq_true,List.mem_cons,aM (l:=l),Nat.beq_eq]
def bX(ops:Array Oper)(base:Env)(j:Nat):List (Nat×Value)→Env
 | []=>base.filter fun x=> !((List.range ops.size).any fun i=>aQ ops i==some x.1&& !bC j (bG ops i))
 | (i,v)::r=>bif bC i (bG ops j) then upd (aQ ops i) v (bX ops base j r) else bX ops base j r
def ay:List (Nat×Value)→List Nat
 | []=>[]
 | (i,_)::r=>i::ay r
theorem aT:∀ {l:List (Nat×Value)},i∈ay l↔∃v,(i,v)∈l
 | []=>by simp[ay]
 | (j,w)::r=>by
  simp only[ay,List.mem_cons,aT (l:=r),Prod.mk.injEq]
  constructor
  ·rintro(rfl| ⟨v,hv⟩)
   ·exact⟨w,.inl ⟨rfl,rfl⟩⟩
   exact⟨v,.inr hv⟩
  rintro⟨v,⟨rfl,_⟩|hv⟩
  ·exact .inl rfl
  exact .inr ⟨v,hv⟩
def fU(ops:Array Oper):Bool:=
 (List.range ops.size).all fun i=>(List.range ops.size).all fun j=>Nat.beq i j||(match aQ ops i,aQ ops j with|some a,some b=> !Nat.beq a b|_,_=>true)
section any
variable {P:Program} {C:Class} {fn:FuncId} {aF:Option Nat} {Q:Post} {s:St} {n:Nat} {D:List Deferred} {ops:Array Oper} {base:Env}
def eY(C:Class)(fn:FuncId)(aF:Option Nat)(ops:Array Oper)(n:Nat)(D:List Deferred)(i:Nat)(v:Value)(e:Env)(s:St):Prop:=
 ∀s',Ext s s'→∀rest todo Q,ak C fn aF ops todo Q (A n (upd (aQ ops i) v (e++rest)) D) s'→ak C fn aF ops (i::todo) Q (A n (e++rest) D) s'
structure Fits(ops:Array Oper)(base:Env)(Pl:List (Nat×Value))(X:List Nat)(env:Env):Prop where
 done:∀i v,(i,v)∈Pl→i∈X→∀d,aQ ops i=some d→get env d=v
 old:∀t,(∀i∈X,aQ ops i≠some t)→get env t=get base t
 cl:∀i∈X,i <ops.size∧∀j∈bG ops i,j∈X
def uU(C:Class)(fn:FuncId)(aF:Option Nat)(ops:Array Oper)(n:Nat)(D:List Deferred)(base:Env)(Pl:List (Nat×Value))(Sl:List (Nat×Value))(Q:Post)(s:St):Prop:=
 (∀i v,(i,v)∈Sl→eY C fn aF ops n D i v (bX ops base i Pl) s)→∀X l env,(∀i∈X,i∈ay Pl)→(∀i v,(i,v)∈Pl→i∉X→(i,v)∈Sl)→Lin ops X l→Fits ops base Pl X env→
  ak C fn aF ops l Q (A n env D) s
def fV(l k:List Nat):Bool:=l.all fun j=>bC j k
theorem cg{l k:List Nat}:fV l k=true↔∀j∈l,j∈k:=by
 simp only[fV,List.all_eq_true,aM]
theorem ya(h:fU ops=true)(hi:i <ops.size)(hj:j <ops.size)(cF:i≠j){a b:Tmp}(ha:aQ ops i=some a)(hb:aQ ops j=some b):a≠b:=by
 have h1:=(List.all_eq_true.1 h) i (List.mem_range.2 hi)
 have h2:=(List.all_eq_true.1 h1) j (List.mem_range.2 hj)
 rw[ha,hb] at h2
 have:Nat.beq i j=false:=by
  cases hb:Nat.beq i j with
  |false=>rfl
  |true=>exact absurd (Nat.eq_of_beq_eq_true hb) cF
 rw[this] at h2
 intro e;subst e
 simp at h2
theorem AW(h:aQ ops i=some d):i <ops.size:=by
 apply Classical.byContradiction
 intro hc
 simp[aQ,Array.getElem?_eq_none (show ops.size≤i by omega)] at h
theorem xP{X:List Nat}(hf:Fits ops base Pl X env)(j0:Nat)(Jw:∀j∈bG ops j0,j∈X)(hj0:j0∉X):∃rest,A n env D=A n (bX ops base j0 Pl++rest) D:=by
 have key:∀Pl',(∀x∈Pl',x∈Pl)→∀t,((bX ops base j0 Pl').any fun x=>x.1==t)=true→get (bX ops base j0 Pl') t=get env t:=by
  intro Pl'
  induction Pl' with
  |nil=>
   intro _ t ht
   simp only[bX] at ht ⊢
   obtain⟨x,hx,hk⟩:=List.any_eq_true.1 ht
   have hk:x.1=t:=by simpa using hk
   rw[List.mem_filter] at hx
   have tL:∀i,i <ops.size→aQ ops i=some t→bC j0 (bG ops i)=true:=by
    intro i hi hd
    have h2:=hx.2
    rw[Bool.not_eq_true'] at h2
    have h3:=(List.any_eq_false.1 h2) i (List.mem_range.2 hi)
    rw[hd,hk] at h3
    simpa using h3
   rw[hf.old t fun i hi hd=>hj0 ((hf.cl i hi).2 j0 (aM.1 (tL i (hf.cl i hi).1 hd)))]
   have y7:∀(b:Env) (p:Nat×Value→Bool),(∀v,p (t,v)=true)→get (b.filter p) t=get b t:=by
    intro b p hp
    induction b with
    |nil=>rfl
    |cons y b ih=>
     rcases y with ⟨k,v⟩
     by_cases e:k=t
     ·subst e;simp[List.filter_cons,hp,cT]
     simp only[List.filter_cons]
     split
     ·simp only[cT,e,if_false,ih]
     simp only[cT,e,if_false,ih]
   refine y7 base _ fun v=>?_
   simp only[Bool.not_eq_true',List.any_eq_false,List.mem_range]
   intro i hi
   have:=tL i hi
   simp only[Bool.and_eq_true,beq_iff_eq,Bool.not_eq_true',not_and,Bool.not_eq_false]
   exact this
  |cons x Pl' ih=>
   intro ib t ht
   rcases x with ⟨i,v⟩
   simp only[bX] at ht ⊢
   cases hm:bC i (bG ops j0) with
   |false=>rw[hm] at ht;simp only[cond_false] at ht ⊢;exact ih (fun x hx=>ib x (by simp[hx])) t ht
   |true=>
    rw[hm] at ht
    simp only[cond_true] at ht ⊢
    cases hd:aQ ops i with
    |none=>rw[hd] at ht;simp only[upd] at ht ⊢;exact ih (fun x hx=>ib x (by simp[hx])) t ht
    |some d=>
     rw[hd] at ht
     simp only[upd] at ht ⊢
     rw[cT]
     by_cases e:d=t
     ·subst e
      rw[if_pos rfl]
      exact(hf.done i v (ib _ (by simp)) (Jw i (aM.1 hm)) d hd).symm
     rw[if_neg e]
     refine ih (fun x hx=>ib x (by simp[hx])) t ?_
     simpa [e] using ht
 refine⟨env,?_⟩
 simp only[A,Act.mk.injEq,and_true]
 congr 1
 funext i
 rw[get_append]
 split
 ·rename_i ha
  exact(key Pl (fun _ h=>h) _ ha).symm
 rfl
theorem uJ{X:List Nat}(nE:fU ops=true)(hf:Fits ops base Pl X env)(hi:i <ops.size)(hx:i∉X)(hdp:∀j∈bG ops i,j∈X)(hv:∀w,(i,w)∈Pl→w=v):
 Fits ops base Pl (i::X) (upd (aQ ops i) v env):=by
 refine⟨fun j w hj hjx d hd=>?_,fun t ht=>?_,fun j hj=>?_⟩
 ·rcases List.mem_cons.1 hjx with rfl|hjx
  ·rw[hd];simp only[upd,cT,if_true];exact(hv w hj).symm
  cases hdi:aQ ops i with
  |none=>simp only[upd];exact hf.done j w hj hjx d hd
  |some d'=>
   have cF:d'≠d:=ya nE hi (AW hd) (by intro e;subst e;exact hx hjx) hdi hd
   simp only[upd,cT,if_neg cF]
   exact hf.done j w hj hjx d hd
 ·cases hdi:aQ ops i with
  |none=>simp only[upd];exact hf.old t fun j hj=>ht j (List.mem_cons_of_mem _ hj)
  |some d'=>
   have cF:d'≠t:=by intro e;subst e;exact ht i List.mem_cons_self hdi
   simp only[upd,cT,if_neg cF]
   exact hf.old t fun j hj=>ht j (List.mem_cons_of_mem _ hj)
 rcases List.mem_cons.1 hj with rfl|hj
 ·exact⟨hi,fun k hk=>List.mem_cons_of_mem _ (hdp k hk)⟩
 exact⟨(hf.cl j hj).1,fun k hk=>List.mem_cons_of_mem _ ((hf.cl j hj).2 k hk)⟩
theorem Dv{X:List Nat}(hf:Fits ops base Pl X env)(hx:i∉X):Fits ops base ((i,v)::Pl) X env:=
 ⟨fun j w hj hjx d hd=>by
  rcases List.mem_cons.1 hj with hj|hj
  ·cases hj;exact absurd hjx hx
  exact hf.done j w hj hjx d hd,hf.old,hf.cl⟩
theorem D7{mj:Env}(h:A n env D=A n mj D)(d:Option Tmp)(v:Value):A n (upd d v env) D=A n (upd d v mj) D:=by
 rw[←bI,←bI,h]
theorem di(h:i∉bG ops j):bX ops base j ((i,v)::Pl)=bX ops base j Pl:=by
 simp only[bX]
 cases hm:bC i (bG ops j) with
 |false=>rfl
 |true=>exact absurd (aM.1 hm) h
theorem eY.ext(h:eY C fn aF ops n D i v e s)(he:Ext s s'):eY C fn aF ops n D i v e s':=
 fun s'' h2=>h s'' (he.trans h2)
def qd(ops:Array Oper)(ks:List Nat):Bool:=ks.all fun i=>fV (bG ops i) ks
def nodupB:List Nat→Bool
 | []=>true
 |i::l=> !bC i l&&nodupB l
theorem Ir{Sl:List (Nat×Value)}(i:Nat)(hn:bC i (ay Pl)=false)(hk:fV (bG ops i) (ay Pl)=true)(iU:qd ops (ay Pl)=true)(hs:fV (ay Sl) (ay Pl)=true)
 (bE:eY C fn aF ops n D i v (bX ops base i Pl) s)(h:uU C fn aF ops n D base ((i,v)::Pl) ((i,v)::Sl) Q s):uU C fn aF ops n D base Pl Sl Q s:=by
 have rT:i∉ay Pl:=fun hm=>by rw[aM.2 hm] at hn;cases hn
 intro hSl X l env hX hl qf hf
 have Ff:i∉X:=fun hm=>rT (hX i hm)
 have IU:∀j,j∈ay Pl→i∉bG ops j:=by
  intro j hj hm
  have:=(List.all_eq_true.1 iU) j hj
  exact rT (cg.1 this i hm)
 refine h (fun j w hj=>?_) X l env (fun j hj=>List.mem_cons_of_mem _ (hX j hj)) (fun j w hj hjx=>?_) qf (Dv hf Ff)
 ·rcases List.mem_cons.1 hj with hj|hj
  ·cases hj
   rw[di (fun hm=>rT (cg.1 hk i hm))];exact bE
  rw[di (IU j (cg.1 hs j (aT.2 ⟨w,hj⟩)))];exact hSl j w hj
 rcases List.mem_cons.1 hj with hj|hj
 ·cases hj;simp
 exact List.mem_cons_of_mem _ (hl j w hj hjx)
def pending(ops:Array Oper)(i:Nat)(Sl:List (Nat×Value)):List (Nat×Value):=Sl.filter fun x=> !bC x.1 (bG ops i)
theorem ah6(hC:∀main T,C main T→Closed P main T){Sl:List (Nat×Value)}(nE:fU ops=true)(gX:nodupB (ay Pl)=true)(fP:fV (List.range ops.size) (ay Pl)=true)(bO:fV (ay Pl) (List.range ops.size)=true)(h:Q .normal (A n (ki ops base Pl) D) s):uU C fn aF ops n D base Pl Sl Q s:=by
 intro hSl X l
 have Hg:∀(l:List (Nat×Value)),nodupB (ay l)=true→∀j v w,(j,v)∈l→(j,w)∈l→w=v:=by
  intro l
  induction l with
  |nil=>intro _ j v w h;cases h
  |cons x l ih=>
   rcases x with ⟨k,u⟩
   intro hb j v w h1 h2
   simp only[ay,nodupB,Bool.and_eq_true,Bool.not_eq_true'] at hb
   have hk:k∉ay l:=fun hm=>by rw[aM.2 hm] at hb;cases hb.1
   rcases List.mem_cons.1 h1 with h1|h1<;>rcases List.mem_cons.1 h2 with h2|h2
   ·cases h1;cases h2;rfl
   ·cases h1;exact absurd (aT.2 ⟨_,h2⟩) hk
   ·cases h2;exact absurd (aT.2 ⟨_,h1⟩) hk
   exact ih hb.2 j v w h1 h2
 have Ri:∀(l:List (Nat×Value)),(∀j∈ay l,j <ops.size)→nodupB (ay l)=true→(∀i v,(i,v)∈l→∀d,aQ ops i=some d→get (ki ops base l) d=v)∧(∀t,(∀i∈ay l,aQ ops i≠some t)→get (ki ops base l) t=get base t):=by
  intro l
  induction l with
  |nil=>intro _ _;exact⟨fun _ _ h=>((by cases h)),fun _ _=>rfl⟩
  |cons x l ih=>
   rcases x with ⟨k,u⟩
   intro bO hb
   simp only[ay,nodupB,Bool.and_eq_true,Bool.not_eq_true'] at hb
   have hk:k∉ay l:=fun hm=>by rw[aM.2 hm] at hb;cases hb.1
   obtain⟨i1,i2⟩:=ih (fun j hj=>bO j (by simp[ay,hj])) hb.2
   have hk1:k <ops.size:=bO k (by simp[ay])
   refine⟨fun i v hi d hd=>?_,fun t ht=>?_⟩
   ·simp only[ki]
    rcases List.mem_cons.1 hi with hi|hi
    ·cases hi;rw[hd];simp only[upd,cT,if_true]
    have cF:k≠i:=fun e=>hk (e▸aT.2 ⟨_,hi⟩)
    cases hdk:aQ ops k with
    |none=>simp only[upd];exact i1 i v hi d hd
    |some d'=>simp only[upd,cT,if_neg (ya nE hk1 (AW hd) cF hdk hd)];exact i1 i v hi d hd
   simp only[ki]
   cases hdk:aQ ops k with
   |none=>simp only[upd];exact i2 t fun i hi=>ht i (by simp[ay,hi])
   |some d'=>
    have cF:d'≠t:=fun e=>ht k (by simp[ay]) (by rw[hdk,e])
    simp only[upd,cT,if_neg cF];exact i2 t fun i hi=>ht i (by simp[ay,hi])
 obtain⟨a1,a2⟩:=Ri Pl (fun j hj=>List.mem_range.1 (cg.1 bO j hj)) gX
 induction l generalizing X with
 |nil=>
  intro env hX hl qf hf
  refine vt hC ?_
  have:A n env D=A n (ki ops base Pl) D:=by
   simp only[A,Act.mk.injEq,and_true]
   congr 1
   funext i
   by_cases he:∃j,j <ops.size∧aQ ops j=some i.val
   ·obtain⟨j,hj,hd⟩:=he
    obtain⟨v,hv⟩:=aT.1 (cg.1 fP j (List.mem_range.2 hj))
    rw[hf.done j v hv (qf j hj) _ hd,a1 j v hv _ hd]
   rw[hf.old _ (fun j hj hd=>he ⟨j,(hf.cl j hj).1,hd⟩),a2 _ (fun j hj hd=>he ⟨j,List.mem_range.1 (cg.1 bO j hj),hd⟩)]
  rw[this];exact h
 |cons j l ih=>
  intro env hX hl qf hf
  obtain⟨h1,h2,h3,h4⟩:=qf
  obtain⟨w,hw⟩:=aT.1 (cg.1 fP j (List.mem_range.2 h1))
  obtain⟨rest,hr⟩:=xP (n:=n) (D:=D) hf j h3 h2
  rw[hr]
  refine hSl j w (hl j w hw h2) s (Ext.refl s) rest l Q ?_
  rw[←D7 hr]
  refine ih (j::X) _ (fun k hk=>?_) (fun k u hk Cj=>hl k u hk (fun h=>Cj (List.mem_cons_of_mem _ h))) h4 (uJ nE hf h1 h2 h3 (fun u hu=>Hg Pl gX j w u hw hu))
  rcases List.mem_cons.1 hk with rfl|hk
  ·exact aT.2 ⟨w,hw⟩
  exact hX k hk
def PT:List (Nat×Value)→Nat→Option Value
 | [],_=>none
 | (i,v)::r,j=>bif Nat.beq i j then some v else PT r j
theorem aaY(hC:∀main T,C main T→Closed P main T)(hm:P.follows .mixedOrders=true)(hd:AX ops=true)(h:uU C fn aF ops n D env [] [] Q s):Wp C fn aF (.region id ops true) Q (A n env D) s:=by
 refine wp_region_draw (P:=P) hC fun t=>?_
 rw[hm]
 exact h (fun _ _ h=>((by cases h))) [] _ env (fun _ h=>((by cases h))) (fun _ _ h=>((by cases h))) (BB hd t) ⟨fun _ _ h=>((by cases h)),fun _ _=>rfl,fun _ h=>((by cases h))⟩
end any
def pW(place:Nat→Option (Nat×Nat)):List Value→List (Nat×List Value)→Option (List Value)
 |cs,[]=>some cs
 |cs,(i,vs)::r=>match place i with
  |some (off,size)=>bif Nat.beq vs.length size&&Nat.ble (off+vs.length) cs.length then pW place (dI cs off vs) r else none
  |none=>none
theorem K8(off:Nat):∀(vs:List Value) (k:Nat) (cs:Array Value),off+k+vs.length≤cs.size→
 (vs.zipIdx k).foldl (fun(cs:Array Value) (x:Value×Nat)=>cs.setIfInBounds (off+x.2) x.1) cs=⟨dI cs.toList (off+k) vs⟩
 | [],k,cs,_=>by simp[mC]
 |v::vs,k,cs,h=>by
  simp only[List.length_cons] at h
  simp only[List.zipIdx_cons,List.foldl_cons]
  rw[K8 off vs (k+1) _ (by simp;omega),CW _ _ _ _ (by simp;omega)]
  simp[Nat.add_assoc]
theorem fill_eq(place:Nat→Option (Nat×Nat)):∀(parts:List (Nat×Value)) (cs l:List Value),pW place cs (parts.map fun x=>(x.1,x.2.cells.toList))=some l→Instr.fill place ⟨cs⟩ parts=some ⟨l⟩
 | [],cs,l,h=>by simp[pW] at h;subst h;rfl
 | (i,v)::r,cs,l,h=>by
  simp only[List.map_cons,pW] at h
  simp only[Instr.fill]
  cases hp:place i with
  |none=>rw[hp] at h;cases h
  |some x=>
   rcases x with ⟨off,size⟩
   rw[hp] at h
   simp only at h ⊢
   cases hb:(Nat.beq v.cells.toList.length size&&Nat.ble (off+v.cells.toList.length) cs.length) with
   |false=>rw[hb] at h;cases h
   |true=>
    rw[hb] at h
    simp only[cond_true] at h
    rw[Bool.and_eq_true] at hb
    have h1:v.cells.size=size:=by simpa using Nat.eq_of_beq_eq_true hb.1
    have h2:off+v.cells.size≤cs.length:=by simpa using Nat.le_of_ble_eq_true hb.2
    rw[if_neg (by simp[h1];omega)]
    rw[show v.cells.zipIdx.foldl (fun(cs:Array Value) (x:Value×Nat)=>cs.setIfInBounds (off+x.2) x.1) (⟨cs⟩:Array Value)=⟨dI cs off v.cells.toList⟩ from by
     rw[←Array.foldl_toList,Array.toList_zipIdx]
     have:=K8 off v.cells.toList 0 ⟨cs⟩ (by simpa using h2)
     simpa using this]
    exact fill_eq place r _ l h
def OO(n:Nat)(env:Env):List (Nat×Operand)→Option (List (Nat×Value))
 | []=>some []
 | (i,x)::l=>match bA n env x with
  |some v=>match OO n env l with
   |some r=>some ((i,v)::r)
   |none=>none
  |none=>none
theorem ag7:∀ {xs:List (Nat×Operand)} {l:List (Nat×Value)},OO n env xs=some l→xs.map (fun x=>(x.1,ev n env x.2))=l
 | [],l,h=>by simpa [OO] using h
 | (i,x)::xs,l,h=>by
  simp only[OO] at h
  cases hx:bA n env x with
  |none=>rw[hx] at h;cases h
  |some v=>
   rw[hx] at h
   cases hr:OO n env xs with
   |none=>rw[hr] at h;cases h
   |some r=>rw[hr] at h;simp only[Option.some.injEq] at h;subst h;simp[aL hx,ag7 hr]
def eA:Value→List Value
 | .agg ⟨l⟩=>l
 |v=>[v]
theorem ny(v:Value):eA v=v.cells.toList:=by cases v<;>rfl
def vp:List (Nat×Value)→List (Nat×List Value)
 | []=>[]
 | (i,v)::r=>(i,eA v)::vp r
theorem lR:∀(l:List (Nat×Value)),vp l=l.map fun x=>(x.1,x.2.cells.toList)
 | []=>rfl
 | (i,v)::r=>by simp[vp,ny,lR r]
def dj(z:List Value):Nat→List Value
 |0=>[]
 |n+1=>z++dj z n
theorem jW(z:List Value):∀n,(dj z n).length=n*z.length
 |0=>by simp[dj]
 |n+1=>by simp[dj,jW z n,Nat.add_mul,Nat.add_comm]
theorem F4(z:List Value)(hz:0 <z.length):∀n i,i <n*z.length→(dj z n)[i]?=z[i % z.length]?
 |0,i,h=>by simp at h
 |n+1,i,h=>by
  simp only[dj,List.getElem?_append]
  split
  ·rename_i hl;rw[Nat.mod_eq_of_lt hl]
  rename_i hl
  rw[F4 z hz n (i-z.length) (by rw[Nat.add_mul,Nat.one_mul] at h;omega)]
  rw[show i % z.length=(i-z.length) % z.length from by rw[Nat.mod_eq_sub_mod (by omega)]]
theorem tV(z:List Value)(n:Nat):((Array.range (n*z.length)).map fun i=>(⟨z⟩:Array Value)[i % (⟨z⟩:Array Value).size]!)=⟨dj z n⟩:=by
 apply Array.ext_getElem?
 intro i
 simp only[Array.getElem?_map,Array.getElem?_range]
 by_cases h:i <n*z.length
 ·have hz:0 <z.length:=by
   rcases Nat.eq_zero_or_pos z.length with h0|h0
   ·rw[h0] at h;simp at h
   exact h0
  have hm:i % z.length <z.length:=Nat.mod_lt _ hz
  simp only[h,if_true,Option.map_some]
  have:=F4 z hz n i h
  simp only[List.size_toArray,List.getElem?_toArray]
  rw[this]
  simp[hm,getElem!_pos]
 simp only[h,if_false,Option.map_none]
 simp[jW,List.getElem?_eq_none (show (dj z n).length≤i by rw[jW];omega)]
inductive DV(P:Program):List Field→List (Nat×Nat)→Prop
 |nil:DV P [] []
 |cons {f:Field} {d:TypeDesc} {sz bL:Nat} {z:List Value} {ag:Bool} {fs:List Field} {ps:List (Nat×Nat)} (h:TF P f.type d sz bL z ag) (t:DV P fs ps):DV P (f::fs) ((f.offset,sz)::ps)
theorem pd{P:Program}{Q:α→St→Prop}:∀ {fs:List Field} {ps:List (Nat×Nat)} (_:DV P fs ps) {k:List (Nat×Nat)→Sem α},
 cu P (fs.mapM (fun f=>do pure (f.offset,←sizeOf f.type)) >>= k) s Q E=cu P (k ps) s Q E
 |_,_,.nil,k=>by simp only[List.mapM_nil,aj]
 |_,_,.cons h t,k=>by
  simp only[List.mapM_cons,af,cw h,aj]
  exact pd t
section rules
variable {P:Program} {C:Class} {fn:FuncId} {aF:Option Nat} {Q:Post} {s:St} {n:Nat} {env:Env} {D:List Deferred}
variable {ops:Array Oper} {i:Nat} {rest:List Nat} {dst:Option Tmp} {ty:TypeId} {pos:String} {dG:Array Edge} {g:Option (Nat×Bool)}
variable {T:TypeId} {d:TypeDesc} {sz bL:Nat} {z:List Value} {ag:Bool}
theorem Km(ps:Array (Nat×Operand)){l:List (Nat×Value)}(h:OO n env ps.toList=some l):(ps.map fun x=>(x.1,ev n env x.2)).toList=l:=by
 rw[Array.toList_map];exact ag7 h
theorem MS(hC:∀main T,C main T→Closed P main T){E:TypeId}{m:Nat}{ps:Array (Nat×Operand)}{pv:List (Nat×Value)}{d':TypeDesc}(ho:ops[i]?=some ⟨dst,.buildSlice T m ps,ty,pos,dG,g⟩) (hw:aD ops n env g=true)
 (tf:TF P T (.slice E) sz bL z ag) (jh:TF P E d' iY w7 z' ye) (hz:Nat.beq z'.length iY=true) (hp:OO n env ps.toList=some pv) (hm:Nat.ble (m*iY) 16777216=true) (hf:pW (fun i=>some (i*iY,iY)) (dj z' m) (vp pv)=some l)
 (h:∀b,¬s.knows b→ak C fn aF ops rest Q (A n (upd dst (.slice (some ⟨b,0,none⟩) m m) env) D) ⟨s.ro,(b,.cells ⟨l⟩ E)::s.rw⟩):ak C fn aF ops (i::rest) Q (A n env D) s:=by
 refine cy hC ho hw (by simp) ?_
 have hle:¬m*iY>2^24:=by have:=Nat.le_of_ble_eq_true hm;omega
 have zn:z'.length=iY:=Nat.eq_of_beq_eq_true hz
 rw[lR] at hf
 have h1:=fill_eq _ _ _ _ hf
 have h2:=Km ps hp
 simp only[execOp,Instr.buildSlice,af,a8 tf,cw jh,hle,if_false]
 by_cases h0:m*iY=0
 ·rw[if_pos h0]
  have Nh:((Array.range (m*iY)).map fun i=>(#[]:Array Value)[i % (#[]:Array Value).size]!)=⟨dj z' m⟩:=by
   rw[h0]
   have:dj z' m=[]:=List.eq_nil_of_length_eq_zero (by rw[jW,zn,h0])
   rw[this];simp
  simp only[af,aj]
  rw[Nh,h2,h1]
  simp only[af,gF,aj]
  intro b hb
  have:=h b hb
  rw[←bI] at this
  exact this
 rw[if_neg h0]
 have Nh:((Array.range (m*iY)).map fun i=>(⟨z'⟩:Array Value)[i % (⟨z'⟩:Array Value).size]!)=⟨dj z' m⟩:=by rw[←zn];exact tV z' m
 simp only[af,jY jh,aj,dQ jh,Nh,h2,h1,gF]
 intro b hb
 have:=h b hb
 rw[←bI] at this
 exact this
end rules
def Sl(s:St)(v:Value)(sz:Nat)(enc:α→List Value)(ps:List α):Prop:=
 ∃a b o cap,v= .slice a ps.length cap∧(∀k,k <ps.length→a=some ⟨b,o,none⟩)∧∀i p,ps[i]?=some p→da s b (o+i*sz) sz (enc p)
theorem Sl.nil(s:St)(sz:Nat)(enc:α→List Value)(a:Option Addr)(cap:Nat):Sl s (.slice a 0 cap) sz enc []:=
 ⟨a,0,0,cap,rfl,fun k h=>absurd h (Nat.not_lt_zero k),fun i p hp=>by simp at hp⟩
theorem da.cell{m:Nat}(h:da s b o m vs)(j:Nat)(v:Value)(hj:vs[j]?=some v):Reads s b (o+j) v:=by
 obtain⟨l,t,fz,h1,h2⟩:=h
 exact⟨l,t,fz,h1,by rw[rh];exact(sub_eq _ _ _ _ h2).2 j v hj⟩
theorem da.len{m:Nat}(h:da s b o m vs):vs.length=m:=by
 obtain⟨l,t,fz,h1,h2⟩:=h
 exact(sub_eq _ _ _ _ h2).1
section sem
variable {P:Program} {α:Type} {s:St} {Q:α→St→Prop} {E:Halt→St→Prop}
theorem S5(l:List Value):∀(i:Nat) (acc:Array Value) {k:Array Value→Sem α},(∀(j:Nat) (v:Value),l[j]?=some v→Reads s b (o+i+j) v)→cu P (k (acc++l.toArray)) s Q E→
 cu P (loadCellsFrom ⟨b,o,none⟩ i l.length acc >>= k) s Q E:=by
 induction l with
 |nil=>intro i acc k _ hk;simpa [loadCellsFrom,aj] using hk
 |cons v l ih=>
  intro i acc k h2 hk
  simp only[List.length_cons,loadCellsFrom,af,ee]
  refine xf (h2 0 v rfl)<|ih (i+1) (acc.push v) (fun j x hx=>?_) (by simpa using hk)
  have:=h2 (j+1) x (by simpa using hx)
  rw[show o+(i+1)+j=o+i+(j+1) from by omega];exact this
theorem S4{m:Nat}(hm:l.length=m)(h:∀(j:Nat) (v:Value),l[j]?=some v→Reads s b (o+j) v) {k:Array Value→Sem α} (hk:cu P (k ⟨l⟩) s Q E):cu P (loadCells ⟨b,o,none⟩ m >>= k) s Q E:=by
 subst hm
 exact S5 l 0 #[] (by simpa using h) (by simpa using hk)
end sem
theorem RD{enc:α→List Value}:∀(ps:List α),(∀p∈ps,(enc p).length=sz)→∀(j:Nat) (v:Value),((ps.map enc).flatten)[j]?=some v→∃i p r,ps[i]?=some p∧j=i*sz+r∧(enc p)[r]?=some v
 | [],_,j,v,h=>by simp at h
 |p::ps,hl,j,v,h=>by
  simp only[List.map_cons,List.flatten_cons,List.getElem?_append] at h
  have hp:=hl p (by simp)
  split at h
  ·exact⟨0,p,j,rfl,by simp,h⟩
  rename_i hj
  obtain⟨i,q,r,h1,h2,h3⟩:=RD ps (fun x hx=>hl x (by simp[hx])) _ v h
  refine⟨i+1,q,r,by simpa using h1,?_,h3⟩
  rw[Nat.add_mul,Nat.one_mul];omega
theorem lD{enc:α→List Value}:∀(ps:List α),(∀p∈ps,(enc p).length=sz)→((ps.map enc).flatten).length=ps.length*sz
 | [],_=>by simp
 |p::ps,hl=>by
  have:=lD ps (fun x hx=>hl x (by simp[hx]))
  simp only[List.map_cons,List.flatten_cons,List.length_append,this,hl p (by simp),List.length_cons,Nat.add_mul,Nat.one_mul];omega
theorem Sl.flat{enc:α→List Value}{ps:List α}(h:∀(i:Nat) (p:α),ps[i]?=some p→da s b (o+i*sz) sz (enc p)):
 (∀p∈ps,(enc p).length=sz)∧∀(j:Nat) (v:Value),((ps.map enc).flatten)[j]?=some v→Reads s b (o+j) v:=by
 have hl:∀p∈ps,(enc p).length=sz:=by
  intro p hp
  obtain⟨i,hi⟩:=List.mem_iff_getElem?.1 hp
  exact(h i p hi).len
 refine⟨hl,fun j v hv=>?_⟩
 obtain⟨i,p,r,h1,rfl,h3⟩:=RD ps hl j v hv
 have:=(h i p h1).cell r v h3
 rw[show o+(i*sz+r)=o+i*sz+r from by omega];exact this
def aK(v:Value)(sz:Nat)(T:TypeId)(enc:α→List Value)(ps:List α)(L:List (Nat×Obj)):Prop:=
 (v= .slice none 0 0∧ps=[]∧L=[])∨
 ∃b l cap,v= .slice (some ⟨b,0,none⟩) ps.length cap∧L=[(b,.cells ⟨l⟩ T (0,0))]∧l.length=cap*sz∧ps.length≤cap∧(∀p∈ps,(enc p).length=sz)∧l.take (ps.length*sz)=(ps.map enc).flatten
theorem aK.nil(sz:Nat)(T:TypeId)(enc:α→List Value):aK (.slice none 0 0) sz T enc [] []:= .inl ⟨rfl,rfl,rfl⟩
theorem lg{m:Nat}(h:o+m≤l.length):sub l o m=some ((l.drop o).take m):=by
 have ht:∀(m:Nat) (l:List Value),m≤l.length→kX l m=some (l.take m):=by
  intro m
  induction m with
  |zero=>intro l _;cases l<;>simp[kX]
  |succ m ih=>
   intro l hl
   cases l with
   |nil=>simp at hl
   |cons x l=>simp only[kX,ih l (by simpa using hl),List.take_succ_cons]
 induction o generalizing l with
 |zero=>have:=ht m l (by omega);cases l<;>simpa [sub] using this
 |succ o ih=>
  cases l with
  |nil=>simp at h
  |cons x l=>simp only[sub,List.drop_succ_cons];exact ih (by simp at h;omega)
theorem Du{enc:α→List Value}:∀(ps:List α),(∀p∈ps,(enc p).length=sz)→∀(i:Nat) (p:α),ps[i]?=some p→(((ps.map enc).flatten).drop (i*sz)).take sz=enc p
 | [],_,i,p,h=>by simp at h
 |q::ps,hl,0,p,h=>by
  simp at h;subst h
  have:=hl q (by simp)
  simp[←this]
 |q::ps,hl,i+1,p,h=>by
  have hq:=hl q (by simp)
  simp only[List.map_cons,List.flatten_cons]
  rw[show (i+1)*sz=(enc q).length+i*sz from by rw[hq,Nat.add_mul,Nat.one_mul];omega,←List.drop_drop,List.drop_left]
  exact Du ps (fun x hx=>hl x (by simp[hx])) i p (by simpa using h)
theorem aK.sl{T:TypeId}{enc:α→List Value}{ps:List α}{L:List (Nat×Obj)}(h:aK v sz T enc ps L)(hs:∀x∈L,s.has x.1 x.2):Sl s v sz enc ps:=by
 rcases h with ⟨rfl,rfl,rfl⟩| ⟨b,l,cap,rfl,rfl,h1,h2,h3,h4⟩
 ·exact Sl.nil s sz enc none 0
 refine⟨_,b,0,cap,rfl,fun _ _=>rfl,fun i p hp=>⟨l,T,(0,0),hs (b,.cells ⟨l⟩ T (0,0)) (by simp),?_⟩⟩
 have hi:i <ps.length:=by
  rcases Nat.lt_or_ge i ps.length with h|h
  ·exact h
  rw[List.getElem?_eq_none h] at hp;cases hp
 have hb:i*sz+sz≤ps.length*sz:=by
  have:=Nat.mul_le_mul_right sz hi
  rw[Nat.succ_mul] at this;exact this
 have gV:ps.length*sz≤cap*sz:=Nat.mul_le_mul_right _ h2
 rw[Nat.zero_add,lg (by omega)]
 have h5:=Du ps h3 i p hp
 rw[←h4,List.drop_take,List.take_take] at h5
 rw[←h5,Nat.min_eq_left (by omega)]
def xA(need bL:Nat):Prop:=need≤1048576∧bL≤65536
theorem K0(need:Nat):∀(r c:Nat),c≤2*need+768→Builtin.growBy need r c≤2*need+768
 |0,c,h=>h
 |r+1,c,h=>by
  simp only[Builtin.growBy]
  split
  ·exact h
  exact K0 need r _ (by omega)
theorem GR{need cap:Nat}(h:cap <need):Builtin.nextslicecap need cap≤2*need+768:=by
 simp only[Builtin.nextslicecap]
 split
 ·omega
 split
 ·omega
 exact K0 need 4 cap (by omega)
theorem sr:∀(l:List Value) (o:Nat) (vs:List Value),o+vs.length≤l.length→dI l o vs=l.take o++vs++l.drop (o+vs.length)
 | [],o,vs,h=>by
  simp only[List.length_nil] at h
  have h0:o=0:=by omega
  have h1:vs=[]:=List.eq_nil_of_length_eq_zero (by omega)
  subst h0;subst h1;rfl
 |x::l,0,[],_=>by simp[dI]
 |x::l,o+1,[],_=>by simp[dI]
 |x::l,0,v::vs,h=>by
  have:=sr l 0 vs (by simp only[List.length_cons] at h;omega)
  simp[dI,this]
 |x::l,o+1,v::vs,h=>by
  have:=sr l o (v::vs) (by simp only[List.length_cons] at h ⊢;omega)
  simp only[dI,this,List.take_succ_cons,List.cons_append]
  rw[show o+1+(v::vs).length=(o+(v::vs).length)+1 from by omega,List.drop_succ_cons]
theorem kZ{P:Program}{Q:β→St→Prop}{ti:TypeInfo}(h:P.info? t=some ti){k:TypeInfo→Sem β}:cu P (typeInfo t >>= k) s Q E=cu P (k ti) s Q E:=by
 simp only[typeInfo,af,eZ,h,aj]
theorem ab8{P:Program}{Q:β→St→Prop}{q:Question}{k:Nat→Sem β}(hq:q.forced=false)(h:∀n,cu P (k (q.cut n)) s Q E):cu P (choose q >>= k) s Q E:=by
 show (if q.forced=true then _ else _)
 rw[if_neg (by rw[hq];simp)]
 exact h
theorem JZ{P:Program}{Q:β→St→Prop}{q:Question}{k:Nat→Sem β}(hq:q.forced=false):cu P (choose q >>= k) s Q E=∀n,cu P (k (q.cut n)) s Q E:=by
 show (if q.forced=true then _ else _)=_
 rw[if_neg (by rw[hq];simp)]
 rfl
theorem oF{P:Program}{Q:β→St→Prop}{m:Nat}{k:Unit→Sem β}(h:cu P (k ()) s Q E):cu P (askRoom m >>= k) s Q E:=by
 unfold askRoom
 split
 ·exact⟨rfl,h⟩
 exact h
section rules
variable {P:Program} {C:Class} {fn:FuncId} {aF:Option Nat} {Q:Post} {s:St} {n:Nat} {env:Env} {D:List Deferred}
variable {ops:Array Oper} {i:Nat} {rest:List Nat} {dst:Option Tmp} {ty:TypeId} {pos:String} {dG:Array Edge} {g:Option (Nat×Bool)}
variable {T:TypeId} {d:TypeDesc} {sz bL:Nat} {z:List Value} {ag:Bool}
theorem u6{Q:β→St→Prop}{enc:α→List Value}{ps:List α}(h:Sl s v sz enc ps){k:Array Value→Sem β}(hk:cu P (k ⟨(ps.map enc).flatten⟩) s Q E):cu P (Builtin.firstCells sz ps.length v >>= k) s Q E:=by
 obtain⟨a,b,o,cap,rfl,ha,hr⟩:=h
 obtain⟨hl,hf⟩:=Sl.flat hr
 cases ps with
 |nil=>
  cases a with
  |none=>simpa [Builtin.firstCells,aj] using hk
  |some a=>
   simp only[Builtin.firstCells,List.length_nil,Nat.zero_mul,loadCells,loadCellsFrom,aj]
   simpa using hk
 |cons p ps=>
  have:=ha 0 (by simp)
  subst this
  simp only[Builtin.firstCells]
  exact S4 (by rw[lD _ hl]) hf hk
theorem Qe(hC:∀main T,C main T→Closed P main T){E:TypeId}{w:Value}{enc:α→List Value}{ps qs:List α}{L pre:List (Nat×Obj)}{d':TypeDesc}{E2:TypeId}{sz2 A9:Nat}{z2:List Value}{ag2:Bool}{U:TypeId}
 (ho:ops[i]?=some ⟨dst,.call ⟨.builtin .append,#[x,y],#[T,U]⟩,ty,pos,dG,g⟩) (hw:aD ops n env g=true) (tf:TF P T (.slice E) sz bL z ag) (SA:TF P U (.slice E2) sz2 A9 z2 ag2) (jh:TF P E d' iY w7 z' ye) (hz:z'.length=iY)
 (hx:bA n env x=some v) (hy:bA n env y=some w) (gK:aK v iY E enc ps L) (IK:Sl s w iY enc qs) (hs:s.rw=pre++(L++R)) (hq:∀p∈qs,∀c∈enc p,single c=true) (hb:xA (ps.length+qs.length) w7)
 (h:∀v' L',aK v' iY E enc (ps++qs) L'→ak C fn aF ops rest Q (A n (upd dst v' env) D) ⟨s.ro,pre++(L'++R)⟩):ak C fn aF ops (i::rest) Q (A n env D) s:=by
 refine cy hC ho hw (by simp) ?_
 have U1:∀s s':St,s.le s'→∀a,ak C fn aF ops rest Q a s→ak C fn aF ops rest Q a s':=
  fun s s' hl a ho main T hT b k cs h1 h2 h3 h4=>(hC main T hT).mono _ _ _ hl (ho main T hT b k cs h1 h2 h3 h4)
 obtain⟨hql,_⟩:=(show (∀p∈qs,(enc p).length=iY)∧True from by
  obtain⟨a,b,o,cap,rfl,ha,hr⟩:=IK
  exact⟨(Sl.flat hr).1,trivial⟩)
 have uG:((qs.map enc).flatten).length=qs.length*iY:=lD qs hql
 have KT:∀ajE,ajE <ps.length+qs.length→¬(Builtin.nextslicecap (ps.length+qs.length) ajE*w7>2^48):=by
  intro ajE bO
  have h1:=GR bO
  obtain⟨h2,h3⟩:=hb
  have h4:Builtin.nextslicecap (ps.length+qs.length) ajE≤2097920:=by omega
  have h5:=Nat.mul_le_mul h4 h3
  have:(2097920*65536:Nat)≤2^48:=by decide
  omega
 have hlen:∀w',Sl s w' iY enc qs→∃a cap,w'= .slice a qs.length cap:=by
  rintro w' ⟨a,b,o,cap,rfl,_,_⟩;exact⟨a,cap,rfl⟩
 obtain⟨wa,aWR,hwe⟩:=hlen w IK
 simp only[execOp,resolve,invoke,builtin,Builtin.append_,List.map_toArray,List.map_cons,List.map_nil,aL hx,aL hy,aj,af,List.getElem?_toArray,List.getElem?_cons_zero,List.getElem?_cons_succ,a8 tf]
 have hv:∃a cap,v= .slice a ps.length cap:=by
  rcases gK with ⟨rfl,rfl,_⟩| ⟨b,l,cap,rfl,_⟩
  ·exact⟨_,_,rfl⟩
  exact⟨_,_,rfl⟩
 obtain⟨va,xc,hve⟩:=hv
 have BH:∀ {β:Type} (k:Nat→Sem β) (Q:β→St→Prop) (E:Halt→St→Prop),cu P (Builtin.lenOf w >>= k) s Q E=cu P (k qs.length) s Q E:=by
  intro β k Q E;rw[hwe];rfl
 simp only[hve,af,cw jh,a8 SA,aj,Bool.false_eq_true,if_false,Bool.not_false,if_true,BH]
 obtain⟨ti,dP,aNx,Nk,_⟩:=jh.info
 by_cases gJ:ps.length+qs.length≤xc
 ·rw[if_pos gJ]
  simp only[af]
  refine u6 IK ?_
  rcases gK with ⟨hv0,rfl,rfl⟩| ⟨b,l,cap,hv1,rfl,h1,h2,h3,h4⟩
  ·rw[hv0] at hve
   cases hve
   have SJ:qs=[]:=List.eq_nil_of_length_eq_zero (by simp only[List.length_nil] at gJ;omega)
   subst SJ
   simp only[aj]
   have:=h (.slice none 0 0) [] (aK.nil iY E enc)
   rw[←bI] at this
   rcases s with ⟨ro,rw_⟩
   simp only at hs
   subst hs
   exact this
  rw[hv1] at hve
  cases hve
  simp only[af,ee,Nat.zero_add]
  have jP:ps.length*iY+((qs.map enc).flatten).length≤l.length:=by
   rw[uG,h1,←Nat.add_mul];exact Nat.mul_le_mul_right _ gJ
  refine nI (L:=pre) (R:=R) ((qs.map enc).flatten) 0 l s (by rw[hs];rfl) (by omega) (fun c hc=>?_) ?_
  ·obtain⟨e,he,hce⟩:=List.mem_flatten.1 hc
   obtain⟨p,hp,rfl⟩:=List.mem_map.1 he
   exact hq p hp c hce
  have:=h (.slice (some ⟨b,0,none⟩) (ps++qs).length xc) [(b,.cells ⟨dI l (ps.length*iY) ((qs.map enc).flatten)⟩ E (0,0))]
   (.inr ⟨b,_,xc,rfl,rfl,by rw[mD,h1],by simpa using gJ,fun p hp=>(List.mem_append.1 hp).elim (h3 p) (hql p),by
    rw[sr _ _ _ jP,List.length_append,Nat.add_mul,List.append_assoc]
    rw[List.map_append,List.flatten_append,←h4]
    rw[show ps.length*iY+qs.length*iY=(l.take (ps.length*iY)).length+qs.length*iY from by rw[List.length_take];omega]
    rw[List.take_append,List.take_of_length_le (by omega)]
    congr 1
    rw[show (l.take (ps.length*iY)).length+qs.length*iY-(l.take (ps.length*iY)).length=((qs.map enc).flatten).length from by rw[uG];omega,List.take_left]⟩)
  rw[←bI] at this
  simp only[aj,Nat.add_zero]
  rw[List.length_append] at this
  exact this
 rw[if_neg gJ]
 have bO:xc <ps.length+qs.length:=by omega
 have atE:¬(((ps.length+qs.length:Nat):Int)>IntKind.i64.max):=by
  have:IntKind.i64.max=9223372036854775807:=by decide
  obtain⟨h2,_⟩:=hb
  rw[this];omega
 have hc:=KT xc bO
 simp only[af,kZ dP,atE,false_and,if_false]
 rw[Nk,if_neg hc]
 simp only[af]
 rw[JZ rfl]
 intro tp
 generalize ek:Question.cut (.appendCap (ps.length+qs.length) xc E) tp=gq
 have Rb:ps.length+qs.length≤gq:=by rw[←ek];simp[Question.cut]
 simp only[af]
 rw[kZ dP]
 simp only[af]
 refine oF ?_
 simp only[af]
 have hold:Sl s (.slice va ps.length xc) iY enc ps:=by
  rw[←hve]
  refine gK.sl fun x hx=> .inr ?_
  rw[hs];simp[hx]
 refine u6 hold ?_
 simp only[af]
 refine u6 IK ?_
 simp only[af,jY jh,dQ jh,Builtin.zeroCells]
 have Nh:((Array.range ((gq-(ps.length+qs.length))*(⟨z'⟩:Array Value).size)).map fun i=>(⟨z'⟩:Array Value)[i % (⟨z'⟩:Array Value).size]!)=⟨dj z' (gq-(ps.length+qs.length))⟩:=tV z' _
 rw[Nh]
 simp only[gF,aj]
 intro b' ju
 have xb:∀p∈ps,(enc p).length=iY:=by
  rcases gK with ⟨_,rfl,_⟩| ⟨_,_,_,_,_,_,_,h3,_⟩
  ·intro p hp;cases hp
  exact h3
 have Nm:=lD ps xb
 have aB8:aK (.slice (some ⟨b',0,none⟩) (ps++qs).length gq) iY E enc (ps++qs) [(b',.cells ⟨(ps.map enc).flatten++(qs.map enc).flatten++dj z' (gq-(ps.length+qs.length))⟩ E (0,0))]:=
  .inr ⟨b',_,gq,rfl,rfl,by
   simp only[List.length_append,Nm,uG,jW,hz,←Nat.add_mul]
   congr 1;omega,by simpa using Rb,fun p hp=>(List.mem_append.1 hp).elim (xb p) (hql p),by
   rw[List.map_append,List.flatten_append,List.length_append,Nat.add_mul,←Nm,←uG,←List.length_append,List.take_left]⟩
 have:=h _ _ aB8
 rw[←bI,List.length_append] at this
 have aus:((⟨(ps.map enc).flatten⟩:Array Value)++⟨(qs.map enc).flatten⟩++⟨dj z' (gq-(ps.length+qs.length))⟩)=⟨(ps.map enc).flatten++(qs.map enc).flatten++dj z' (gq-(ps.length+qs.length))⟩:=by simp
 rw[aus]
 refine U1 ⟨s.ro,pre++([(b',.cells ⟨(ps.map enc).flatten++(qs.map enc).flatten++dj z' (gq-(ps.length+qs.length))⟩ E (0,0))]++R)⟩ _ ?_ _ ?_
 ·refine⟨L,?_,fun _ _ h=> .inl h⟩
  rw[hs]
  rw[List.append_assoc pre,List.append_assoc [_] R L]
  simp only[List.cons_append,List.nil_append]
  refine List.Perm.trans ?_ List.perm_middle.symm
  refine List.Perm.cons _<|List.Perm.append_left pre<|List.perm_append_comm
 simpa using this
end rules
section rules
variable {P:Program} {C:Class} {fn:FuncId} {aF:Option Nat} {Q:Post} {s:St} {n:Nat} {env:Env} {D:List Deferred}
variable {ops:Array Oper} {i:Nat} {rest:List Nat} {dst:Option Tmp} {ty:TypeId} {pos:String} {dG:Array Edge} {g:Option (Nat×Bool)}
variable {T:TypeId} {d:TypeDesc} {sz bL:Nat} {z:List Value} {ag:Bool}
def EqV(P:Program)(t:TypeId)(x y:Value)(r:Bool):Prop:=
 ∀(s:St) (k:Bool→Sem Next) (Q:Next→St→Prop) (E:Halt→St→Prop),cu P (Op.equal t x y >>= k) s Q E=cu P (k r) s Q E
def n6(P:Program)(t:TypeId):Prop:=P.eqGuardType P.depth t=false
theorem akq(hC:∀main T,C main T→Closed P main T){T:TypeId}{m:List Value}(ho:ops[i]?=some ⟨dst,.binOp .eql T x y T',ty,pos,dG,g⟩) (hw:aD ops n env g=true)
 (hx:bA n env x=some (.agg ⟨l⟩)) (hy:bA n env y=some (.agg ⟨m⟩)) (hg:n6 P T) (he:EqV P T (.agg ⟨l⟩) (.agg ⟨m⟩) r) (h:ak C fn aF ops rest Q (A n (upd dst (.bool r) env) D) s):ak C fn aF ops (i::rest) Q (A n env D) s:=by
 refine cy hC ho hw (by simp) ?_
 have hg':P.eqGuardType P.depth T=false:=hg
 simp only[execOp,aL hx,aL hy,eqGuard,Bool.not_true,Bool.false_eq_true,if_false,af,eZ,hg',Bool.not_false,if_true,aj,binOp]
 rw[he]
 rw[←bI] at h
 exact h
theorem adW(hC:∀main T,C main T→Closed P main T){T:TypeId}{m:List Value}(ho:ops[i]?=some ⟨dst,.binOp .neq T x y T',ty,pos,dG,g⟩) (hw:aD ops n env g=true)
 (hx:bA n env x=some (.agg ⟨l⟩)) (hy:bA n env y=some (.agg ⟨m⟩)) (hg:n6 P T) (he:EqV P T (.agg ⟨l⟩) (.agg ⟨m⟩) r) (h:ak C fn aF ops rest Q (A n (upd dst (.bool !r) env) D) s):ak C fn aF ops (i::rest) Q (A n env D) s:=by
 refine cy hC ho hw (by simp) ?_
 have hg':P.eqGuardType P.depth T=false:=hg
 simp only[execOp,aL hx,aL hy,eqGuard,Bool.not_true,Bool.false_eq_true,if_false,af,eZ,hg',Bool.not_false,if_true,aj,binOp]
 rw[he]
 rw[←bI] at h
 exact h
def Yw(P:Program)(dep:Nat)(t:TypeId)(x y:Value)(r:Bool):Prop:=
 ∀(α:Type) (s:St) (k:Bool→Sem α) (Q:α→St→Prop) (E:Halt→St→Prop),cu P (Op.equalIn dep t x y >>= k) s Q E=cu P (k r) s Q E
theorem jv{k:IntKind}(tf:TF P t (.int k) sz bL z ag)(a b:Int):Yw P (dep+1) t (.int k a) (.int k b) (a==b):=by
 intro α s kk Q E
 simp only[Op.equalIn,af,a8 tf,if_true,aj]
theorem ahf(tf:TF P t .bool sz bL z ag)(a b:Bool):Yw P (dep+1) t (.bool a) (.bool b) (a==b):=by
 intro α s kk Q E
 simp only[Op.equalIn,af,a8 tf,aj]
theorem NQ(tf:TF P t .string sz bL z ag)(a b:ByteArray):Yw P (dep+1) t (.string a) (.string b) (a==b):=by
 intro α s kk Q E
 simp only[Op.equalIn,af,a8 tf,aj]
theorem Mr{d:TypeDesc}(tf:TF P t d sz bL z false)(hv:nth l o=some v){k:Value→Sem α}{Q:α→St→Prop}:cu P (part t ⟨l⟩ o >>= k) s Q E=cu P (k v) s Q E:=by
 rw[rh] at hv
 simp only[part,af,kK tf,Bool.false_eq_true,if_false,List.getElem?_toArray]
 rw[hv]
 simp only[aj]
theorem Mq{d:TypeDesc}(tf:TF P t d sz bL z true){m:List Value}(hv:sub l o sz=some m){k:Value→Sem α}{Q:α→St→Prop}:cu P (part t ⟨l⟩ o >>= k) s Q E=cu P (k (.agg ⟨m⟩)) s Q E:=by
 obtain⟨h1,h2⟩:=sub_eq _ _ _ _ hv
 simp only[part,af,kK tf,if_true,cw tf,aj]
 have:(⟨l⟩:Array Value).extract o (o+sz)=⟨m⟩:=by
  apply Array.ext'
  simp only[Array.toList_extract,List.extract_eq_take_drop]
  apply List.ext_getElem?
  intro j
  rw[List.getElem?_take]
  split
  ·rename_i hj
   rw[List.getElem?_drop]
   have XA:j <m.length:=by omega
   have h3:=h2 j m[j] (by simp[XA])
   rw[h3];simp[XA]
  rename_i hj
  rw[List.getElem?_eq_none (by omega)]
 rw[this]
def Iw(P:Program)(t:TypeId)(l:List Value)(o:Nat)(v:Value):Prop:=
 ∀(α:Type) (s:St) (k:Value→Sem α) (Q:α→St→Prop) (E:Halt→St→Prop),cu P (part t ⟨l⟩ o >>= k) s Q E=cu P (k v) s Q E
theorem dE{d:TypeDesc}(tf:TF P t d sz bL z false)(hv:nth l o=some v):Iw P t l o v:=fun _ _ _ _ _=>Mr tf hv
theorem lq{d:TypeDesc}(tf:TF P t d sz bL z true){m:List Value}(hv:sub l o sz=some m):Iw P t l o (.agg ⟨m⟩):=fun _ _ _ _ _=>Mq tf hv
inductive Cc(P:Program)(dep:Nat)(l m:List Value):List Field→Bool→Prop
 |nil:Cc P dep l m [] true
 |cons {f:Field} {fs:List Field} {v w:Value} {r r':Bool} (hn:f.name≠ "_") (hv:Iw P f.type l f.offset v) (hw:Iw P f.type m f.offset w) (he:Yw P dep f.type v w r) (ht:Cc P dep l m fs r'):Cc P dep l m (f::fs) (r&&r')
theorem kg{fields:Array Field}{m:List Value}(tf:TF P t (.struct fields) sz bL z true)(hs:P.stoodInHeld t=false)(hf:Cc P dep l m fields.toList r):Yw P (dep+1) t (.agg ⟨l⟩) (.agg ⟨m⟩) r:=by
 intro α s k Q E
 simp only[Op.equalIn,af,a8 tf,eZ,hs,Bool.false_eq_true,if_false]
 rw[←Array.forIn_toList]
 generalize fields.toList=fl at hf
 clear tf
 induction hf with
 |nil=>simp only[List.forIn_nil,aj,af,Bool.and_true]
 | @cons f fs v w r r' hn hv hw he ht ih=>
  simp only[List.forIn_cons,hn,ne_eq,not_false_eq_true,if_true,af]
  rw[hv]
  simp only[af]
  rw[hw]
  simp only[af]
  rw[he]
  cases r with
  |false=>simp only[Bool.not_false,if_true,aj,af,Bool.false_and]
  |true=>
   simp only[Bool.not_true,Bool.false_eq_true,if_false,aj,Bool.true_and]
   exact ih
theorem AV{x y:Value}(h:Yw P 10000 t x y r):EqV P t x y r:=fun s k Q E=>h Go.Next s k Q E
end rules
section rules
variable {P:Program} {C:Class} {fn:FuncId} {aF:Option Nat} {Q:Post} {s:St} {n:Nat} {env:Env} {D:List Deferred}
variable {ops:Array Oper} {i:Nat} {rest:List Nat} {dst:Option Tmp} {ty:TypeId} {pos:String} {dG:Array Edge} {g:Option (Nat×Bool)}
variable {T:TypeId} {d:TypeDesc} {sz bL:Nat} {z:List Value} {ag:Bool}
def xv:List Value→Value
 | [x]=>x
 |l=> .tuple ⟨l⟩
inductive Fy(P:Program)(s:St)(n:Nat)(env:Env):List ResultVar→List Value→Prop
 |nil:Fy P s n env [] []
 |tmp {t:Tmp} {v:Value} {rs:List ResultVar} {vs:List Value} (h:bA n env (.tmp t)=some v) (hr:Fy P s n env rs vs):Fy P s n env (.tmp t::rs) (v::vs)
 |agg {t:Tmp} {T:TypeId} {d:TypeDesc} {sz bL:Nat} {z l:List Value} {b o:Nat} {rs:List ResultVar} {vs:List Value} (tf:TF P T d sz bL z true) (h:bA n env (.tmp t)=some (.pointer (some ⟨b,o,none⟩))) (hl:da s b o sz l) (hr:Fy P s n env rs vs):Fy P s n env (.cell t T::rs) (.agg ⟨l⟩::vs)
 |cell {t:Tmp} {T:TypeId} {d:TypeDesc} {sz bL:Nat} {z:List Value} {v:Value} {b o:Nat} {rs:List ResultVar} {vs:List Value} (tf:TF P T d sz bL z false) (h:bA n env (.tmp t)=some (.pointer (some ⟨b,o,none⟩))) (hl:Reads s b o v) (hr:Fy P s n env rs vs):Fy P s n env (.cell t T::rs) (v::vs)
theorem Gj:∀ {rs:List ResultVar} {vs:List Value} (_:Fy P s n env rs vs) {k:List Value→Sem α} {Q:α→St→Prop} {E:Halt→St→Prop},cu P (k vs) s Q E→
 cu P (rs.mapM (fun| .tmp t=>pure ((A n env D).tmps.getD t undef)| .cell a t=>do loadVar t (←asAddr ((A n env D).tmps.getD a undef))) >>= k) s Q E
 |_,_,.nil,k,Q,E,h=>by simpa only[List.mapM_nil,aj] using h
 |_,_,.tmp (t:=t) (v:=v) h hr,k,Q,E,hk=>by
  have hv:(A n env D).tmps.getD t undef=v:=by have:=qA (D:=D) h;rwa[←Array.getD_eq_getD_getElem?] at this
  simp only[List.mapM_cons,af,aj,hv]
  exact Gj hr hk
 |_,_,.agg (t:=t) (l:=l) (b:=b) (o:=o) tf h hl hr,k,Q,E,hk=>by
  have hv:(A n env D).tmps.getD t undef= .pointer (some ⟨b,o,none⟩):=by have:=qA (D:=D) h;rwa[←Array.getD_eq_getD_getElem?] at this
  simp only[List.mapM_cons,af,aj,hv,asAddr,loadVar,kK tf,if_true,cw tf]
  refine jQ hl ?_
  try simp only[af,aj]
  exact Gj hr hk
 |_,_,.cell (t:=t) (v:=v) (b:=b) (o:=o) tf h hl hr,k,Q,E,hk=>by
  have hv:(A n env D).tmps.getD t undef= .pointer (some ⟨b,o,none⟩):=by have:=qA (D:=D) h;rwa[←Array.getD_eq_getD_getElem?] at this
  simp only[List.mapM_cons,af,aj,hv,asAddr,loadVar,kK tf,Bool.false_eq_true,if_false]
  refine xf hl ?_
  try simp only[af,aj]
  exact Gj hr hk
theorem PB{fn:Func}{R:Ending→St→Prop}{e:Exit}{s0:St}{vs:List Value}{v:Value}(he:e= .ret∨e= .normal)(hr:Fy P s n env fn.results.toList vs)(hv:xv vs=v)(hl:s0.le s)(h:R (.returned v) s0):sW P fn R e (A n env []) s:=by
 refine x6 he rfl ?_
 unfold results
 rw[Array.mapM_eq_mapM_toList]
 simp only[map_eq_pure_bind,af,aj]
 refine Gj (D:=[]) hr ?_
 refine⟨s0,hl,?_⟩
 subst hv
 have:(if h:(⟨vs⟩:Array Value).size=1 then (⟨vs⟩:Array Value)[0] else .tuple ⟨vs⟩)=xv vs:=by
  match vs with
  | []=>rfl
  | [x]=>rfl
  |x::y::l=>simp[xv]
 rw[←this] at h
 exact h
end rules
abbrev bz:=Nat→Option (Nat×Nat)
inductive Tr(α:Type) where
 |nil
 |node (v:Option α) (l r:Tr α)
theorem beq_false{a:Nat}(h:a≠b):Nat.beq a b=false:=by
 cases hb:Nat.beq a b with
 |false=>rfl
 |true=>exact absurd (Nat.eq_of_beq_eq_true hb) h
structure cP where
 key:Value
 val:Value
 born:Nat
inductive lN where
 |cells (l:List Value) (t:TypeId)
 |map (es:List cP) (clock:Nat)
 |gi (s:ByteArray) (pos:Nat)
 |mapIter (m:Option Nat) (since:Nat) (seen:List Nat) (Bo:Nat)
 |loop (st:LoopState) (pend:Option Code) (fn n:Nat) (env:Env) (params:Array Tmp) (assign body:Code) (defers:Nat)
 |defer (taken:Bool)
 |Ii (es:List cP)
structure CB where
 ro:Bool
 o:lN
structure Mem where
 t:Tr CB
 next:Nat
theorem agz{rest:Env}{t:Nat}(h:gM e t=some v):gM (e++rest) t=some v:=by
 induction e with
 |nil=>cases h
 |cons x e ih=>
  rcases x with ⟨k,u⟩
  simp only[gM,List.cons_append] at h ⊢
  cases hb:Nat.beq k t with
  |true=>rw[hb] at h;exact h
  |false=>rw[hb] at h;exact ih h
theorem bD{rest:Env}(h:bA n e x=some v):bA n (e++rest) x=some v:=by
 cases x with
 |tmp t=>
  simp only[bA] at h ⊢
  cases hb:Nat.blt t n with
  |true=>rw[hb] at h;exact agz h
  |false=>rw[hb] at h;cases h
 |_=>exact h
theorem yK{rest:Env}:∀ {xs:List Operand} {vs:List Value},ze n e xs=some vs→ze n (e++rest) xs=some vs
 | [],vs,h=>h
 |x::xs,vs,h=>by
  simp only[ze] at h ⊢
  cases hx:bA n e x with
  |none=>rw[hx] at h;cases h
  |some v=>
   rw[hx] at h
   cases hr:ze n e xs with
   |none=>rw[hr] at h;cases h
   |some r=>rw[hr] at h;rw[bD hx,yK hr];exact h
structure TI where
 d:TypeDesc
 size:Nat
 zero:List Value
 agg:Bool
def Nf:TypeDesc→Bool
 | .struct _| .array _ _=>true
 |_=>false
def F5:Bool→Value→Option (List Value)
 |true,.agg ⟨l⟩=>some l
 |true,_=>none
 |false,.agg _=>none
 |false,v=>some [v]
def aY(P:Program)(t:TypeId):Option TI:=
 match P.underlying t with
 |some d=>match P.info? t with
  |some i=>match i.zero with
   |some z=>match F5 (Nf d) z with
    |some l=>some ⟨d,i.size,l,Nf d⟩
    |none=>none
   |none=>none
  |none=>none
 |none=>none
theorem aB{P:Program}{x:TI}(h:aY P t=some x):∃bL,TF P t x.d x.size bL x.zero x.agg:=by
 unfold aY at h
 split at h<;>try (cases h;done)
 rename_i d hd
 split at h<;>try (cases h;done)
 rename_i i hi
 split at h<;>try (cases h;done)
 rename_i z hz
 split at h<;>try (cases h;done)
 rename_i l hl
 cases h
 refine⟨i.bytes,hd,⟨i,hi,rfl,rfl,z,hz,?_,?_⟩,?_⟩
 ·revert hl
  simp only
  cases hb:Nf d
  ·intro hl;cases z<;>simp_all[F5,Value.cells]
  intro hl;cases z<;>simp_all[F5,Value.cells]
  cases hl;rfl
 ·revert hl
  simp only
  cases hb:Nf d
  ·intro hl;cases z<;>simp_all[F5]<;>subst hl<;>rfl
  intro hl;cases z<;>simp_all[F5]
  cases hl;rfl
 cases d<;>rfl
def bN(P:Program):Sem α→Option α
 | .pure a=>some a
 | .program k=>bN P (k P)
 |_=>none
theorem pz{P:Program}:∀ {x:Sem α} {a:α},bN P x=some a→∀ {s:St} {Q:α→St→Prop} {E:Halt→St→Prop},Q a s→cu P x s Q E
 | .pure _,_,h,_,_,_,hq=>by simp only[bN,Option.some.injEq] at h;subst h;exact hq
 | .program k,_,h,_,_,_,hq=>pz (x:=k P) h hq
 | .load ..,_,h,_,_,_,_=>by cases h
 | .store ..,_,h,_,_,_,_=>by cases h
 | .new ..,_,h,_,_,_,_=>by cases h
 | .shape ..,_,h,_,_,_,_=>by cases h
 | .freeze ..,_,h,_,_,_,_=>by cases h
 | .frozen ..,_,h,_,_,_,_=>by cases h
 | .getObj ..,_,h,_,_,_,_=>by cases h
 | .setObj ..,_,h,_,_,_,_=>by cases h
 | .choose ..,_,h,_,_,_,_=>by cases h
 | .sys ..,_,h,_,_,_,_=>by cases h
 | .mark ..,_,h,_,_,_,_=>by cases h
 | .halt ..,_,h,_,_,_,_=>by cases h
def Ev(n:Nat)(e:Env)(f:Operand→Value):Prop:=∀x v,bA n e x=some v→f x=v
theorem Ev.list(h:Ev n e f):∀ {xs:List Operand} {vs:List Value},ze n e xs=some vs→xs.map f=vs
 | [],vs,hx=>by simpa [ze] using hx
 |x::xs,vs,hx=>by
  simp only[ze] at hx
  cases h1:bA n e x with
  |none=>rw[h1] at hx;cases hx
  |some v=>
   rw[h1] at hx
   cases h2:ze n e xs with
   |none=>rw[h2] at hx;cases hx
   |some r=>rw[h2] at hx;simp only[Option.some.injEq] at hx;subst hx;simp[h _ _ h1,Ev.list h h2]
theorem Ev.arr(h:Ev n e f)(hx:ze n e xs.toList=some vs):xs.map f=⟨vs⟩:=by
 have:=h.list hx
 rcases xs with ⟨xs⟩
 simpa using this
def Yields(P:Program)(n:Nat)(e:Env)(o:Oper)(s:St)(v:Value):Prop:=
 ∀s',Ext s s'→∀f,Ev n e f→∀(K:Next→St→Prop) (E:Halt→St→Prop),K (.value v) s'→cu P (execOp f o) s' K E
def GB:Op→Option (List Operand)
 | .binOp _ _ x y _=>some [x,y]
 | .unOp _ _ x=>some [x]
 | .convert _ _ x=>some [x]
 | .index _ x y=>some [x,y]
 | .field _ x _=>some [x]
 | .slice _ x none none none=>some [x]
 | .slice _ x (some a) none none=>some [x,a]
 | .slice _ x none (some a) none=>some [x,a]
 | .slice _ x (some a) (some b) none=>some [x,a,b]
 | .call ⟨.builtin .min,xs,_⟩=>some xs.toList
 | .call ⟨.builtin .max,xs,_⟩=>some xs.toList
 | .typeAssert x _ _ _=>some [x]
 |_=>none
theorem vn{o:Oper}{xs:List Operand}(h:GB o.op=some xs){f g:Operand→Value}(hfg:∀x∈xs,f x=g x):execOp f o=execOp g o:=by
  unfold GB at h
  split at h<;>try (cases h;done)
  all_goals (rename_i heq;simp only[Option.some.injEq] at h;subst h)
  all_goals first
    | (simp[execOp,heq,hfg];done)
    | (simp only[execOp,heq,resolve]
       rename_i xs at_
       have:xs.map f=xs.map g:=by
         apply Array.map_congr_left
         intro a ha;exact hfg a (by simpa using ha)
       rw[this])
theorem Ev.parts(hf:Ev n e f):∀ {xs:List (Nat×Operand)} {l:List (Nat×Value)},OO n e xs=some l→xs.map (fun x=>(x.1,f x.2))=l
 | [],l,h=>by simpa [OO] using h
 | (i,x)::xs,l,h=>by
  simp only[OO] at h
  cases hx:bA n e x with
  |none=>rw[hx] at h;cases h
  |some v=>
   rw[hx] at h
   cases hr:OO n e xs with
   |none=>rw[hr] at h;cases h
   |some r=>rw[hr] at h;simp only[Option.some.injEq] at h;subst h;simp[hf _ _ hx,Ev.parts hf hr]
theorem Ev.xu(hf:Ev n e f){ps:Array (Nat×Operand)}{l:List (Nat×Value)}(h:OO n e ps.toList=some l):(ps.map fun x=>(x.1,f x.2)).toList=l:=by
 rw[Array.toList_map];exact hf.parts h
def yq(P:Program):List Field→Option (List (Nat×Nat))
 | []=>some []
 |f::fs=>match aY P f.type with
  |some ti=>match yq P fs with
   |some r=>some ((f.offset,ti.size)::r)
   |none=>none
  |none=>none
theorem Am{P:Program}:∀ {fs:List Field} {pl:List (Nat×Nat)},yq P fs=some pl→DV P fs pl
 | [],pl,h=>by simp only[yq,Option.some.injEq] at h;subst h;exact .nil
 |f::fs,pl,h=>by
  simp only[yq] at h
  split at h<;>try (cases h;done)
  rename_i ti dP
  split at h<;>try (cases h;done)
  rename_i r hr
  simp only[Option.some.injEq] at h;subst h
  obtain⟨bL,tf⟩:=aB dP
  exact .cons tf (Am hr)
def mR(P:Program)(t:TypeId):Nat:=match P.info? t with|some i=>i.bytes|none=>1000000
theorem cQ{P:Program}{r:Nat}{o:Obj}{k:Obj→Sem α}{Q:α→St→Prop}(h:s.has r o)(h1:Obj.yB o=false)(h2:o.isChan=false)(hk:cu P (k o) s Q E):cu P (getObj r >>= k) s Q E:=⟨o,h,h1,h2,hk⟩
theorem eL{P:Program}{r:Nat}{o:Obj}{L:List (Nat×Obj)}{k:Unit→Sem α}{Q:α→St→Prop}(h2:o.isChan=false)(hs:s.rw=L++(r,o')::R)(h1:Obj.yB o'=false)(hk:cu P (k ()) ⟨s.ro,L++(r,o)::R⟩ Q E)(hr:Obj.real o=true:=by rfl):cu P (setObj r o >>= k) s Q E:=⟨h2,hr,L,o',R,hs,h1,hk⟩
def eO:Op→Bool
 | .defer _=>false
 |_=>true
theorem pK{op:Op}(h:eO op=true):∀c,op≠ .defer c:=by
 intro c e;subst e;cases h
section ops
variable {P:Program} {C:Class} {fn:FuncId} {aF:Option Nat} {Q:Post} {s:St} {n:Nat} {D:List Deferred} {ops:Array Oper} {i:Nat} {todo:List Nat} {ρ:bz} {ce e:Env} {o:Oper} {v:Value} {m m':Mem} {F:Nat×Obj→Prop} {R:Nat→Option Obj}
theorem Ev.GP(rest:Env):Ev n e (ev n (e++rest)):=fun _ _ h=>aL (bD h)
theorem lu(hC:∀main T,C main T→Closed P main T)(ho:ops[i]?=some o) (rest:Env) (hw:aD ops n (e++rest) o.guard=true) (hd:eO o.op=true) (hy:Yields P n e o s v) (hx:Ext s s') (hk:ak C fn aF ops todo Q (A n (upd o.dst v (e++rest)) D) s'):
 ak C fn aF ops (i::todo) Q (A n (e++rest) D) s':=by
 refine cy hC ho hw (pK hd) (hy s' hx _ (Ev.GP rest) _ _ ?_)
 show ak _ _ _ _ _ _ _ _
 rw[bI];exact hk
end ops
inductive CR where
 |ret (v:Value)
 |panic (v:Value)
inductive Tgt where
 |fn (f:FuncId)
 |yield (l:Nat)
abbrev cM:=Tgt→List Value→Mem→Option (CR×Mem)
def A8(P:Program)(f:FuncId):Bool:=
 match P.funcs[f]? with
 |some fn=> !(fn.name== "runtime.NumGoroutine")&& !fn.body.isNone
 |none=>false
theorem jH{P:Program}{f:FuncId}(h:A8 P f=true):FF P f:=by
 unfold A8 at h
 split at h
 ·rename_i fn wY
  simp only[Bool.and_eq_true,Bool.not_eq_true'] at h
  exact⟨fn,wY,h.1,h.2⟩
 cases h
structure AL where
 i:Nat
 id:Nat
 ob:lN
section rounds
variable {P:Program} {C:Class} {s:St}
def DW(s:St)(l:Nat)(K:Loop→(Loop→St)→Prop):Prop:=∃L r Rr,s.rw=L++(l,.loop r)::Rr∧K r fun r'=>⟨s.ro,L++(l,.loop r')::Rr⟩
def Vu(R:Ending→St→Prop)(l:Nat)(jump:Option Code)(s:St):Prop:=
 DW s l fun r up=>R (.returned (.bool jump.isNone)) (up {r with state:=if jump.isNone then .ready else .done,pending:=jump})
def CG(R:Ending→St→Prop)(l:Nat):Post
 | .normal,_,s=>Vu R l none s
 | .ret,_,s=>Vu R l (some .ret) s
 | .exit id,_,s=>Vu R l (some (.exit id)) s
 | .panic ch,a,s=>a.defers=[]∧R (.panicked ch) s
 |_,_,_=>False
def Ih(C:Class)(R:Ending→St→Prop)(l:Nat)(f:FuncId)(body:Code):Post
 | .normal,a,s=>DW s l fun r up=>r.state= .ready∧Wp C f (some l) body (CG R l) a (up {r with state:= .busy})
 | .panic ch,a,s=>a.defers=[]∧R (.panicked ch) s
 |_,_,_=>False
theorem yn{l:Nat}{L Rr:List (Nat×Obj)}{r:Loop}(hs:s.rw=L++(l,.loop r)::Rr){k:Loop→Sem α}{Q:α→St→Prop}(hk:cu P (k r) s Q E):cu P (Instr.getLoop l >>= k) s Q E:=by
 simp only[Instr.getLoop,af]
 exact cQ (o:= .loop r) (.inr (by rw[hs];exact eV)) rfl rfl hk
theorem xk(hC:∀main T,C main T→Closed P main T)(hT:C main T){fr c:Frame}{l:Nat}{jump:Option Code}{R:Ending→St→Prop}(h1:fr.kind= .normal)
 (gz:∀w,stepG P main (G fr (c::cs)) w=(let (r,es):=(Instr.endRound l jump).runT P w #[];GStep.after (seen P fr.fn es)<|match r with
  | .ok v w=>doReturn P main fr (c::cs) none v w
  | .halt _ w=> .ended (.stuck "range over a function: no such loop" (fr.pos P)) w))
 (hr:Vu R l jump s)(hk:∀v s',R (.returned v) s'→T (G (c.finish v) cs) s'):T (G fr (c::cs)) s:=by
 obtain⟨L,r,Rr,hs,hR⟩:=hr
 have vD:cu P (Instr.endRound l jump) s (fun v s'=>R (.returned v) s') (fun _ _=>False):=by
  simp only[Instr.endRound]
  refine yn hs<|eL rfl hs rfl hR
 refine(hC main T hT).step _ _ rfl fun w rU=>?_
 obtain⟨res,es,bx,hl⟩:=gC _ _ _ _ w #[] vD rU
 rw[Array.empty_append] at bx
 cases res with
 |ok v w'=>
  obtain⟨s',ht,hu⟩:=hl
  refine⟨G (c.finish v) cs,w',seen P fr.fn es,s',?_,rfl,ht.sub (iz _ _ _),hk _ _ hu⟩
  rw[gz,bx]
  simp only[doReturn,h1,GStep.after,Array.append_empty,G]
 |halt _ _=>obtain⟨_,_,hu⟩:=hl;exact hu.elim
theorem Ee(hC:∀main T,C main T→Closed P main T){l:Nat}{f:FuncId}{fn:Func}(hf:P.funcs[f]?=some fn) {tmps:Array Value} {assign body:Code} {R:Ending→St→Prop}
 (h:Wp C f (some l) assign (Ih C R l f body) ⟨tmps,[]⟩ s):Round C l f tmps assign body s R:=by
 intro main T hT cl cs k1 k2
 let b:Frame:={(default:Frame) with fn:=f,kind:= .normal,roundOf:=some l}
 have j8:Frame.round l f tmps assign body .normal=aW b ⟨tmps,[]⟩ [.code assign,.beginRound,.code body]:=by simp[Frame.round,aW,b]
 rw[j8]
 have afr:∀ch a' s' todo,a'.defers=[]∧R (.panicked ch) s'→T (G {aW b a' todo with mode:= .panicking ch} (cl::cs)) s':=by
  intro ch a' s' todo q
  refine(hC main T hT).go rfl rfl (g':=G (cl.raise ch) cs) (fun w=>?_) (k2 _ _ q.2)
  have Jr:∀fr:Frame,fr.fn=f→fr.catches P=false:=by
   intro fr UX;simp[Frame.catches,UX,hf]
  have:=Jr {aW b a' todo with mode:= .panicking ch} rfl
  simp only[aW,q.1] at this
  simp[G,stepG,unwind,aW,b,q.1,this]
 refine h main T hT b [.beginRound,.code body] (cl::cs) rfl (by simp[b]) rfl fun e a' s' q=>?_
 cases e with
 |normal=>
  obtain⟨L,r,Rr,hs,bE,hw⟩:=q
  have vD:cu P (do Instr.beginRound l;pure Next.skip:Sem Next) s' (fun nx s2=>nx= .skip∧s2=⟨s'.ro,L++(l,.loop {r with state:= .busy})::Rr⟩) (fun _ _=>False):=by
   simp only[Instr.beginRound,af]
   refine yn hs ?_
   simp only[af]
   refine eL rfl hs rfl ?_
   simp only[bE,aj]
   exact⟨rfl,rfl⟩
  have KU:T (G (aW b a' [.code body]) (cl::cs)) ⟨s'.ro,L++(l,.loop {r with state:= .busy})::Rr⟩:=by
   refine hw main T hT b [] (cl::cs) rfl (by simp[b]) rfl fun e2 a2 s2 q2=>?_
   cases e2 with
   |normal=>exact xk hC hT (l:=l) (jump:=none) rfl (fun w=>by simp[G,stepG,stepG.exec,aW,b];rfl) q2 k1
   |ret=>exact fun todo=>xk hC hT (l:=l) (jump:=some .ret) rfl (fun w=>by simp[G,stepG,stepG.exec,aW,b];rfl) q2 k1
   |exit id=>exact fun todo ZT=>xk hC hT (l:=l) (jump:=some (.exit id)) rfl (fun w=>by simp[G,stepG,stepG.exec,aW,b,ZT];rfl) q2 k1
   |panic ch=>exact fun todo=>afr ch a2 s2 todo q2
   |goto l'=>exact q2.elim
   |outgrown=>exact q2.elim
  refine(hC main T hT).step _ _ rfl fun w rU=>?_
  obtain⟨res,es,bx,hl⟩:=gC _ _ _ _ w #[] vD rU
  rw[Array.empty_append] at bx
  cases res with
  |ok nx w'=>
   obtain⟨s2,ht,rfl,rfl⟩:=hl
   refine⟨G (aW b a' [.code body]) (cl::cs),w',seen P f es,_,?_,rfl,ht.sub (iz _ _ _),KU⟩
   have gz:stepG P main (G (aW b a' [.beginRound,.code body]) (cl::cs)) w=stepG.apply P true (aW b a' [.beginRound,.code body]) (cl::cs) none (do Instr.beginRound l;pure Next.skip:Sem Next) w:=rfl
   rw[gz]
   simp only[stepG.apply,if_true,bx]
   simp[GStep.after,Frame.finish,aW,b,G]
  |halt _ _=>obtain⟨_,_,hu⟩:=hl;exact hu.elim
 |panic ch=>exact fun todo=>afr ch a' s' todo q
 |ret=>exact q.elim
 |exit id=>exact q.elim
 |goto l=>exact q.elim
 |outgrown=>exact q.elim
end rounds
end Go.L
