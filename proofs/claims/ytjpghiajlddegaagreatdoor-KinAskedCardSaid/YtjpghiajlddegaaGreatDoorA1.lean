/- Part 1 of the proof: a program logic, contracts, a theorem on goroutines. -/
import Derived.Calls
import Derived.Conc.Own
import Derived.IntWalk
set_option maxRecDepth 100000
set_option linter.all false
namespace Go.L
open Go
variable {R:List (Nat×Obj)} {b id n:Nat} {x:Operand} {l:List Value} {P:Program} {args:Array Value} {e t T':TypeId} {o o':Obj} {α β ι:Type} {y:Code} {f:FuncId} {xs:Array Operand} {w' aag:World} {rest:List Nat}
structure St where
 ro:Nat→Option Obj
 rw:List (Nat×Obj)
variable {s s' NN aa8 aa7:St}
def St.has(s:St)(b:Nat)(o:Obj):Prop:=s.ro b=some o∨(b,o)∈s.rw
def St.iQ(s:St)(b:Nat):Prop:=∃o,(b,o)∈s.rw
def St.knows(s:St)(b:Nat):Prop:=s.ro b≠none∨s.iQ b
structure aU(s:St)(w:World):Prop where
 ro:∀b o,s.ro b=some o→w.heap[b]?=some o
 rw:∀b o,(b,o)∈s.rw→w.heap[b]?=some o
 nodup:(s.rw.map (·.1)).Nodup
 apart:∀b o,(b,o)∈s.rw→s.ro b=none
theorem aU.has{w:World}(h:aU s w)(hb:s.has b o):w.heap[b]?=some o:=
 hb.elim (h.ro b o) (h.rw b o)
theorem aU.lt{w:World}(h:aU s w)(hb:s.has b o):b <w.heap.size:=by
 have:=h.has hb
 rcases Nat.lt_or_ge b w.heap.size with hl|hl
 ·exact hl
 ·simp[Array.getElem?_eq_none hl] at this
def Bs:Mark→Bool
 | .acquire _| .release _| .releaseMerge _| .disable| .enable| .read _| .write _=>false
 |_=>true
def Hn(s:St)(n:Nat)(e:Event):Prop:=
 match e.loc with
 | .cell a=>e.sync=false∧(n≤a.block∨s.iQ a.block∨(e.write=false∧s.ro a.block≠none))
 | .obj r=>e.sync=false∧(n≤r∨s.iQ r∨(e.write=false∧s.ro r≠none))
 | .mark m=>Bs m=true
 |_=>False
def blk:Loc→Option Nat
 | .cell a=>some a.block
 | .obj r=>some r
 |_=>none
structure Trans(s:St)(w:World)(s':St)(w':World)(es:Array Event):Prop where
 jI:aU s' w'
 size:w.heap.size≤w'.heap.size
 frame:∀b,b <w.heap.size→¬s.iQ b→w'.heap[b]?=w.heap[b]?
 own:∀b,s'.iQ b→w.heap.size≤b∨s.iQ b
 Kh:∀b,s'.ro b≠none→w.heap.size≤b∨s.ro b≠none∨s.iQ b
 os:w'.os=w.os
 output:w'.output=w.output
 tape:w'.tape=w.tape
 uM:∀e∈es,Hn s w.heap.size e
 low:∀e∈es,∀b,blk e.loc=some b→b <w'.heap.size
theorem Trans.refl{w:World}(h:aU s w):Trans s w s w #[] where
 jI:=h
 size:=Nat.le_refl _
 frame:=fun _ _ _=>rfl
 own:=fun _ h=> .inr h
 Kh:=fun _ h=> .inr (.inl h)
 os:=rfl
 output:=rfl
 tape:=rfl
 uM:=by simp
 low:=by simp
theorem Trans.trans{awy awx:World}{agj agi:Array Event}(h:Trans NN aag aa8 awy agj)(k:Trans aa8 awy aa7 awx agi):
 Trans NN aag aa7 awx (agj++agi) where
 jI:=k.jI
 size:=Nat.le_trans h.size k.size
 frame:=fun b hb hn=>by
  rw[k.frame b (Nat.lt_of_lt_of_le hb h.size) (fun ho=>by rcases h.own b ho with h1|h1;omega;exact hn h1),h.frame b hb hn]
 own:=fun b hb=>by
  rcases k.own b hb with h1|h1
  ·exact .inl (Nat.le_trans h.size h1)
  ·exact h.own b h1
 Kh:=fun b hb=>by
  rcases k.Kh b hb with h1|h1|h1
  ·exact .inl (Nat.le_trans h.size h1)
  ·exact h.Kh b h1
  ·rcases h.own b h1 with h2|h2
   ·exact .inl h2
   ·exact .inr (.inr h2)
 os:=k.os.trans h.os
 output:=k.output.trans h.output
 tape:=k.tape.trans h.tape
 low:=fun e he b hb=>by
  rcases Array.mem_append.1 he with he|he
  ·exact Nat.lt_of_lt_of_le (h.low e he b hb) k.size
  ·exact k.low e he b hb
 uM:=fun e he=>by
  rcases Array.mem_append.1 he with he|he
  ·exact h.uM e he
  ·have:=k.uM e he
   unfold Hn at*
   split at this
   ·rename_i a _
    refine⟨this.1,?_⟩
    rcases this.2 with h1|h1|h1
    ·exact .inl (Nat.le_trans h.size h1)
    ·rcases h.own _ h1 with h2|h2
     ·exact .inl h2
     ·exact .inr (.inl h2)
    ·rcases h.Kh _ h1.2 with h2|h2|h2
     ·exact .inl h2
     ·exact .inr (.inr ⟨h1.1,h2⟩)
     ·exact .inr (.inl h2)
   ·rename_i r _
    refine⟨this.1,?_⟩
    rcases this.2 with h1|h1|h1
    ·exact .inl (Nat.le_trans h.size h1)
    ·rcases h.own _ h1 with h2|h2
     ·exact .inl h2
     ·exact .inr (.inl h2)
    ·rcases h.Kh _ h1.2 with h2|h2|h2
     ·exact .inl h2
     ·exact .inr (.inr ⟨h1.1,h2⟩)
     ·exact .inr (.inl h2)
   ·exact this
   ·exact this
def single:Value→Bool
 | .agg _| .tuple _=>false
 |_=>true
def Obj.wF:Obj→Bool
 | .cells .. =>true
 |_=>false
def Obj.shapeOf:Obj→Option (TypeId×Nat)
 | .cells c t _=>some (t,c.size)
 |_=>none
def Obj.frozenAt(a:Addr):Obj→Bool
 | .cells _ _ (lo,hi)=>lo≤a.off&&a.off <hi
 |_=>false
def Obj.PT(a:Addr)(n:Nat):Obj→Obj
 | .cells c elem (lo,hi)=> .cells c elem (if lo==hi then (a.off,a.off+n) else (min lo a.off,max hi (a.off+n)))
 |o=>o
def bN(P:Program):Sem α→St→(α→St→Prop)→(Halt→St→Prop)→Prop
 | .pure a,s,Q,_=>Q a s
 | .load m a k,s,Q,E=>m= .plain∧a.spot=none∧∃c t fz v,s.has a.block (.cells c t fz)∧c[a.off]?=some v∧bN P (k v) s Q E
 | .store m a v k,s,Q,E=>m= .plain∧a.spot=none∧single v=true∧∃L c t fz R,s.rw=L++(a.block,.cells c t fz)::R∧a.off <c.size∧
  (fz.1≤a.off&&a.off <fz.2)=false∧bN P k ⟨s.ro,L++(a.block,.cells (c.setIfInBounds a.off v) t fz)::R⟩ Q E
 | .new o k,s,Q,E=>∀b,¬s.knows b→bN P (k b) ⟨s.ro,(b,o)::s.rw⟩ Q E
 | .shape r k,s,Q,E=>∃o,s.has r o∧bN P (k (Obj.shapeOf o)) s Q E
 | .freeze a n k,s,Q,E=>if n=0 then bN P k s Q E else
  ∃L o R,s.rw=L++(a.block,o)::R∧bN P k ⟨s.ro,L++(a.block,Obj.PT a n o)::R⟩ Q E
 | .frozen a k,s,Q,E=>∃o,s.has a.block o∧bN P (k (Obj.frozenAt a o)) s Q E
 | .getObj r k,s,Q,E=>∃o,s.has r o∧Obj.wF o=false∧o.isChan=false∧bN P (k o) s Q E
 | .setObj r o k,s,Q,E=>o.isChan=false∧∃L o' R,s.rw=L++(r,o')::R∧Obj.wF o'=false∧bN P k ⟨s.ro,L++(r,o)::R⟩ Q E
 | .choose q k,s,Q,E=>if q.forced then bN P (k 0) s Q E else ∀n,bN P (k (q.cut n)) s Q E
 | .sys _ _,_,_,_=>False
 | .program k,s,Q,E=>bN P (k P) s Q E
 | .mark m k,s,Q,E=>Bs m=true∧bN P k s Q E
 | .halt h,s,_,E=>E h s
theorem NB(x:Sem α)(f:α→Sem β)(s:St)(Q:β→St→Prop)(E:Halt→St→Prop)
 (h:bN P x s (fun a s'=>bN P (f a) s' Q E) E):bN P (x.bind f) s Q E:=by
 induction x generalizing s with
 |pure a=>exact h
 |load m a k ih=>obtain⟨h1,h2,c,t,fz,v,h3,h4,h5⟩:=h;exact⟨h1,h2,c,t,fz,v,h3,h4,ih _ _ h5⟩
 |store m a v k ih=>obtain⟨h1,h2,h3,L,c,t,fz,R,h4,h5,h6,h7⟩:=h;exact⟨h1,h2,h3,L,c,t,fz,R,h4,h5,h6,ih _ h7⟩
 |new o k ih=>exact fun b hb=>ih _ _ (h b hb)
 |shape r k ih=>obtain⟨o,h1,h2⟩:=h;exact⟨o,h1,ih _ _ h2⟩
 |freeze a n k ih=>
  simp only[Sem.bind,bN] at h ⊢
  split
  ·rename_i hn;rw[if_pos hn] at h;exact ih _ h
  ·rename_i hn;rw[if_neg hn] at h;obtain⟨L,o,R,h1,h2⟩:=h;exact⟨L,o,R,h1,ih _ h2⟩
 |frozen a k ih=>obtain⟨o,h1,h2⟩:=h;exact⟨o,h1,ih _ _ h2⟩
 |getObj r k ih=>obtain⟨o,h1,h2,h3,h4⟩:=h;exact⟨o,h1,h2,h3,ih _ _ h4⟩
 |setObj r o k ih=>obtain⟨h1,L,o',R,h2,h3,h4⟩:=h;exact⟨h1,L,o',R,h2,h3,ih _ h4⟩
 |choose q k ih=>
  simp only[Sem.bind,bN] at h ⊢
  split
  ·rename_i hn;rw[if_pos hn] at h;exact ih _ _ h
  ·rename_i hn;rw[if_neg hn] at h;exact fun n=>ih _ _ (h n)
 |sys c k ih=>exact h.elim
 |program k ih=>exact ih _ _ h
 |mark m k ih=>exact⟨h.1,ih _ h.2⟩
 |halt hh=>exact h
theorem uP(x:Sem α)(s:St)(Q Q':α→St→Prop)(E E':Halt→St→Prop)
 (hq:∀a s,Q a s→Q' a s)(he:∀a s,E a s→E' a s)(h:bN P x s Q E):bN P x s Q' E':=by
 induction x generalizing s with
 |pure a=>exact hq _ _ h
 |load m a k ih=>obtain⟨h1,h2,c,t,fz,v,h3,h4,h5⟩:=h;exact⟨h1,h2,c,t,fz,v,h3,h4,ih _ _ h5⟩
 |store m a v k ih=>obtain⟨h1,h2,h3,L,c,t,fz,R,h4,h5,h6,h7⟩:=h;exact⟨h1,h2,h3,L,c,t,fz,R,h4,h5,h6,ih _ h7⟩
 |new o k ih=>exact fun b hb=>ih _ _ (h b hb)
 |shape r k ih=>obtain⟨o,h1,h2⟩:=h;exact⟨o,h1,ih _ _ h2⟩
 |freeze a n k ih=>
  simp only[bN] at h ⊢
  split
  ·rename_i hn;rw[if_pos hn] at h;exact ih _ h
  ·rename_i hn;rw[if_neg hn] at h;obtain⟨L,o,R,h1,h2⟩:=h;exact⟨L,o,R,h1,ih _ h2⟩
 |frozen a k ih=>obtain⟨o,h1,h2⟩:=h;exact⟨o,h1,ih _ _ h2⟩
 |getObj r k ih=>obtain⟨o,h1,h2,h3,h4⟩:=h;exact⟨o,h1,h2,h3,ih _ _ h4⟩
 |setObj r o k ih=>obtain⟨h1,L,o',R,h2,h3,h4⟩:=h;exact⟨h1,L,o',R,h2,h3,ih _ h4⟩
 |choose q k ih=>
  simp only[bN] at h ⊢
  split
  ·rename_i hn;rw[if_pos hn] at h;exact ih _ _ h
  ·rename_i hn;rw[if_neg hn] at h;exact fun n=>ih _ _ (h n)
 |sys c k ih=>exact h.elim
 |program k ih=>exact ih _ _ h
 |mark m k ih=>exact⟨h.1,ih _ h.2⟩
 |halt hh=>exact he _ _ h
theorem fy{L:List (Nat×Obj)}:(b,o)∈L++(b,o)::R:=by simp
theorem Ub{w:World}(h:aU s w){L:List (Nat×Obj)}(hl:s.rw=L++(b,o)::R)
 (hw:∀j,w'.heap[j]?=if j=b then some o' else w.heap[j]?):aU ⟨s.ro,L++(b,o')::R⟩ w':=by
 have iS:(b,o)∈s.rw:=by rw[hl];exact fy
 have lX:=h.nodup
 rw[hl] at lX
 simp only[List.map_append,List.map_cons] at lX
 rw[List.nodup_append] at lX
 obtain⟨nL,nR,nLR⟩:=lX
 rw[List.nodup_cons] at nR
 have anb:∀c x,(c,x)∈L∨(c,x)∈R→c≠b:=by
  rintro c x (hc|hc) rfl
  ·exact nLR c (List.mem_map.2 ⟨_,hc,rfl⟩) c (by simp) rfl
  ·exact nR.1 (List.mem_map.2 ⟨_,hc,rfl⟩)
 refine⟨fun c x hc=>?_,fun c x hc=>?_,?_,fun c x hc=>?_⟩
 ·rw[hw]
  by_cases e:c=b
  ·subst e;rw[h.apart c o iS] at hc;cases hc
  ·rw[if_neg e];exact h.ro c x hc
 ·simp only[List.mem_append,List.mem_cons] at hc
  rw[hw]
  rcases hc with hc|hc|hc
  ·rw[if_neg (anb c x (.inl hc))];exact h.rw c x (by rw[hl];simp[hc])
  ·cases hc;simp
  ·rw[if_neg (anb c x (.inr hc))];exact h.rw c x (by rw[hl];simp[hc])
 ·simp only[List.map_append,List.map_cons]
  rw[List.nodup_append]
  exact⟨nL,List.nodup_cons.2 nR,nLR⟩
 ·simp only[List.mem_append,List.mem_cons] at hc
  rcases hc with hc|hc|hc
  ·exact h.apart c x (by rw[hl];simp[hc])
  ·cases hc;exact h.apart b o iS
  ·exact h.apart c x (by rw[hl];simp[hc])
theorem ab6{ro:Nat→Option Obj}{L:List (Nat×Obj)}{c:Nat}(h:(⟨ro,L++(b,o')::R⟩:St).iQ c):(⟨ro,L++(b,o)::R⟩:St).iQ c:=by
 obtain⟨x,hx⟩:=h
 simp only[List.mem_append,List.mem_cons] at hx
 rcases hx with hx|hx|hx
 ·exact⟨x,by simp[hx]⟩
 ·cases hx;exact⟨o,by simp⟩
 ·exact⟨x,by simp[hx]⟩
theorem A4{w:World}(h:aU s w){L:List (Nat×Obj)}(hl:s.rw=L++(b,o)::R)
 (hs:w'.heap.size=w.heap.size)(hw:∀j,w'.heap[j]?=if j=b then some o' else w.heap[j]?)
 (ho:w'.os=w.os) (hu:w'.output=w.output) (ht:w'.tape=w.tape) {es:Array Event} (he:∀e∈es,Hn s w.heap.size e∧∀b,blk e.loc=some b→b <w.heap.size):
 Trans s w ⟨s.ro,L++(b,o')::R⟩ w' es where
 jI:=Ub h hl hw
 size:=by omega
 frame:=fun c _ hn=>by
  rw[hw]
  by_cases e:c=b
  ·subst e;exact absurd ⟨o,by rw[hl];simp⟩ hn
  ·rw[if_neg e]
 own:=fun c hc=> .inr (by have:=ab6 (o:=o) hc;obtain⟨x,hx⟩:=this;exact⟨x,by rw[hl];exact hx⟩)
 Kh:=fun c hc=> .inr (.inl hc)
 os:=ho
 output:=hu
 tape:=ht
 uM:=fun e h'=>(he e h').1
 low:=fun e h' b hb=>hs▸(he e h').2 b hb
theorem Xg{w:World}(h:aU s w)(o:Obj):Trans s w ⟨s.ro,(w.heap.size,o)::s.rw⟩ {w with heap:=w.heap.push o} #[] where
 jI:=by
  refine⟨fun b x hb=>?_,fun b x hb=>?_,?_,fun b x hb=>?_⟩
  ·have:=h.ro b x hb
   have cK:=h.lt (.inl hb)
   simp[Array.getElem?_push,Nat.ne_of_lt cK,this]
  ·rcases List.mem_cons.1 hb with hb|hb
   ·cases hb;simp
   ·have:=h.rw b x hb
    have cK:=h.lt (.inr hb)
    simp[Array.getElem?_push,Nat.ne_of_lt cK,this]
  ·simp only[List.map_cons]
   refine List.nodup_cons.2 ⟨fun hm=>?_,h.nodup⟩
   obtain⟨⟨b,x⟩,hx,rfl⟩:=List.mem_map.1 hm
   have:=h.lt (.inr hx)
   simp at this
  ·rcases List.mem_cons.1 hb with hb|hb
   ·cases hb
    cases hr:s.ro w.heap.size with
    |none=>rfl
    |some y=>have:=h.lt (.inl hr);omega
   ·exact h.apart b x hb
 size:=by simp
 frame:=fun b hb _=>by simp[Array.getElem?_push,Nat.ne_of_lt hb]
 own:=fun b hb=>by
  obtain⟨x,hx⟩:=hb
  rcases List.mem_cons.1 hx with hx|hx
  ·cases hx;exact .inl (Nat.le_refl _)
  ·exact .inr ⟨x,hx⟩
 Kh:=fun b hb=> .inr (.inl hb)
 os:=rfl
 output:=rfl
 tape:=rfl
 uM:=by simp
 low:=by simp
theorem PS{w:World}(h:aU s w):¬s.knows w.heap.size:=by
 rintro(hk| ⟨o,hk⟩)
 ·cases hr:s.ro w.heap.size with
  |none=>exact hk hr
  |some y=>have:=h.lt (.inl hr);omega
 ·have:=h.lt (.inr hk);omega
theorem Cj{w:World}(h:aU s w)(n:Nat):Trans s w s {w with drawn:=n} #[] where
 jI:=⟨h.ro,h.rw,h.nodup,h.apart⟩
 size:=Nat.le_refl _
 frame:=fun _ _ _=>rfl
 own:=fun _ h=> .inr h
 Kh:=fun _ h=> .inr (.inl h)
 os:=rfl
 output:=rfl
 tape:=rfl
 uM:=by simp
 low:=by simp
theorem EE{w:World}(h:aU s w){e:Event}(he:Hn s w.heap.size e)(hb:∀b,blk e.loc=some b→b <w.heap.size):Trans s w s w #[e] where
 jI:=h
 size:=Nat.le_refl _
 frame:=fun _ _ _=>rfl
 own:=fun _ h=> .inr h
 Kh:=fun _ h=> .inr (.inl h)
 os:=rfl
 output:=rfl
 tape:=rfl
 uM:=by simpa using he
 low:=by simpa using hb
def uu(s:St)(w:World)(Q:α→St→Prop)(E:Halt→St→Prop)(es:Array Event):Result α→Prop
 | .ok a w'=>∃s',Trans s w s' w' es∧Q a s'
 | .halt h w'=>∃s',Trans s w s' w' es∧E h s'
theorem uu.after{w:World}{Q:α→St→Prop}{E:Halt→St→Prop}{agj agi:Array Event}{r:Result α}
 (ht:Trans s w NN aag agj)(h:uu NN aag Q E agi r):uu s w Q E (agj++agi) r:=by
 cases r with
 |ok a w'=>obtain⟨s',h1,h2⟩:=h;exact⟨s',ht.trans h1,h2⟩
 |halt a w'=>obtain⟨s',h1,h2⟩:=h;exact⟨s',ht.trans h1,h2⟩
theorem World.cell_of{w:World}(h:aU s w){a:Addr}(ha:a.spot=none){c:Array Value}{fz:Nat×Nat}(hb:s.has a.block (.cells c t fz)):
 w.cell? a=c[a.off]?:=by
 simp[World.cell?,h.has hb,ha]
theorem gH(x:Sem α)(s:St)(Q:α→St→Prop)(E:Halt→St→Prop)(w:World)(es:Array Event)
 (h:bN P x s Q E)(ha:aU s w):∃r eA,x.runT P w es=(r,es++eA)∧uu s w Q E eA r:=by
 induction x generalizing s w es with
 |pure a=>exact⟨.ok a w,#[],by simp only[Sem.runT,Array.append_empty],s,Trans.refl ha,h⟩
 |load m a k ih=>
  obtain⟨rfl,M9,c,t,fz,v,hb,hv,hk⟩:=h
  have hc:w.cell? a=some v:=by rw[World.cell_of ha M9 hb,hv]
  obtain⟨r,e',hr,hl⟩:=ih v s w (es.push ⟨.cell a,false,false⟩) hk ha
  refine⟨r,#[⟨.cell a,false,false⟩]++e',?_,uu.after (EE ha ?_ (fun b h'=>by cases h';exact ha.lt hb)) hl⟩
  ·simp only[Sem.runT,hc]
   rw[show (Mode.plain==Mode.atomic)=false from rfl,hr,←Array.append_singleton,Array.append_assoc]
  ·refine⟨rfl,?_⟩
   rcases hb with hb|hb
   ·exact .inr (.inr ⟨rfl,by rw[hb];simp⟩)
   ·exact .inr (.inl ⟨_,hb⟩)
 |store m a v k ih=>
  obtain⟨rfl,M9,ho,L,c,t,fz,R,hl,cK,hfz,hk⟩:=h
  have hb:s.has a.block (.cells c t fz):= .inr (by rw[hl];exact fy)
  have hc:w.cell? a=some c[a.off]:=by rw[World.cell_of ha M9 hb];simp[cK]
  have hh:=ha.has hb
  have ak5:=ha.lt hb
  have YG:w.frozen? a=false:=by simp only[World.frozen?,hh];exact hfz
  have ht:Trans s w ⟨s.ro,L++(a.block,.cells (c.setIfInBounds a.off v) t fz)::R⟩ (w.setCell a v) #[⟨.cell a,true,false⟩]:=by
   refine A4 (w':=w.setCell a v) ha hl (by simp[World.setCell]) (fun j=>?_) rfl rfl rfl ?_
   ·simp only[World.setCell,Array.getElem?_modify]
    by_cases e:a.block=j
    ·subst e;simp[hh,M9]
    ·simp[e,Ne.symm e]
   ·simp only[List.mem_toArray,List.mem_singleton,forall_eq]
    exact⟨⟨rfl,.inr (.inl ⟨_,hb.resolve_left (by rw[ha.apart _ _ (show (a.block,_)∈s.rw by rw[hl];exact fy)];simp)⟩)⟩,fun b h'=>by cases h';exact ak5⟩
  obtain⟨r,e',hr,yq⟩:=ih _ (w.setCell a v) (es.push ⟨.cell a,true,false⟩) hk ht.jI
  refine⟨r,#[⟨.cell a,true,false⟩]++e',?_,uu.after ht yq⟩
  cases v<;>simp only[single,Bool.false_eq_true] at ho<;>
   (simp only[Sem.runT,hc,YG]
    rw[show (Mode.plain==Mode.atomic)=false from rfl]
    simp only[Bool.false_eq_true,if_false]
    rw[hr,←Array.append_singleton,Array.append_assoc])
 |new o k ih=>
  have ht:=Xg ha o
  obtain⟨r,e',hr,hl⟩:=ih _ _ {w with heap:=w.heap.push o} es (h w.heap.size (PS ha)) ht.jI
  exact⟨r,#[]++e',by simp only[Sem.runT];rw[hr,Array.empty_append],uu.after ht hl⟩
 |shape r k ih=>
  obtain⟨o,hb,hk⟩:=h
  have hs:w.shape? r=Obj.shapeOf o:=by
   simp only[World.shape?,ha.has hb];cases o<;>rfl
  obtain⟨r',e',hr,hl⟩:=ih _ s w es hk ha
  exact⟨r',e',by simp only[Sem.runT,hs];exact hr,hl⟩
 |freeze a n k ih=>
  simp only[bN] at h
  by_cases hn:n=0
  ·rw[if_pos hn] at h
   obtain⟨r',e',hr,hl⟩:=ih s w es h ha
   exact⟨r',e',by simp only[Sem.runT,World.freeze,hn,if_true];exact hr,hl⟩
  ·rw[if_neg hn] at h
   obtain⟨L,o,R,hl,hk⟩:=h
   have hb:s.has a.block o:= .inr (by rw[hl];exact fy)
   have hh:=ha.has hb
   have ht:Trans s w ⟨s.ro,L++(a.block,Obj.PT a n o)::R⟩ (w.freeze a n) #[]:=by
    refine A4 (w':=w.freeze a n) ha hl (by simp[World.freeze,hn]) (fun j=>?_) (by simp[World.freeze,hn]) (by simp[World.freeze,hn]) (by simp[World.freeze,hn]) (by simp)
    simp only[World.freeze,hn,if_false,Array.getElem?_modify]
    by_cases e:a.block=j
    ·subst e;simp only[hh,if_true,Option.map_some];cases o<;>rfl
    ·simp[e,Ne.symm e]
   obtain⟨r',e',hr,yq⟩:=ih _ (w.freeze a n) es hk ht.jI
   exact⟨r',#[]++e',by simp only[Sem.runT];rw[hr,Array.empty_append],uu.after ht yq⟩
 |frozen a k ih=>
  obtain⟨o,hb,hk⟩:=h
  have hs:w.frozen? a=Obj.frozenAt a o:=by
   simp only[World.frozen?,ha.has hb];cases o<;>rfl
  obtain⟨r',e',hr,hl⟩:=ih _ s w es hk ha
  exact⟨r',e',by simp only[Sem.runT,hs];exact hr,hl⟩
 |getObj r k ih=>
  obtain⟨o,hb,CE,uL,hk⟩:=h
  have hh:=ha.has hb
  obtain⟨r',e',hr,hl⟩:=ih o s w (es.push ⟨.obj r,false,false⟩) hk ha
  refine⟨r',#[⟨.obj r,false,false⟩]++e',?_,uu.after (EE ha ?_ (fun b h'=>by cases h';exact ha.lt hb)) hl⟩
  ·cases o<;>simp only[Obj.wF,Obj.isChan,Bool.true_eq_false] at CE uL<;>
    (simp only[Sem.runT,hh,Obj.isChan];rw[hr,←Array.append_singleton,Array.append_assoc])
  ·refine⟨rfl,?_⟩
   rcases hb with hb|hb
   ·exact .inr (.inr ⟨rfl,by rw[hb];simp⟩)
   ·exact .inr (.inl ⟨_,hb⟩)
 |setObj r o k ih=>
  obtain⟨uL,L,o',R,hl,CE,hk⟩:=h
  have hb:s.has r o':= .inr (by rw[hl];exact fy)
  have hh:=ha.has hb
  have ak5:=ha.lt hb
  have ht:Trans s w ⟨s.ro,L++(r,o)::R⟩ {w with heap:=w.heap.setIfInBounds r o} #[⟨.obj r,true,false⟩]:=by
   refine A4 (w':={w with heap:=w.heap.setIfInBounds r o}) ha hl (by simp) (fun j=>?_) rfl rfl rfl ?_
   ·simp only[Array.getElem?_setIfInBounds]
    by_cases e:r=j
    ·subst e;simp[ak5]
    ·simp[e,Ne.symm e]
   ·simp only[List.mem_toArray,List.mem_singleton,forall_eq]
    exact⟨⟨rfl,.inr (.inl ⟨o',by rw[hl];exact fy⟩)⟩,fun b h'=>by cases h';exact ak5⟩
  obtain⟨r',e',hr,yq⟩:=ih _ _ (es.push ⟨.obj r,true,false⟩) hk ht.jI
  refine⟨r',#[⟨.obj r,true,false⟩]++e',?_,uu.after ht yq⟩
  cases o'<;>simp only[Obj.wF,Bool.true_eq_false] at CE<;>
   (simp only[Sem.runT,hh,uL];rw[hr,←Array.append_singleton,Array.append_assoc])
 |choose q k ih=>
  simp only[bN] at h
  by_cases hq:q.forced
  ·rw[if_pos hq] at h
   obtain⟨r',e',hr,hl⟩:=ih 0 s w es h ha
   exact⟨r',e',by simp only[Sem.runT,hq,if_true];exact hr,hl⟩
  ·rw[if_neg hq] at h
   have ht:=Cj ha (w.drawn+1)
   obtain⟨r',e',hr,hl⟩:=ih _ s {w with drawn:=w.drawn+1} es (h (w.tape w.drawn q)) ht.jI
   exact⟨r',#[]++e',by simp only[Sem.runT,hq,Bool.false_eq_true,if_false];rw[hr,Array.empty_append],uu.after ht hl⟩
 |sys c k ih=>exact h.elim
 |program k ih=>
  obtain⟨r',e',hr,hl⟩:=ih P s w es h ha
  exact⟨r',e',by simp only[Sem.runT];exact hr,hl⟩
 |mark m k ih=>
  obtain⟨r',e',hr,hl⟩:=ih s w (es.push ⟨.mark m,false,true⟩) h.2 ha
  refine⟨r',#[⟨.mark m,false,true⟩]++e',?_,uu.after (EE ha ?_ (fun b h'=>by cases h')) hl⟩
  ·simp only[Sem.runT];rw[hr,←Array.append_singleton,Array.append_assoc]
  ·exact h.1
 |halt hh=>exact⟨.halt hh w,#[],by simp only[Sem.runT,Array.append_empty],s,Trans.refl ha,h⟩
open Go.Conc
def St.le(s s':St):Prop:=∃R,s'.rw.Perm (s.rw++R)∧∀b o,s.ro b=some o→s'.ro b=some o∨(b,o)∈R
theorem St.le_refl(s:St):s.le s:=⟨[],by simp,fun _ _ h=> .inl h⟩
theorem aU.of_le{w:World}(hl:s.le s')(h:aU s' w):aU s w:=by
 obtain⟨R,hR,h1⟩:=hl
 have hm:∀x,x∈s.rw→x∈s'.rw:=fun x hx=>hR.mem_iff.2 (by simp[hx])
 have QO:∀x,x∈R→x∈s'.rw:=fun x hx=>hR.mem_iff.2 (by simp[hx])
 have lX:=(hR.map (·.1)).nodup_iff.1 h.nodup
 rw[List.map_append,List.nodup_append] at lX
 refine⟨fun b o hb=>(h1 b o hb).elim (h.ro b o) (fun hx=>h.rw b o (QO _ hx)),fun b o hb=>h.rw b o (hm _ hb),lX.1,fun b o hb=>?_⟩
 have:=h.apart b o (hm _ hb)
 cases hr:s.ro b with
 |none=>rfl
 |some y=>
  rcases h1 b y hr with h3|h3
  ·rw[h3] at this;cases this
  ·exact absurd rfl (lX.2.2 b (List.mem_map.2 ⟨_,hb,rfl⟩) b (List.mem_map.2 ⟨_,h3,rfl⟩))
structure Closed(P:Program)(main:Bool)(T:Goroutine→St→Prop):Prop where
 step:∀g s,g.status= .running→(∀w,aU s w→∃g' w' es s',stepG P main g w= .go g' w' es∧g'.status= .running∧Trans s w s' w' es∧T g' s')→T g s
 mono:∀g s s',s.le s'→T g s→T g s'
theorem Closed.go{main:Bool}{T:Goroutine→St→Prop}(C:Closed P main T){g g':Goroutine}(hs:g.status= .running)(mT:g'.status= .running)
 (h:∀w,stepG P main g w= .go g' w #[])(ht:T g' s):T g s:=
 C.step g s hs fun w hw=>⟨g',w,#[],s,h w,mT,Trans.refl hw,ht⟩
abbrev Class:=Bool→(Goroutine→St→Prop)→Prop
abbrev Post:=Exit→Act→St→Prop
def aM(b:Frame)(a:Act)(todo:List Item):Frame:={fn:=b.fn,tmps:=a.tmps,todo,defers:=a.defers,mode:= .run,kind:=b.kind,roundOf:=b.roundOf}
def jK(T:Goroutine→St→Prop)(b:Frame)(k:List Item)(cs:List Frame):Post
 | .normal,a,s=>T (G (aM b a k) cs) s
 | .exit id,a,s=>match exitTo id k with
  |some k'=>T (G (aM b a k') cs) s
  |none=>∀todo,exitTo id todo=none→T (G (aM b a (.code (.exit id)::todo)) cs) s
 | .ret,a,s=>∀todo,T (G (aM b a (.code .ret::todo)) cs) s
 | .panic ch,a,s=>∀todo,T (G {aM b a todo with mode:= .panicking ch} cs) s
 |_,_,_=>False
def Wp(C:Class)(fn:FuncId)(aC:Option Nat)(c:Code)(Q:Post)(a:Act)(s:St):Prop:=
 ∀main T,C main T→∀(b:Frame) (k:List Item) (cs:List Frame),b.fn=fn→b.kind≠ .early→b.roundOf=aC→
  (∀e a' s',Q e a' s'→jK T b k cs e a' s')→T (G (aM b a (.code c::k)) cs) s
def ab(C:Class)(fn:FuncId)(aC:Option Nat)(ops:Array Oper)(todo:List Nat)(Q:Post)(a:Act)(s:St):Prop:=
 ∀main T,C main T→∀(b:Frame) (k:List Item) (cs:List Frame),b.fn=fn→b.kind≠ .early→b.roundOf=aC→
  (∀e a' s',Q e a' s'→jK T b k cs e a' s')→T (G (aM b a (.inRegion ops todo::k)) cs) s
def Fn(C:Class)(P:Program)(f:FuncId)(args:Array Value)(s:St)(R:Ending→St→Prop):Prop:=
 ∀main T,C main T→∀(c:Frame) (cs:List Frame),(∀v s',R (.returned v) s'→T (G (c.finish v) cs) s')→(∀ch s',R (.panicked ch) s'→T (G (c.raise ch) cs) s')→
  T (G (Frame.enter P f args .normal) (c::cs)) s
def Round(C:Class)(l:Nat)(f:FuncId)(tmps:Array Value)(assign body:Code)(s:St)(R:Ending→St→Prop):Prop:=
 ∀main T,C main T→∀(c:Frame) (cs:List Frame),(∀v s',R (.returned v) s'→T (G (c.finish v) cs) s')→(∀ch s',R (.panicked ch) s'→T (G (c.raise ch) cs) s')→
  T (G (Frame.round l f tmps assign body .normal) (c::cs)) s
section rules
variable {P:Program} {C:Class} {fn:FuncId} {aC:Option Nat} {Q:Post} {a:Act} {s:St}
theorem Fn.mono{R R':Ending→St→Prop}(h:Fn C P f args s R)(hr:∀e s,R e s→R' e s):Fn C P f args s R':=
 fun main T hT c cs h1 h2=>h main T hT c cs (fun v s' hv=>h1 v s' (hr _ _ hv)) fun ch s' hv=>h2 ch s' (hr _ _ hv)
theorem Fn.weaken{C':Class}(hc:∀main T,C' main T→C main T){R:Ending→St→Prop}(h:Fn C P f args s R):Fn C' P f args s R:=
 fun main T hT=>h main T (hc _ _ hT)
theorem Wp.more(hC:∀main T,C main T→Closed P main T){c:Code}(hl:s.le s')(h:Wp C fn aC c Q a s):Wp C fn aC c Q a s':=
 fun main T hT b k cs h1 h2 h3 h4=>(hC _ _ hT).mono _ _ _ hl (h main T hT b k cs h1 h2 h3 h4)
theorem wp_skip(hC:∀main T,C main T→Closed P main T)(h:Q .normal a s):Wp C fn aC .skip Q a s:=
 fun main T hT b k cs _ _ _ h4=>(hC main T hT).go rfl rfl (g':=G (aM b a k) cs) (fun w=>by simp[G,stepG,stepG.exec,aM]) (h4 _ _ _ h)
theorem jK.push{T:Goroutine→St→Prop}{b:Frame}{x:Item}{k:List Item}{cs:List Frame}{e:Exit}(hx:x.plain=true)(he:e≠ .normal)
 (h:jK T b k cs e a s):jK T b (x::k) cs e a s:=by
 cases e with
 |normal=>exact absurd rfl he
 |exit id=>
  have hh:exitTo id (x::k)=exitTo id k:=by cases x<;>simp_all[exitTo,Item.plain]
  simp only[jK,hh] at h ⊢;exact h
 |ret=>exact h
 |panic ch=>exact h
 |goto l=>exact h
 |outgrown=>exact h
def lP(K:Act→St→Prop)(Q:Post):Post
 | .normal,a,s=>K a s
 |e,a,s=>Q e a s
theorem wp_seq(hC:∀main T,C main T→Closed P main T){x:Code}(h:Wp C fn aC x (lP (fun a' s'=>Wp C fn aC y Q a' s') Q) a s):Wp C fn aC (.seq x y) Q a s:=by
 intro main T hT b k cs h1 h2 h3 h4
 refine(hC main T hT).go rfl rfl (g':=G (aM b a (.code x:: .code y::k)) cs) (fun w=>by simp[G,stepG,stepG.exec,aM]) ?_
 refine h main T hT b (.code y::k) cs h1 h2 h3 fun e a' s' q=>?_
 cases e with
 |normal=>exact q main T hT b k cs h1 h2 h3 h4
 |exit id=>exact(h4 _ _ _ q).push rfl (by simp)
 |ret=>exact(h4 _ _ _ q).push (x:= .code y) rfl (by simp)
 |panic ch=>exact(h4 _ _ _ q).push (x:= .code y) rfl (by simp)
 |goto l=>exact(h4 _ _ _ q).elim
 |outgrown=>exact(h4 _ _ _ q).elim
theorem GG(b:Frame)(a:Act)(todo:List Item)(x:Operand):(aM b a todo).eval x=a.eval x:=by cases x<;>rfl
theorem kz(b:Frame)(a:Act)(todo:List Item):(aM b a todo).eval=a.eval:=funext (GG b a todo)
theorem wp_cond(hC:∀main T,C main T→Closed P main T){c:Operand}{x:Code}{t:Bool}(hc:a.eval c= .bool t)(h:Wp C fn aC (if t then x else y) Q a s):Wp C fn aC (.cond c x y) Q a s:=by
 intro main T hT b k cs h1 h2 h3 h4
 refine(hC main T hT).go rfl rfl (g':=G (aM b a (.code (if t then x else y)::k)) cs) (fun w=>?_) (h main T hT b k cs h1 h2 h3 h4)
 have h':(aM b a (.code (.cond c x y)::k)).eval c= .bool t:=by rw[GG];exact hc
 simp only[aM] at h'
 simp[G,stepG,stepG.exec,aM,h']
theorem wp_cond_split(hC:∀main T,C main T→Closed P main T){c:Operand}{x:Code}{t:Bool}(hc:a.eval c= .bool t)(h1:t=true→Wp C fn aC x Q a s)(h2:t=false→Wp C fn aC y Q a s):
 Wp C fn aC (.cond c x y) Q a s:=by
 cases t
 ·exact wp_cond hC hc (h2 rfl)
 ·exact wp_cond hC hc (h1 rfl)
def qk(id:Nat)(Q:Post):Post
 | .exit QH,a,s=>if QH=id then Q .normal a s else Q (.exit QH) a s
 |e,a,s=>Q e a s
theorem wp_block(hC:∀main T,C main T→Closed P main T){c:Code}(h:Wp C fn aC c (qk id Q) a s):Wp C fn aC (.block id c) Q a s:=by
 intro main T hT b k cs h1 h2 h3 h4
 refine(hC main T hT).go rfl rfl (g':=G (aM b a (.code c:: .inBlock id::k)) cs) (fun w=>by simp[G,stepG,stepG.exec,aM]) ?_
 refine h main T hT b (.inBlock id::k) cs h1 h2 h3 fun e a' s' q=>?_
 cases e with
 |normal=>exact(hC main T hT).go rfl rfl (g':=G (aM b a' k) cs) (fun w=>by simp[G,stepG,stepG.exec,aM]) (h4 _ _ _ q)
 |exit QH=>
  by_cases HB:QH=id
  ·simp only[qk,HB,if_true] at q
   have:=h4 _ _ _ q
   simp only[jK,exitTo,HB,beq_self_eq_true,if_true]
   exact this
  ·simp only[qk,HB,if_false] at q
   have:=h4 _ _ _ q
   have eg:(id==QH)=false:=by simp;exact fun h=>HB h.symm
   simp only[jK,exitTo,eg,Bool.false_eq_true,if_false] at this ⊢
   exact this
 |ret=>exact h4 _ _ _ q
 |panic ch=>exact h4 _ _ _ q
 |goto l=>exact(h4 _ _ _ q).elim
 |outgrown=>exact(h4 _ _ _ q).elim
theorem wp_exit(hC:∀main T,C main T→Closed P main T)(h:Q (.exit id) a s):Wp C fn aC (.exit id) Q a s:=by
 intro main T hT b k cs h1 h2 h3 h4
 have h':=h4 _ _ _ h
 simp only[jK] at h'
 cases hk:exitTo id k with
 |some k'=>
  rw[hk] at h'
  exact(hC main T hT).go rfl rfl (g':=G (aM b a k') cs) (fun w=>by simp[G,stepG,stepG.exec,aM,hk]) h'
 |none=>rw[hk] at h';exact h' k hk
theorem wp_ret{fn:FuncId}(h:Q .ret a s):Wp C fn aC .ret Q a s:=fun _ _ _ _ _ _ _ _ _ h4=>h4 _ _ _ h _
theorem wp_region(hC:∀main T,C main T→Closed P main T){ops:Array Oper}(h:ab C fn aC ops (List.range ops.size) Q a s):Wp C fn aC (.region id ops false) Q a s:=
 fun main T hT b k cs h1 h2 h3 h4=>(hC main T hT).go rfl rfl (g':=G (aM b a (.inRegion ops (List.range ops.size)::k)) cs) (fun w=>by simp[G,stepG,stepG.exec,aM]) (h main T hT b k cs h1 h2 h3 h4)
theorem wp_region_draw(hC:∀main T,C main T→Closed P main T){ops:Array Oper}(h:∀t,ab C fn aC ops (Region.schedule (P.follows .mixedOrders) ops t) Q a s):Wp C fn aC (.region id ops true) Q a s:=by
 intro main T hT b k cs h1 h2 h3 h4
 refine(hC main T hT).step _ _ rfl fun w hw=>?_
 refine⟨G (aM b a (.inRegion ops (Region.schedule (P.follows .mixedOrders) ops (w.tape w.drawn (.order b.fn id)))::k)) cs,{w with drawn:=w.drawn+1},#[],s,?_,rfl,Cj hw _,h _ main T hT b k cs h1 h2 h3 h4⟩
 simp[G,stepG,stepG.exec,aM,choose,Sem.run,Question.forced,Question.cut]
theorem tw(hC:∀main T,C main T→Closed P main T){ops:Array Oper}(h:Q .normal a s):ab C fn aC ops [] Q a s:=
 fun main T hT b k cs _ _ _ h4=>(hC main T hT).go rfl rfl (g':=G (aM b a k) cs) (fun w=>by simp[G,stepG,stepG.exec,aM]) (h4 _ _ _ h)
theorem fJ(b:Frame)(a:Act)(ops:Array Oper)(i:Nat)(rest:List Nat)(k:List Item)(v:Value):
 (aM b a (.inRegion ops (i::rest)::k)).finish v=aM b (a.put ((ops[i]?).bind (·.dst)) v) (.inRegion ops rest::k):=by
 cases h:(ops[i]?).bind (·.dst)<;>simp[Frame.finish,aM,Act.put,h]
theorem tv(hC:∀main T,C main T→Closed P main T){ops:Array Oper}{i:Nat}{o:Oper}(ho:ops[i]?=some o) (hw:Region.wanted o (yielded ops a.tmps)=false)
 (h:ab C fn aC ops rest Q (a.put o.dst undef) s):ab C fn aC ops (i::rest) Q a s:=by
 intro main T hT b k cs h1 h2 h3 h4
 refine(hC main T hT).go rfl rfl (g':=G (aM b (a.put o.dst undef) (.inRegion ops rest::k)) cs) (fun w=>?_) (h main T hT b k cs h1 h2 h3 h4)
 have:=fJ b a ops i rest k undef
 rw[ho] at this
 simp only[Option.bind_some] at this
 rw[←this]
 simp[G,stepG,stepG.exec,aM,ho,hw]
def apS(dst:Option Tmp)(a:Act)(K:Act→St→Prop)(Q:Post):Ending→St→Prop
 | .returned v,s=>K (a.put dst v) s
 | .panicked ch,s=>Q (.panic ch) a s
 | .outgrown,_=>False
def upon(C:Class)(P:Program)(aC:Option Nat)(dst:Option Tmp)(a:Act)(K:Act→St→Prop)(Q:Post):Next→St→Prop
 | .value v,s=>K (a.put dst v) s
 | .skip,s=>K (a.put dst undef) s
 | .enter f args,s=>Fn C P f args s (apS dst a K Q)
 | .round l f tmps assign body,s=>Round C l f tmps assign body s (apS dst a K Q)
 | .defer d,s=>aC=none∧K ({a with defers:=d::a.defers}.put dst undef) s
 |_,_=>False
def KU(a:Act)(Q:Post):Halt→St→Prop
 | .panic v,s=>Q (.panic [{v,recovered:=false}]) a s
 |_,_=>False
theorem YV(g:Bool×Array Event→Event→Bool×Array Event)(hg:∀x y,(g x y).2=x.2∨(g x y).2=x.2.push y):
 ∀(l:List Event) (x:Bool×Array Event),∀e∈(l.foldl g x).2,e∈x.2∨e∈l:=by
 intro l
 induction l with
 |nil=>intro x e he;exact .inl he
 |cons y l ih=>
  intro x e he
  simp only[List.foldl_cons] at he
  rcases ih _ e he with h|h
  ·rcases hg x y with h'|h'
   ·rw[h'] at h;exact .inl h
   ·rw[h'] at h
    rcases Array.mem_push.1 h with h|h
    ·exact .inl h
    ·exact .inr (by simp[h])
  ·exact .inr (List.mem_cons_of_mem _ h)
theorem iv(P:Program)(f:FuncId)(es:Array Event):∀e∈seen P f es,e∈es:=by
 intro e he
 unfold seen at he
 simp only at he
 rw[←Array.foldl_toList] at he
 rcases YV _ (fun x y=>by
  rcases x with ⟨q,kept⟩
  dsimp only
  split
  ·exact .inl rfl
  ·dsimp only
   split
   ·exact .inl rfl
   ·exact .inr rfl) es.toList _ e he with h|h
 ·simp at h
 ·exact Array.mem_toList_iff.1 h
theorem Trans.sub{w:World}{es eA:Array Event}(h:Trans s w s' w' es)(hs:∀e∈eA,e∈es):Trans s w s' w' eA:=
 ⟨h.jI,h.size,h.frame,h.own,h.Kh,h.os,h.output,h.tape,fun e he=>h.uM e (hs e he),fun e he=>h.low e (hs e he)⟩
theorem KS(hC:∀main T,C main T→Closed P main T){ops:Array Oper}{i:Nat}{o:Oper}(ho:ops[i]?=some o) (hw:Region.wanted o (yielded ops a.tmps)=true)
 (hd:aC=none∨∀c,o.op≠ .defer c)
 (h:bN P (execOp a.eval o) s (upon C P aC o.dst a (fun a' s'=>ab C fn aC ops rest Q a' s') Q) (KU a Q)):ab C fn aC ops (i::rest) Q a s:=by
 intro main T hT b k cs h1 h2 h3 h4
 have iG:=hC main T hT
 have mj:∀(a:Act) v,(aM b a (.inRegion ops (i::rest)::k)).finish v=aM b (a.put o.dst v) (.inRegion ops rest::k):=by
  intro a v;rw[fJ,ho];rfl
 have hk:(b.kind==CallKind.early)=false:=by simpa using h2
 have gB:∀w,stepG P main (G (aM b a (.inRegion ops (i::rest)::k)) cs) w=stepG.apply P true (aM b a (.inRegion ops (i::rest)::k)) cs none (execOp a.eval o) w:=by
  intro w
  have he:=kz b a (.inRegion ops (i::rest)::k)
  simp only[aM] at he
  simp only[G,stepG,stepG.exec,aM,ho,Option.map_some,Option.getD_some,hw,if_true,stepG.oper,Frame.oper?,he]
  rcases hd with hd|hd
  ·rw[h3,hd]
  ·split
   ·rename_i hx hy;exact absurd hy (hd _)
   ·rfl
 refine iG.step _ _ rfl fun w oY=>?_
 obtain⟨r,es,hr,hl⟩:=gH _ _ _ _ w #[] h oY
 rw[Array.empty_append] at hr
 have mD:=gB w
 simp only[stepG.apply,if_true,hr] at mD
 simp only[aM,hk,Bool.false_eq_true,if_false] at mD
 have fD:=iv P b.fn es
 cases r with
 |ok nx w'=>
  obtain⟨s',ht,hu⟩:=hl
  have ht':=ht.sub fD
  cases nx with
  |value v=>
   simp only[GStep.after,Array.append_empty] at mD
   refine⟨_,_,_,s',mD,rfl,ht',?_⟩
   have:=hu main T hT b k cs h1 h2 h3 h4
   rw[←mj] at this;exact this
  |skip=>
   simp only[GStep.after,Array.append_empty] at mD
   refine⟨_,_,_,s',mD,rfl,ht',?_⟩
   have:=hu main T hT b k cs h1 h2 h3 h4
   rw[←mj] at this;exact this
  |enter f args=>
   simp only[GStep.after,Array.append_empty] at mD
   refine⟨_,_,_,s',mD,rfl,ht',?_⟩
   refine hu main T hT (aM b a (.inRegion ops (i::rest)::k)) cs (fun v ZG hv=>?_) (fun ch ZG hv=>?_)
   ·rw[mj];exact hv main T hT b k cs h1 h2 h3 h4
   ·exact h4 _ _ _ hv _
  |round l f tmps assign body=>
   simp only[GStep.after,Array.append_empty] at mD
   refine⟨_,_,_,s',mD,rfl,ht',?_⟩
   refine hu main T hT (aM b a (.inRegion ops (i::rest)::k)) cs (fun v ZG hv=>?_) (fun ch ZG hv=>?_)
   ·rw[mj];exact hv main T hT b k cs h1 h2 h3 h4
   ·exact h4 _ _ _ hv _
  |defer d=>
   simp only[GStep.after,Array.append_empty] at mD
   refine⟨_,_,_,s',mD,rfl,ht',?_⟩
   have:=hu.2 main T hT b k cs h1 h2 h3 h4
   rw[←mj] at this
   exact this
  |_=>exact hu.elim
 |halt hh w'=>
  obtain⟨s',ht,hu⟩:=hl
  have ht':=ht.sub fD
  cases hh with
  |panic v=>
   simp only[GStep.after,Array.append_empty] at mD
   refine⟨_,_,_,s',mD,rfl,ht',?_⟩
   have hp:KU a Q (.panic v) s':=hu
   exact h4 _ _ _ hp _
  |_=>exact absurd hu id
def qR(P:Program)(fn:Func)(R:Ending→St→Prop):Post
 | .normal,a,s| .ret,a,s=>a.defers=[]∧bN P (results fn a.tmps) s (fun v s'=>∃s0,s0.le s'∧R (.returned v) s0) (fun _ _=>False)
 | .panic ch,a,s=>a.defers=[]∧R (.panicked ch) s
 |_,_,_=>False
theorem r5(hC:∀main T,C main T→Closed P main T){main:Bool}{T:Goroutine→St→Prop}(hT:C main T){f:FuncId}{fn:Func}(hf:P.funcs[f]?=some fn) {fr c:Frame} {cs:List Frame}
 (h1:fr.fn=f) (h2:fr.kind= .normal) (h3:fr.mode= .returning) (h4:fr.defers=[]) {R:Ending→St→Prop} {s:St}
 (hr:bN P (results fn fr.tmps) s (fun v s'=>∃s0,s0.le s'∧R (.returned v) s0) (fun _ _=>False)) (hk:∀v s',R (.returned v) s'→T (G (c.finish v) cs) s'):T (G fr (c::cs)) s:=by
 refine(hC main T hT).step _ _ rfl fun w oY=>?_
 obtain⟨r,es,bV,hl⟩:=gH _ _ _ _ w #[] hr oY
 clear hr
 rw[Array.empty_append] at bV
 cases r with
 |ok v w'=>
  obtain⟨s',ht,hu⟩:=hl
  refine⟨G (c.finish v) cs,w',seen P fr.fn es,s',?_,rfl,ht.sub (iv _ _ _),by obtain⟨s0,hl0,uK⟩:=hu;exact(hC main T hT).mono _ _ _ hl0 (hk _ _ uK)⟩
  rcases fr with ⟨fn',tmps,todo,defers,mode,kind,ro⟩
  simp only at h1 h2 h3 h4 bV ⊢
  subst h1 h2 h3 h4
  simp only[G,stepG,unwind,hf,bV,doReturn,GStep.after,Array.append_empty]
 |halt _ _=>obtain⟨_,_,hu⟩:=hl;exact hu.elim
theorem PV(hC:∀main T,C main T→Closed P main T){f:FuncId}{fn:Func}{c:Code}{args:Array Value}{R:Ending→St→Prop}
 (hf:P.funcs[f]?=some fn) (hb:fn.body=some c) (h:Wp C f none c (qR P fn R) ⟨args++Array.replicate (fn.ntmps-args.size) undef,[]⟩ s):Fn C P f args s R:=by
 intro main T hT cl cs k1 k2
 let b:Frame:={(default:Frame) with fn:=f,kind:= .normal,roundOf:=none}
 have gY:Frame.enter P f args .normal=aM b ⟨args++Array.replicate (fn.ntmps-args.size) undef,[]⟩ [.code c]:=by
  simp[Frame.enter,aM,hf,hb,b]
 rw[gY]
 refine h main T hT b [] (cl::cs) rfl (by simp[b]) rfl fun e a' s' q=>?_
 have rB:∀(todo:List Item),a'.defers=[]→bN P (results fn a'.tmps) s' (fun v s'=>∃s0,s0.le s'∧R (.returned v) s0) (fun _ _=>False)→T (G {aM b a' todo with mode:= .returning} (cl::cs)) s':=
  fun todo hd hr=>r5 hC hT hf rfl rfl rfl hd hr k1
 cases e with
 |normal=>
  exact(hC main T hT).go rfl rfl (g':=G {aM b a' [] with mode:= .returning} (cl::cs)) (fun w=>by simp[G,stepG,stepG.exec,aM,b]) (rB _ q.1 q.2)
 |ret=>
  exact fun todo=>(hC main T hT).go rfl rfl (g':=G {aM b a' (.code .ret::todo) with mode:= .returning} (cl::cs)) (fun w=>by simp[G,stepG,stepG.exec,aM,b]) (rB _ q.1 q.2)
 |panic ch=>
  intro todo
  refine(hC main T hT).go rfl rfl (g':=G (cl.raise ch) cs) (fun w=>?_) (k2 _ _ q.2)
  have CE:∀fr:Frame,fr.fn=f→fr.catches P=false:=by
   intro fr YG;simp[Frame.catches,YG,hf]
  have:=CE {aM b a' todo with mode:= .panicking ch} rfl
  simp only[aM,q.1] at this
  simp[G,stepG,unwind,aM,b,q.1,this]
 |exit id=>exact q.elim
 |goto l=>exact q.elim
 |outgrown=>exact q.elim
end rules
abbrev Env:=List (Nat×Value)
variable {env:Env}
def get:Env→Nat→Value
 | [],_=>undef
 | (k,v)::r,t=>bif Nat.beq k t then v else get r t
def A(n:Nat)(env:Env)(D:List Deferred):Act:=⟨Array.ofFn (n:=n) fun i=>get env i,D⟩
def ev(n:Nat)(env:Env):Operand→Value
 | .tmp t=>bif Nat.blt t n then get env t else undef
 | .const v=>v
 | .global g=> .pointer (some ⟨g,0,none⟩)
 | .func f=> .func (.func f) #[] #[]
def gM:Env→Nat→Option Value
 | [],_=>none
 | (k,v)::r,t=>bif Nat.beq k t then some v else gM r t
def bu(n:Nat)(env:Env):Operand→Option Value
 | .tmp t=>bif Nat.blt t n then gM env t else none
 | .const v=>some v
 | .global g=>some (.pointer (some ⟨g,0,none⟩))
 | .func f=>some (.func (.func f) #[] #[])
def xg(n:Nat)(env:Env):List Operand→Option (List Value)
 | []=>some []
 |x::l=>match bu n env x with
  |some v=>match xg n env l with
   |some r=>some (v::r)
   |none=>none
  |none=>none
def uM(n:Nat)(env:Env)(xs:Array Operand):Option (List Value):=xg n env xs.toList
theorem mE{t:Nat}{v:Value}(h:gM env t=some v):get env t=v:=by
 induction env with
 |nil=>cases h
 |cons x env ih=>
  rcases x with ⟨k,u⟩
  simp only[gM,get] at h ⊢
  cases hb:Nat.beq k t with
  |true=>rw[hb] at h;simpa using h
  |false=>rw[hb] at h;exact ih h
theorem aG{v:Value}(h:bu n env x=some v):ev n env x=v:=by
 cases x with
 |tmp t=>
  simp only[bu,ev] at h ⊢
  cases hb:Nat.blt t n with
  |true=>rw[hb] at h;exact mE h
  |false=>rw[hb] at h;cases h
 |const u=>simpa [bu,ev] using h
 |global g=>simpa [bu,ev] using h
 |func f=>simpa [bu,ev] using h
theorem ags:∀ {xs:List Operand} {l:List Value},xg n env xs=some l→xs.map (ev n env)=l
 | [],l,h=>by simpa [xg] using h
 |x::xs,l,h=>by
  simp only[xg] at h
  cases hx:bu n env x with
  |none=>rw[hx] at h;cases h
  |some v=>
   rw[hx] at h
   cases hr:xg n env xs with
   |none=>rw[hr] at h;cases h
   |some r=>rw[hr] at h;simp only[Option.some.injEq] at h;subst h;simp[aG hx,ags hr]
theorem rE(h:uM n env xs=some l):xs.map (ev n env)=⟨l⟩:=by
 have:=ags h
 rcases xs with ⟨xs⟩
 simpa using this
def upd(dst:Option Tmp)(v:Value)(env:Env):Env:=
 match dst with
 |some d=>(d,v)::env
 |none=>env
theorem MZ(n:Nat)(env:Env)(D:List Deferred)(t:Nat):(A n env D).tmps[t]?=if t <n then some (get env t) else none:=by
 simp only[A,Array.getElem?_ofFn]
 split<;>rfl
theorem eB(n:Nat)(env:Env)(D:List Deferred):(A n env D).eval=ev n env:=by
 funext x
 cases x with
 |tmp t=>
  simp only[Act.eval,ev,Array.getD_eq_getD_getElem?,MZ]
  by_cases h:t <n
  ·rw[if_pos h,show Nat.blt t n=true from by simpa [Nat.blt_eq] using h];rfl
  ·rw[if_neg h,show Nat.blt t n=false from by simpa [Nat.blt_eq,←Bool.not_eq_true] using h];rfl
 |_=>rfl
theorem cF(k t:Nat)(v:Value)(r:Env):get ((k,v)::r) t=if k=t then v else get r t:=by
 simp only[get]
 by_cases h:k=t
 ·subst h;simp
 ·rw[if_neg h,show Nat.beq k t=false from by simpa [←Bool.not_eq_true] using h];rfl
theorem a8(n:Nat)(env:Env)(D:List Deferred)(dst:Option Tmp)(v:Value):(A n env D).put dst v=A n (upd dst v env) D:=by
 cases dst with
 |none=>rfl
 |some d=>
  simp only[Act.put,upd,A,Act.mk.injEq,and_true]
  apply Array.ext_getElem?
  intro i
  rw[Array.getElem?_setIfInBounds]
  simp only[Array.getElem?_ofFn,Array.size_ofFn]
  by_cases h:d=i
  ·subst h
   by_cases h2:d <n<;>simp[h2,cF]
  ·simp only[h,if_false]
   split
   ·simp[cF,h]
   ·rfl
def Holds(n:Nat)(env:Env)(D:List Deferred)(a:Act):Prop:=∃rest,a=A n (env++rest) D
theorem get_append(env rest:Env)(t:Nat):get (env++rest) t=if (env.any fun x=>x.1==t) then get env t else get rest t:=by
 induction env with
 |nil=>simp
 |cons x env ih=>
  rcases x with ⟨k,v⟩
  simp only[List.cons_append,cF,List.any_cons]
  by_cases h:k=t
  ·simp[h]
  ·have hk:(k==t)=false:=by simpa using h
   rw[if_neg h,if_neg h,ih,hk,Bool.false_or]
theorem holds_of(n:Nat)(env kP:Env)(D:List Deferred)(h:∀x∈env,get kP x.1=x.2)(hd:∀x∈env,get env x.1=x.2):Holds n env D (A n kP D):=by
 refine⟨kP,?_⟩
 simp only[A,Act.mk.injEq,and_true]
 congr 1
 funext i
 rw[get_append]
 split
 ·rename_i ha
  obtain⟨x,hx,hk⟩:=List.any_eq_true.1 ha
  have hk:x.1=i.val:=by simpa using hk
  rw[←hk,h x hx,hd x hx]
 ·rfl
def az(ops:Array Oper)(n:Nat)(env:Env):Option (Nat×Bool)→Bool
 |none=>true
 |some (j,want)=>match (ops[j]?).bind (·.dst) with
  |some d=>match bu n env (.tmp d) with
   |some (.bool b)=>b==want
   |_=>false
  |none=>false
theorem Eo{ops:Array Oper}{D:List Deferred}{j:Nat}{d:Tmp}{b:Bool}(hd:(ops[j]?).bind (·.dst)=some d) (hv:bu n env (.tmp d)=some (.bool b)):yielded ops (A n env D).tmps j=some b:=by
 simp only[yielded,hd,Option.bind_some,MZ]
 simp only[bu] at hv
 by_cases cK:d <n
 ·rw[show Nat.blt d n=true from by simpa [Nat.blt_eq] using cK] at hv
  simp only[cond_true] at hv
  rw[if_pos cK,mE hv]
 ·rw[show Nat.blt d n=false from by simpa [Nat.blt_eq,←Bool.not_eq_true] using cK] at hv
  cases hv
theorem A1(ops:Array Oper)(n:Nat)(env:Env)(D:List Deferred)(o:Oper)(h:az ops n env o.guard=true):Region.wanted o (yielded ops (A n env D).tmps)=true:=by
 unfold Region.wanted
 cases hg:o.guard with
 |none=>rfl
 |some x=>
  rcases x with ⟨j,want⟩
  rw[hg] at h
  simp only[az] at h
  cases hd:(ops[j]?).bind (·.dst) with
  |none=>rw[hd] at h;cases h
  |some d=>
   rw[hd] at h
   simp only at h
   cases hv:bu n env (.tmp d) with
   |none=>rw[hv] at h;cases h
   |some v=>
    rw[hv] at h
    cases v<;>first
     | (simp only at h;simp only[Eo hd hv];simpa using h)
     | (cases h;done)
theorem NA(ops:Array Oper)(n:Nat)(env:Env)(D:List Deferred)(o:Oper)(j:Nat)(want:Bool)(d:Tmp)(b:Bool)(hg:o.guard=some (j,want))(hd:(ops[j]?).bind (·.dst)=some d)
 (hv:bu n env (.tmp d)=some (.bool b)) (hb:(b==want)=false):Region.wanted o (yielded ops (A n env D).tmps)=false:=by
 unfold Region.wanted
 rw[hg]
 simp only[Eo hd hv]
 simpa using hb
structure TF(P:Program)(t:TypeId)(d:TypeDesc)(size bytes:Nat)(zero:List Value)(agg:Bool):Prop where
 und:P.underlying t=some d
 info:∃i,P.info? t=some i∧i.size=size∧i.bytes=bytes∧∃z,i.zero=some z∧z.cells=⟨zero⟩∧z=if agg then .agg ⟨zero⟩ else zero.headD undef
 isAgg:agg=(match d with| .struct _| .array _ _=>true|_=>false)
structure FF(P:Program)(f:FuncId):Prop where
 ff:∃fn,P.funcs[f]?=some fn∧(fn.name== "runtime.NumGoroutine")=false∧fn.body.isNone=false
section rules
variable {P:Program} {C:Class} {fn:FuncId} {aC:Option Nat} {Q:Post} {s:St} {n:Nat} {env:Env} {D:List Deferred}
variable {ops:Array Oper} {i:Nat} {rest:List Nat} {dst:Option Tmp} {ty:TypeId} {pos:String} {dc:Array Edge} {g:Option (Nat×Bool)}
theorem bR(hC:∀main T,C main T→Closed P main T){o:Oper}(ho:ops[i]?=some o) (hw:az ops n env o.guard=true) (hd:∀c,o.op≠ .defer c)
 (h:bN P (execOp (ev n env) o) s (upon C P aC o.dst (A n env D) (fun a' s'=>ab C fn aC ops rest Q a' s') Q) (KU (A n env D) Q)):ab C fn aC ops (i::rest) Q (A n env D) s:=by
 rw[←eB n env D] at h
 exact KS hC ho (A1 _ _ _ _ _ hw) (.inr hd) h
theorem tA(hC:∀main T,C main T→Closed P main T){o:Oper}(ho:ops[i]?=some o) {j:Nat} {want:Bool} {d:Tmp} {b:Bool} (hg:o.guard=some (j,want)) (hd:(ops[j]?).bind (·.dst)=some d)
 (hv:bu n env (.tmp d)=some (.bool b)) (hb:(b==want)=false) (h:ab C fn aC ops rest Q (A n (upd o.dst undef env) D) s):ab C fn aC ops (i::rest) Q (A n env D) s:=by
 refine tv hC ho (NA _ _ _ _ _ _ _ _ _ hg hd hv hb) ?_
 rw[a8];exact h
theorem si(hC:∀main T,C main T→Closed P main T){o:Oper}{v:Value}(ho:ops[i]?=some o) (hw:az ops n env o.guard=true) (hd:∀c,o.op≠ .defer c)
 (hv:execOp (ev n env) o=Sem.pure (.value v)) (h:ab C fn aC ops rest Q (A n (upd o.dst v env) D) s):ab C fn aC ops (i::rest) Q (A n env D) s:=by
 refine bR hC ho hw hd ?_
 rw[hv]
 show ab _ _ _ _ _ _ _ _
 rw[a8];exact h
theorem OB(hC:∀main T,C main T→Closed P main T){op:BinOp}{y:Operand}{T:TypeId}{k:IntKind}{a b:Int}{v:Value}(ho:ops[i]?=some ⟨dst,.binOp op T x y T',ty,pos,dc,g⟩) (hw:az ops n env g=true)
 (hx:bu n env x=some (.int k a)) (hy:bu n env y=some (.int k b)) (hv:binOp op T (.int k a) (.int k b)=Sem.pure v) (h:ab C fn aC ops rest Q (A n (upd dst v env) D) s):ab C fn aC ops (i::rest) Q (A n env D) s:=by
 refine si hC ho hw (by simp) ?_ h
 simp only[execOp,aG hx,aG hy]
 have he:eqGuard op T x y (.int k a) (.int k b)=Sem.pure ():=by
  unfold eqGuard
  cases op<;>rfl
 rw[he]
 show Sem.bind (Sem.bind (Sem.pure ()) fun _=>binOp op T (.int k a) (.int k b)) _=_
 simp only[Sem.bind,hv]
 rfl
theorem j8(x:Int)(h: -9223372036854775808≤x∧x≤9223372036854775807):IntKind.i64.wrap x=x:=IntWalk.i64_in x h
end rules
section sem
variable {P:Program} {α:Type} {s:St} {Q:α→St→Prop} {E:Halt→St→Prop} {t:TypeId} {d:TypeDesc} {sz bE:Nat} {z:List Value} {ag:Bool}
theorem af{a:β}{k:β→Sem α}:bN P (pure a >>= k) s Q E=bN P (k a) s Q E:=rfl
theorem aa{γ:Type}{x:Sem β}{f:β→Sem γ}{k:γ→Sem α}:bN P ((x >>= f) >>= k) s Q E=bN P (x >>= fun a=>f a >>= k) s Q E:=by
 have:∀(x:Sem β),((x.bind f).bind k)=x.bind fun a=>(f a).bind k:=by
  intro x
  induction x with
  |pure a=>rfl
  |halt h=>rfl
  |load m a k ih=>simp only[Sem.bind,ih]
  |store m a v k ih=>simp only[Sem.bind,ih]
  |new o k ih=>simp only[Sem.bind,ih]
  |shape r k ih=>simp only[Sem.bind,ih]
  |freeze a n k ih=>simp only[Sem.bind,ih]
  |frozen a k ih=>simp only[Sem.bind,ih]
  |getObj r k ih=>simp only[Sem.bind,ih]
  |setObj r o k ih=>simp only[Sem.bind,ih]
  |choose q k ih=>simp only[Sem.bind,ih]
  |sys c k ih=>simp only[Sem.bind,ih]
  |program k ih=>simp only[Sem.bind,ih]
  |mark m k ih=>simp only[Sem.bind,ih]
 show bN P ((x.bind f).bind k) s Q E=bN P (x.bind fun a=>(f a).bind k) s Q E
 rw[this]
theorem eT{k:Program→Sem α}:bN P (program >>= k) s Q E=bN P (k P) s Q E:=rfl
theorem bh(h:TF P t d sz bE z ag){k:TypeDesc→Sem α}:bN P (underlying t >>= k) s Q E=bN P (k d) s Q E:=by
 simp only[underlying,aa,eT,h.und,af]
theorem cm(h:TF P t d sz bE z ag){k:Nat→Sem α}:bN P (sizeOf t >>= k) s Q E=bN P (k sz) s Q E:=by
 obtain⟨i,hi,h1,_⟩:=h.info
 simp only[sizeOf,typeInfo,aa,eT,hi,af,h1]
def Nl(z:List Value)(ag:Bool):Value:=if ag then .agg ⟨z⟩ else z.headD undef
theorem jT(h:TF P t d sz bE z ag){k:Value→Sem α}:bN P (zeroValue t >>= k) s Q E=bN P (k (Nl z ag)) s Q E:=by
 obtain⟨i,hi,h1,h2,x,hx,hc,he⟩:=h.info
 simp only[zeroValue,typeInfo,aa,eT,hi,af,hx,he,Nl]
theorem eo(h:TF P t d sz bE z ag):(Nl z ag).cells=⟨z⟩:=by
 obtain⟨i,hi,h1,h2,x,hx,hc,he⟩:=h.info
 rw[←hc,he];rfl
theorem j9(h:TF P t d sz bE z ag){k:Bool→Sem α}:bN P (isAgg t >>= k) s Q E=bN P (k ag) s Q E:=by
 simp only[isAgg,aa,bh h]
 rw[h.isAgg]
 cases d<;>rfl
theorem nW{k:Nat→Sem α}:bN P (newObj o >>= k) s Q E=∀b,¬s.knows b→bN P (k b) ⟨s.ro,(b,o)::s.rw⟩ Q E:=rfl
theorem jb{cs:Array Value}{k:Addr→Sem α}:bN P (newRow e cs >>= k) s Q E=∀b,¬s.knows b→bN P (k ⟨b,0,none⟩) ⟨s.ro,(b,.cells cs e)::s.rw⟩ Q E:=rfl
theorem rS{v:Value}{k:Addr→Sem α}:bN P (newVar e v >>= k) s Q E=∀b,¬s.knows b→bN P (k ⟨b,0,none⟩) ⟨s.ro,(b,.cells v.cells e)::s.rw⟩ Q E:=rfl
theorem dP(b o k:Nat):(⟨b,o,none⟩:Addr).add k=⟨b,o+k,none⟩:=by
 unfold Addr.add;split
 ·rename_i h;subst h;rfl
 ·rfl
def nth:List Value→Nat→Option Value
 | [],_=>none
 |v::_,0=>some v
 |_::l,o+1=>nth l o
def jR:List Value→Nat→Option (List Value)
 |_,0=>some []
 | [],_+1=>none
 |v::l,n+1=>match jR l n with
  |some r=>some (v::r)
  |none=>none
def sub:List Value→Nat→Nat→Option (List Value)
 |l,0,n=>jR l n
 | [],_+1,_=>none
 |_::l,o+1,n=>sub l o n
def dB:List Value→Nat→List Value→List Value
 | [],_,_=>[]
 |x::l,_,[]=>x::l
 |_::l,0,v::vs=>v::dB l 0 vs
 |x::l,o+1,v::vs=>x::dB l o (v::vs)
theorem rk:∀(l:List Value) (o:Nat),nth l o=l[o]?
 | [],_=>rfl
 |_::_,0=>rfl
 |_::l,o+1=>by simp[nth,rk l o]
theorem NJ:∀(l:List Value) (n:Nat) (vs:List Value),jR l n=some vs→vs.length=n∧∀(j:Nat) (v:Value),vs[j]?=some v→l[j]?=some v
 |l,0,vs,h=>by simp[jR] at h;subst h;simp
 | [],n+1,vs,h=>by simp[jR] at h
 |x::l,n+1,vs,h=>by
  simp only[jR] at h
  cases hr:jR l n with
  |none=>rw[hr] at h;cases h
  |some r=>
   rw[hr] at h;simp only[Option.some.injEq] at h;subst h
   obtain⟨h1,h2⟩:=NJ l n r hr
   refine⟨by simp[h1],fun j v hj=>?_⟩
   cases j with
   |zero=>simpa using hj
   |succ j=>simp at hj ⊢;exact h2 j v hj
theorem sub_eq:∀(l:List Value) (o n:Nat) (vs:List Value),sub l o n=some vs→vs.length=n∧∀(j:Nat) (v:Value),vs[j]?=some v→l[o+j]?=some v
 |l,0,n,vs,h=>by
  have h:jR l n=some vs:=by cases l<;>exact h
  obtain⟨h1,h2⟩:=NJ l n vs h
  exact⟨h1,fun j v hj=>by rw[Nat.zero_add];exact h2 j v hj⟩
 | [],o+1,n,vs,h=>by simp[sub] at h
 |x::l,o+1,n,vs,h=>by
  obtain⟨h1,h2⟩:=sub_eq l o n vs (by simpa [sub] using h)
  refine⟨h1,fun j v hj=>?_⟩
  rw[show o+1+j=(o+j)+1 from by omega]
  simpa using h2 j v hj
theorem kY:∀(l:List Value) (o:Nat) (vs:List Value),(dB l o vs).length=l.length
 | [],_,_=>rfl
 |_::_,_,[]=>by simp[dB]
 |_::l,0,v::vs=>by simp[dB,kY l 0 vs]
 |x::l,o+1,v::vs=>by simp[dB,kY l o (v::vs)]
theorem kX(l:List Value)(o:Nat):dB l o []=l:=by cases l<;>cases o<;>rfl
theorem Bo:∀(l:List Value) (o:Nat) (v:Value) (vs:List Value),o <l.length→dB l o (v::vs)=dB (l.set o v) (o+1) vs
 |x::l,0,v,vs,_=>by
  cases vs with
  |nil=>simp[dB,kX]
  |cons w ws=>simp[dB]
 |x::l,o+1,v,vs,h=>by
  have:=Bo l o v vs (by simpa using h)
  cases vs with
  |nil=>simp only[dB,this,kX,List.set_cons_succ]
  |cons w ws=>simp only[dB,this,List.set_cons_succ]
def Reads(s:St)(b o:Nat)(v:Value):Prop:=∃l t fz,s.has b (.cells ⟨l⟩ t fz)∧nth l o=some v
def cA(s:St)(b o n:Nat)(vs:List Value):Prop:=∃l t fz,s.has b (.cells ⟨l⟩ t fz)∧sub l o n=some vs
theorem uR{o:Nat}{v:Value}(h:Reads s b o v){k:Value→Sem α}(hk:bN P (k v) s Q E):bN P (load ⟨b,o,none⟩ >>= k) s Q E:=by
 obtain⟨l,t,fz,h1,h2⟩:=h
 exact⟨rfl,rfl,⟨l⟩,t,fz,v,h1,by rw[rk] at h2;simpa using h2,hk⟩
theorem C8{o:Nat}{c:List Value}{fz:Nat×Nat}(hb:s.has b (.cells ⟨c⟩ t fz))(l:List Value):∀(i:Nat) (acc:Array Value) {k:Array Value→Sem α},(∀(j:Nat) (v:Value),l[j]?=some v→c[o+i+j]?=some v)→bN P (k (acc++l.toArray)) s Q E→
 bN P (loadCellsFrom ⟨b,o,none⟩ i l.length acc >>= k) s Q E:=by
 induction l with
 |nil=>intro i acc k _ hk;simpa [loadCellsFrom,af] using hk
 |cons v l ih=>
  intro i acc k h2 hk
  simp only[List.length_cons,loadCellsFrom,aa,dP]
  refine uR ⟨c,t,fz,hb,by rw[rk];exact h2 0 v rfl⟩ ?_
  refine ih (i+1) (acc.push v) (fun j x hx=>?_) (by simpa using hk)
  have:=h2 (j+1) x (by simpa using hx)
  rw[show o+(i+1)+j=o+i+(j+1) from by omega];exact this
theorem iJ{o m:Nat}(h:cA s b o m l){k:Array Value→Sem α}(hk:bN P (k ⟨l⟩) s Q E):bN P (loadCells ⟨b,o,none⟩ m >>= k) s Q E:=by
 obtain⟨c,t,fz,h1,h2⟩:=h
 obtain⟨h3,h4⟩:=sub_eq _ _ _ _ h2
 subst h3
 exact C8 h1 l 0 #[] (by simpa using h4) (by simpa using hk)
theorem aiX{L:List (Nat×Obj)}{o:Nat}{v:Value}{c:List Value}(hs:s.rw=L++(b,.cells ⟨c⟩ e (0,0))::R)(ho:o <c.length)(h1:single v=true){k:Unit→Sem α}
 (hk:bN P (k ()) ⟨s.ro,L++(b,.cells ⟨c.set o v⟩ e (0,0))::R⟩ Q E):bN P (store ⟨b,o,none⟩ v >>= k) s Q E:=
 ⟨rfl,rfl,h1,L,⟨c⟩,e,(0,0),R,hs,by simpa using ho,by simp,by
  rw[show (⟨c⟩:Array Value).setIfInBounds o v=⟨c.set o v⟩ from by simp];exact hk⟩
theorem my{L:List (Nat×Obj)}{o:Nat}(l:List Value):∀(i:Nat) (c:List Value) (s:St) {k:Unit→Sem α},s.rw=L++(b,.cells ⟨c⟩ e (0,0))::R→o+i+l.length≤c.length→(∀v∈l,single v=true)→
 bN P (k ()) ⟨s.ro,L++(b,.cells ⟨dB c (o+i) l⟩ e (0,0))::R⟩ Q E→bN P (storeCells ⟨b,o,none⟩ l i >>= k) s Q E:=by
 induction l with
 |nil=>intro i c s k hs _ _ hk;rcases s with ⟨ro,HR⟩;simp only at hs;subst hs;rw[kX] at hk;simpa [storeCells,af] using hk
 |cons v l ih=>
  intro i c s k hs ho h1 hk
  simp only[List.length_cons] at ho
  simp only[storeCells,aa,dP]
  refine aiX hs (by omega) (h1 v (by simp)) ?_
  refine ih (i+1) _ _ rfl (by simp;omega) (fun x hx=>h1 x (by simp[hx])) ?_
  rw[Bo _ _ _ _ (by omega)] at hk
  simpa [Nat.add_assoc] using hk
end sem
section rules
variable {P:Program} {C:Class} {fn:FuncId} {aC:Option Nat} {Q:Post} {s:St} {n:Nat} {env:Env} {D:List Deferred}
variable {ops:Array Oper} {i:Nat} {rest:List Nat} {dst:Option Tmp} {ty:TypeId} {pos:String} {dc:Array Edge} {g:Option (Nat×Bool)}
variable {T:TypeId} {d:TypeDesc} {sz bE:Nat} {z:List Value} {ag:Bool}
theorem ajG(hC:∀main T,C main T→Closed P main T)(ho:ops[i]?=some ⟨dst,.alloc T,ty,pos,dc,g⟩) (hw:az ops n env g=true) (tf:TF P T d sz bE z ag)
 (h:∀b,¬s.knows b→ab C fn aC ops rest Q (A n (upd dst (.pointer (some ⟨b,0,none⟩)) env) D) ⟨s.ro,(b,.cells ⟨z⟩ T)::s.rw⟩):ab C fn aC ops (i::rest) Q (A n env D) s:=by
 refine bR hC ho hw (by simp) ?_
 simp only[execOp,Instr.alloc,aa,jT tf,rS,af,eo tf]
 intro b hb
 have:=h b hb
 rw[←a8] at this
 exact this
theorem ay0(hC:∀main T,C main T→Closed P main T){v:Value}(ho:ops[i]?=some ⟨dst,.box T x,ty,pos,dc,g⟩) (hw:az ops n env g=true) (hx:bu n env x=some (v)) (hl:v.cells=⟨l⟩)
 (h:∀b,¬s.knows b→ab C fn aC ops rest Q (A n (upd dst (.pointer (some ⟨b,0,none⟩)) env) D) ⟨s.ro,(b,.cells ⟨l⟩ T)::s.rw⟩):ab C fn aC ops (i::rest) Q (A n env D) s:=by
 refine bR hC ho hw (by simp) ?_
 simp only[execOp,Instr.box,aa,rS,af,aG hx,hl]
 intro b hb
 have:=h b hb
 rw[←a8] at this
 exact this
theorem DZ(hC:∀main T,C main T→Closed P main T){y:Operand}{o:Nat}{v:Value}{L:List (Nat×Obj)}{c:List Value}(ho:ops[i]?=some ⟨dst,.store T x y,ty,pos,dc,g⟩) (hw:az ops n env g=true) (tf:TF P T d sz bE z ag)
 (hx:bu n env x=some (.pointer (some ⟨b,o,none⟩))) (hy:bu n env y=some (v)) (hl:v.cells=⟨l⟩) (hn:l.length=sz) (h1:∀v∈l,single v=true) (hs:s.rw=L++(b,.cells ⟨c⟩ e (0,0))::R) (hb:o+l.length≤c.length)
 (h:ab C fn aC ops rest Q (A n (upd dst undef env) D) ⟨s.ro,L++(b,.cells ⟨dB c o l⟩ e (0,0))::R⟩):ab C fn aC ops (i::rest) Q (A n env D) s:=by
 refine bR hC ho hw (by simp) ?_
 have uA:v.cells.size=sz:=by rw[hl];simpa using hn
 simp only[execOp,Instr.storeAt,aG hx,aG hy,Instr.sureAddr,storeVar,aa,af,cm tf,uA,ne_eq,not_true,if_false]
 rw[show v.cells.toList=l from by rw[hl]]
 refine my l 0 c s hs (by simpa using hb) h1 ?_
 rw[←a8] at h
 rw[Nat.add_zero]
 exact h
theorem ayW(hC:∀main T,C main T→Closed P main T){E:TypeId}{a:Option Addr}{len cap:Nat}(ho:ops[i]?=some ⟨dst,.call ⟨.builtin .len,#[x],#[T]⟩,ty,pos,dc,g⟩) (hw:az ops n env g=true)
 (tf:TF P T (.slice E) sz bE z ag) (hx:bu n env x=some (.slice a len cap)) (h:ab C fn aC ops rest Q (A n (upd dst (.int .i64 len) env) D) s):ab C fn aC ops (i::rest) Q (A n env D) s:=by
 refine bR hC ho hw (by simp) ?_
 simp only[execOp,resolve,invoke,builtin,Builtin.len_,List.map_toArray,List.map_cons,List.map_nil,aG hx,af]
 simp only[List.getElem?_toArray,List.getElem?_cons_zero,bh tf,af,aa]
 rw[←a8] at h
 exact h
theorem jU{Q:Next→St→Prop}{E:Halt→St→Prop}(ff:FF P f)(h:Q (.enter f args) s):bN P (callFunc f args) s Q E:=by
 obtain⟨fn,h1,h2,h3⟩:=ff.ff
 simp only[callFunc,eT,h1,h2,h3,Bool.false_eq_true,if_false]
 exact h
theorem tC(hC:∀main T,C main T→Closed P main T){fi ca:Array Value}{at_:Array TypeId}{vs ws:List Value}{R:Ending→St→Prop}(ho:ops[i]?=some ⟨dst,.call ⟨.value x,xs,at_⟩,ty,pos,dc,g⟩) (hw:az ops n env g=true)
 (hv:bu n env x=some (.func (.func f) fi ca)) (ff:FF P f) (hx:uM n env xs=some vs) (ry:fi++⟨vs⟩++ca=⟨ws⟩) (hf:Fn C P f ⟨ws⟩ s R) (h:∀v s',R (.returned v) s'→ab C fn aC ops rest Q (A n (upd dst v env) D) s') (hp:∀ch s',R (.panicked ch) s'→Q (.panic ch) (A n env D) s') (hg:∀s',¬R .outgrown s'):
 ab C fn aC ops (i::rest) Q (A n env D) s:=by
 refine bR hC ho hw (by simp) ?_
 simp only[execOp,resolve,aG hv,Deferred.ofValue,af,rE hx]
 simp only[invoke,ry]
 refine jU ff ?_
 refine Fn.mono hf fun e s' hr=>?_
 cases e with
 |returned v=>have:=h v s' hr;rw[←a8] at this;exact this
 |panicked ch=>exact hp ch s' hr
 |outgrown=>exact(hg s' hr).elim
theorem Nq(hC:∀main T,C main T→Closed P main T){c:Operand}{x:Code}{t:Bool}(hc:bu n env c=some (.bool t))(h1:t=true→Wp C fn aC x Q (A n env D) s)(h2:t=false→Wp C fn aC y Q (A n env D) s):
 Wp C fn aC (.cond c x y) Q (A n env D) s:=
 wp_cond_split hC (by rw[eB];exact aG hc) h1 h2
theorem Uv(hC:∀main T,C main T→Closed P main T){c:Operand}{x:Code}{t:Bool}(hc:bu n env c=some (.bool t))(ht:t=true)(h1:Wp C fn aC x Q (A n env D) s):Wp C fn aC (.cond c x y) Q (A n env D) s:=
 Nq hC hc (fun _=>h1) (fun h=>by rw[ht] at h;cases h)
theorem Uw(hC:∀main T,C main T→Closed P main T){c:Operand}{x:Code}{t:Bool}(hc:bu n env c=some (.bool t))(ht:t=false)(h1:Wp C fn aC y Q (A n env D) s):Wp C fn aC (.cond c x y) Q (A n env D) s:=
 Nq hC hc (fun h=>by rw[ht] at h;cases h) (fun _=>h1)
theorem sX{j:Nat}{want:Bool}{d:Tmp}{b:Bool}(hd:(ops[j]?).bind (·.dst)=some d) (hv:bu n env (.tmp d)=some (.bool b)) (hb:b=want):az ops n env (some (j,want))=true:=by
 simp only[az,hd,hv,hb,beq_self_eq_true]
def fN:Nat→List Value→Env
 |_,[]=>[]
 |i,v::l=>(i,v)::fN (i+1) l
theorem PN:∀(l:List Value) (i t:Nat),get (fN i l) t=if i≤t then l.getD (t-i) undef else undef
 | [],i,t=>by simp[fN,get]
 |v::l,i,t=>by
  simp only[fN,cF,PN l (i+1) t]
  by_cases h:i=t
  ·subst h;simp
  ·by_cases h2:i≤t
   ·rw[if_neg h,if_pos h2,if_pos (by omega)]
    obtain⟨d,rfl⟩:∃d,t=i+1+d:=⟨t-i-1,by omega⟩
    rw[show i+1+d-i=d+1 from by omega,show i+1+d-(i+1)=d from by omega]
    simp
   ·rw[if_neg h,if_neg h2,if_neg (by omega)]
theorem kA(args:List Value)(n:Nat)(h:args.length≤n):(⟨(⟨args⟩:Array Value)++Array.replicate (n-args.length) undef,[]⟩:Act)=A n (fN 0 args) []:=by
 simp only[A,Act.mk.injEq,and_true]
 apply Array.ext_getElem?
 intro i
 rw[Array.getElem?_append]
 simp only[Array.getElem?_ofFn,Array.getElem?_replicate,PN]
 by_cases h1:i <args.length
 ·have h2:i <n:=by omega
  simp[h1,h2]
 ·by_cases h2:i <n
  ·simp[h1,h2];omega
  ·simp[h1,h2];omega
theorem PU(hC:∀main T,C main T→Closed P main T){f:FuncId}{fn:Func}{c:Code}{args:List Value}{R:Ending→St→Prop}
 (hf:P.funcs[f]?=some fn) (hb:fn.body=some c) (hn:fn.ntmps=n) (hl:Nat.ble args.length n=true) (h:Wp C f none c (qR P fn R) (A n (fN 0 args) []) s):Fn C P f ⟨args⟩ s R:=by
 refine PV hC hf hb ?_
 subst hn
 have:=kA args fn.ntmps (Nat.le_of_ble_eq_true hl)
 rw[←this] at h
 exact h
theorem oZ{t:Tmp}{v:Value}(hv:bu n env (.tmp t)=some v):(A n env D).tmps[t]?.getD undef=v:=by
 have:=aG hv
 rw[←eB n env D] at this
 simpa [Act.eval,Array.getD_eq_getD_getElem?] using this
theorem vX{fn:Func}{R:Ending→St→Prop}{e:Exit}{a:Act}(he:e= .ret∨e= .normal)(hd:a.defers=[])(h:bN P (results fn a.tmps) s (fun v s'=>∃s0,s0.le s'∧R (.returned v) s0) (fun _ _=>False)):qR P fn R e a s:=by
 rcases he with rfl|rfl<;>exact⟨hd,h⟩
end rules
theorem akq{i:TypeInfo}{w:World}(h:(typeInfo t).run P w= .ok i w):P.info? t=some i:=by
 simp only[typeInfo] at h
 change (Sem.program fun p=>Sem.bind (Sem.pure p) fun p=>match p.info? t with|some i=>Sem.pure i|none=>stuck "no such type").run P w=_ at h
 simp only[Sem.run,Sem.bind] at h
 cases hi:P.info? t with
 |none=>rw[hi] at h;simp[stuck,Sem.run] at h
 |some j=>rw[hi] at h;simp[Sem.run] at h;rw[h]
theorem mV{i:TypeInfo}{d:TypeDesc}{sz bE:Nat}{z:Value}{ag:Bool}(h:∀w,(typeInfo t).run P w= .ok i w)(hu:P.underlying t=some d)
 (h1:i.size=sz)(h2:i.bytes=bE)(h3:i.zero=some z)(h4:z=if ag then .agg ⟨l⟩ else l.headD undef)(h5:z.cells=⟨l⟩)(h6:ag=(match d with| .struct _| .array _ _=>true|_=>false)):TF P t d sz bE l ag:=
 ⟨hu,⟨i,akq (h default),h1,h2,z,h3,h5,h4⟩,h6⟩
def kF(env:Env):Env→Prop
 | []=>True
 | (t,v)::r=>gM env t=some v∧kF env r
theorem kF.mem:∀ {e:Env},kF env e→∀x∈e,get env x.1=x.2
 | (t,v)::r,h,x,hx=>by
  rcases List.mem_cons.1 hx with rfl|hx
  ·exact mE h.1
  ·exact kF.mem h.2 x hx
theorem fX{e:Env}{D:List Deferred}(h:kF env e)(hd:kF e e):∃rest,A n env D=A n (e++rest) D:=by
 obtain⟨rest,hr⟩:=holds_of n e env D (kF.mem h) (kF.mem hd)
 exact⟨rest,hr⟩
def Ext(s s':St):Prop:=∀b o,s.has b o→s'.has b o
theorem Ext.refl(s:St):Ext s s:=fun _ _ h=>h
theorem Ext.trans(h:Ext NN aa8)(k:Ext aa8 aa7):Ext NN aa7:=fun b o hb=>k b o (h b o hb)
theorem cA.ext{o:Nat}{v:List Value}(h:cA s b o n v)(e:Ext s s'):cA s' b o n v:=by
 obtain⟨l,t,fz,h1,h2⟩:=h;exact⟨l,t,fz,e _ _ h1,h2⟩
section rules
variable {P:Program} {C:Class} {fn:FuncId} {aC:Option Nat} {Q:Post} {s:St} {n:Nat} {env:Env} {D:List Deferred}
variable {ops:Array Oper} {i:Nat} {rest:List Nat} {dst:Option Tmp} {ty:TypeId} {pos:String} {dc:Array Edge} {g:Option (Nat×Bool)}
variable {T:TypeId} {d:TypeDesc} {sz bE:Nat} {z:List Value} {ag:Bool}
def Qt(n:Nat)(D:List Deferred)(pe:ι→Env)(sf:ι→St)(Inv:ι→Prop)(μ:ι→Nat)(m:Nat)(a:Act)(s:St):Prop:=
 ∃j rest,Inv j∧μ j <m∧a=A n (pe j++rest) D∧(sf j).le s
theorem ajJ{pe:ι→Env}{sf:ι→St}{Inv:ι→Prop}{μ:ι→Nat}{m:Nat}(j:ι)(h:Inv j)(hm:μ j <m)(hc:kF env (pe j))(hd:kF (pe j) (pe j))(hs:(sf j).le s):
 Qt n D pe sf Inv μ m (A n env D) s:=by
 obtain⟨r,hr⟩:=fX (n:=n) (D:=D) hc hd
 exact⟨j,r,h,hm,hr,hs⟩
theorem aai(hC:∀main T,C main T→Closed P main T)(pe:ι→Env)(sf:ι→St)(Inv:ι→Prop)(μ:ι→Nat){c:Code}(i0:ι)(h0:Inv i0)(hc:kF env (pe i0))(hd:kF (pe i0) (pe i0))(hs:(sf i0).le s)
 (round:∀i,Inv i→∀rest,Wp C fn aC c (lP (Qt n D pe sf Inv μ (μ i)) Q) (A n (pe i++rest) D) (sf i)):Wp C fn aC (.loop c) Q (A n env D) s:=by
 obtain⟨r0,uK⟩:=fX (n:=n) (D:=D) hc hd
 rw[uK]
 intro main T hT b k cs h1 h2 h3 h4
 have key:∀m i rest s,μ i=m→Inv i→(sf i).le s→T (G (aM b (A n (pe i++rest) D) (.code c:: .inLoop c::k)) cs) s:=by
  intro m
  induction m using Nat.strongRecOn with
  |_ m ih=>
   intro i rest s hm hI hle
   refine(hC main T hT).mono _ _ _ hle ?_
   refine round i hI rest main T hT b (.inLoop c::k) cs h1 h2 h3 fun e a' s' q=>?_
   cases e with
   |normal=>
    obtain⟨j,abv,yz,cK,rfl,xe⟩:=q
    exact(hC main T hT).go rfl rfl (g':=G (aM b _ (.code c:: .inLoop c::k)) cs) (fun w=>by simp[G,stepG,stepG.exec,aM]) (ih _ (hm▸cK) j abv s' rfl yz xe)
   |exit id=>exact(h4 _ _ _ q).push rfl (by simp)
   |ret=>exact(h4 _ _ _ q).push (x:= .inLoop c) rfl (by simp)
   |panic ch=>exact(h4 _ _ _ q).push (x:= .inLoop c) rfl (by simp)
   |goto l=>exact(h4 _ _ _ q).elim
   |outgrown=>exact(h4 _ _ _ q).elim
 exact(hC main T hT).go rfl rfl (g':=G (aM b (A n (pe i0++r0) D) (.code c:: .inLoop c::k)) cs) (fun w=>by simp[G,stepG,stepG.exec,aM]) (key _ i0 r0 s rfl h0 hs)
end rules
section rules
variable {P:Program} {C:Class} {fn:FuncId} {aC:Option Nat} {Q:Post} {s:St} {n:Nat} {env:Env} {D:List Deferred}
variable {ops:Array Oper} {i:Nat} {rest todo:List Nat} {dst:Option Tmp} {ty:TypeId} {pos:String} {dc:Array Edge} {g:Option (Nat×Bool)}
variable {T:TypeId} {d:TypeDesc} {sz bE:Nat} {z:List Value} {ag:Bool}
theorem CV{a:Act}(h:Q .normal a s):qk id Q (.exit id) a s:=by simp only[qk,if_true];exact h
theorem CU{QH:Nat}{a:Act}(eg:Nat.beq QH id=false)(h:Q (.exit QH) a s):qk id Q (.exit QH) a s:=by
 have:¬QH=id:=by intro e;subst e;simp at eg
 simp only[qk,this,if_false];exact h
theorem zq(hC:∀main T,C main T→Closed P main T){op:BinOp}{y:Operand}{T:TypeId}{a b:ByteArray}{v:Value}(ho:ops[i]?=some ⟨dst,.binOp op T x y T',ty,pos,dc,g⟩) (hw:az ops n env g=true)
 (hx:bu n env x=some (.string a)) (hy:bu n env y=some (.string b)) (hv:Op.stringOp op a b=Sem.pure v) (aB:(match op with| .shl| .shr=>false|_=>true)=true) (h:ab C fn aC ops rest Q (A n (upd dst v env) D) s):ab C fn aC ops (i::rest) Q (A n env D) s:=by
 refine si hC ho hw (by simp) ?_ h
 simp only[execOp,aG hx,aG hy]
 have he:eqGuard op T x y (.string a) (.string b)=Sem.pure ():=by
  unfold eqGuard
  cases op<;>rfl
 have hb:binOp op T (.string a) (.string b)=Op.stringOp op a b:=by cases op<;>first|rfl|cases aB
 rw[he,hb,hv]
 rfl
end rules
end Go.L
