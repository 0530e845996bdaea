/- Part 1 of the proof. -/
import Derived.Calls
import Derived.Conc.CrowdBase
import Derived.Conc.CrowdComm
import Derived.Conc.CrowdTrace
import Derived.Conc.Know
import Derived.Conc.Own
import Derived.Conc.QuitsD
import Derived.Conc.WrBase2
import Derived.Conc.WrWorld
import Derived.IntWalk
import Derived.Laws.Sem
set_option maxRecDepth 100000
set_option linter.all false
namespace Go.L
open Go
variable {P:Program} {α ι β:Type} {b n i o mx j id sz dep n' p cap iS wC ic sn rc:Nat} {l z vs z':List Value} {R:List (Nat×Obj)} {x y:Operand} {t T':TypeId} {Pl:List (Nat×Value)} {g g':Goroutine} {main r xW tm:Bool} {w' aeg:World} {st sm:Int} {f fn:FuncId} {cs:List Frame} {args ca fi:Array Value} {xs:Array Operand} {Stop:Goroutine→Prop} {fr:Frame} {gs:Array Goroutine} {at_:Array TypeId} {X rest:List Nat} {ds:List Deferred} {u:Trace} {pos:String} {o':Obj} {assign body:Code} {d:Tmp}
structure St where
 ro:Nat→Option Obj
 rw:List (Nat×Obj)
variable {E:Halt→St→Prop} {s s' QX ae0 aeZ iR:St} {T:Goroutine→St→Prop}
def St.has(s:St)(b:Nat)(o:Obj):Prop:=s.ro b=some o∨(b,o)∈s.rw
def St.jL(s:St)(b:Nat):Prop:=∃o,(b,o)∈s.rw
def St.knows(s:St)(b:Nat):Prop:=s.ro b≠none∨s.jL b
structure aU(s:St)(w:World):Prop where
 ro:∀b o,s.ro b=some o→w.heap[b]?=some o
 rw:∀b o,(b,o)∈s.rw→w.heap[b]?=some o
 nodup:(s.rw.map (·.1)).Nodup
 apart:∀b o,(b,o)∈s.rw→s.ro b=none
theorem aU.has{w:World}(h:aU s w){o:Obj}(hb:s.has b o):w.heap[b]?=some o:=
 hb.elim (h.ro b o) (h.rw b o)
theorem aU.lt{w:World}(h:aU s w){o:Obj}(hb:s.has b o):b <w.heap.size:=by
 have:=h.has hb
 rcases Nat.lt_or_ge b w.heap.size with hl|hl
 ·exact hl
 simp[Array.getElem?_eq_none hl] at this
def DG:Mark→Bool
 | .acquire _| .release _| .releaseMerge _| .disable| .enable| .read _| .write _=>false
 |_=>true
def JF(s:St)(n:Nat)(e:Event):Prop:=
 match e.loc with
 | .cell a=>e.sync=false∧(n≤a.block∨s.jL a.block∨(e.write=false∧s.ro a.block≠none))
 | .obj r=>e.sync=false∧(n≤r∨s.jL r∨(e.write=false∧s.ro r≠none))
 | .mark m=>DG m=true
 |_=>False
def blk:Loc→Option Nat
 | .cell a=>some a.block
 | .obj r=>some r
 |_=>none
structure Trans(s:St)(w:World)(s':St)(w':World)(es:Array Event):Prop where
 kB:aU s' w'
 size:w.heap.size≤w'.heap.size
 frame:∀b,b <w.heap.size→¬s.jL b→w'.heap[b]?=w.heap[b]?
 own:∀b,s'.jL b→w.heap.size≤b∨s.jL b
 NX:∀b,s'.ro b≠none→w.heap.size≤b∨s.ro b≠none∨s.jL b
 os:w'.os=w.os
 output:w'.output=w.output
 tape:w'.tape=w.tape
 wI:∀e∈es,JF s w.heap.size e
 low:∀e∈es,∀b,blk e.loc=some b→b <w'.heap.size
theorem Trans.refl{w:World}(h:aU s w):Trans s w s w #[] where
 kB:=h
 size:=Nat.le_refl _
 frame:=fun _ _ _=>rfl
 own:=fun _ h=> .inr h
 NX:=fun _ h=> .inr (.inl h)
 os:=rfl
 output:=rfl
 tape:=rfl
 wI:=by simp
 low:=by simp
theorem Trans.trans{aBP aBO:World}{aks akr:Array Event}(h:Trans QX aeg ae0 aBP aks)(k:Trans ae0 aBP aeZ aBO akr):
 Trans QX aeg aeZ aBO (aks++akr) where
 kB:=k.kB
 size:=Nat.le_trans h.size k.size
 frame:=fun b hb hn=>by
  rw[k.frame b (Nat.lt_of_lt_of_le hb h.size) (fun ho=>by rcases h.own b ho with h1|h1;omega;exact hn h1),h.frame b hb hn]
 own:=fun b hb=>by
  rcases k.own b hb with h1|h1
  ·exact .inl (Nat.le_trans h.size h1)
  exact h.own b h1
 NX:=fun b hb=>by
  rcases k.NX b hb with h1|h1|h1
  ·exact .inl (Nat.le_trans h.size h1)
  ·exact h.NX b h1
  rcases h.own b h1 with h2|h2
  ·exact .inl h2
  exact .inr (.inr h2)
 os:=k.os.trans h.os
 output:=k.output.trans h.output
 tape:=k.tape.trans h.tape
 low:=fun e he b hb=>by
  rcases Array.mem_append.1 he with he|he
  ·exact Nat.lt_of_lt_of_le (h.low e he b hb) k.size
  exact k.low e he b hb
 wI:=fun e he=>by
  rcases Array.mem_append.1 he with he|he
  ·exact h.wI e he
  have:=k.wI e he
  unfold JF at*
  split at this
  ·rename_i a _
   refine⟨this.1,?_⟩
   rcases this.2 with h1|h1|h1
   ·exact .inl (Nat.le_trans h.size h1)
   ·rcases h.own _ h1 with h2|h2
    ·exact .inl h2
    exact .inr (.inl h2)
   rcases h.NX _ h1.2 with h2|h2|h2
   ·exact .inl h2
   ·exact .inr (.inr ⟨h1.1,h2⟩)
   exact .inr (.inl h2)
  ·rename_i r _
   refine⟨this.1,?_⟩
   rcases this.2 with h1|h1|h1
   ·exact .inl (Nat.le_trans h.size h1)
   ·rcases h.own _ h1 with h2|h2
    ·exact .inl h2
    exact .inr (.inl h2)
   rcases h.NX _ h1.2 with h2|h2|h2
   ·exact .inl h2
   ·exact .inr (.inr ⟨h1.1,h2⟩)
   exact .inr (.inl h2)
  ·exact this
  exact this
def single:Value→Bool
 | .agg _| .tuple _=>false
 |_=>true
def Obj.yo:Obj→Bool
 | .cells .. =>true
 |_=>false
def Obj.shapeOf:Obj→Option (TypeId×Nat)
 | .cells c t _=>some (t,c.size)
 |_=>none
def Obj.frozenAt(a:Addr):Obj→Bool
 | .cells _ _ (lo,hi)=>lo≤a.off&&a.off <hi
 |_=>false
def Obj.Tn(a:Addr)(n:Nat):Obj→Obj
 | .cells c elem (lo,hi)=> .cells c elem (if lo==hi then (a.off,a.off+n) else (min lo a.off,max hi (a.off+n)))
 |o=>o
def bU(P:Program):Sem α→St→(α→St→Prop)→(Halt→St→Prop)→Prop
 | .pure a,s,Q,_=>Q a s
 | .load m a k,s,Q,E=>m= .plain∧a.spot=none∧∃c t fz v,s.has a.block (.cells c t fz)∧c[a.off]?=some v∧bU P (k v) s Q E
 | .store m a v k,s,Q,E=>m= .plain∧a.spot=none∧single v=true∧∃L c t fz R,s.rw=L++(a.block,.cells c t fz)::R∧a.off <c.size∧
  (fz.1≤a.off&&a.off <fz.2)=false∧bU P k ⟨s.ro,L++(a.block,.cells (c.setIfInBounds a.off v) t fz)::R⟩ Q E
 | .new o k,s,Q,E=>∀b,¬s.knows b→bU P (k b) ⟨s.ro,(b,o)::s.rw⟩ Q E
 | .shape r k,s,Q,E=>∃o,s.has r o∧bU P (k (Obj.shapeOf o)) s Q E
 | .freeze a n k,s,Q,E=>if n=0 then bU P k s Q E else
  ∃L o R,s.rw=L++(a.block,o)::R∧bU P k ⟨s.ro,L++(a.block,Obj.Tn a n o)::R⟩ Q E
 | .frozen a k,s,Q,E=>∃o,s.has a.block o∧bU P (k (Obj.frozenAt a o)) s Q E
 | .getObj r k,s,Q,E=>∃o,s.has r o∧Obj.yo o=false∧o.isChan=false∧bU P (k o) s Q E
 | .setObj r o k,s,Q,E=>o.isChan=false∧∃L o' R,s.rw=L++(r,o')::R∧Obj.yo o'=false∧bU P k ⟨s.ro,L++(r,o)::R⟩ Q E
 | .choose q k,s,Q,E=>if q.forced then bU P (k 0) s Q E else ∀n,bU P (k (q.cut n)) s Q E
 | .sys _ _,_,_,_=>False
 | .program k,s,Q,E=>bU P (k P) s Q E
 | .mark m k,s,Q,E=>DG m=true∧bU P k s Q E
 | .halt h,s,_,E=>E h s
theorem QK(x:Sem α)(f:α→Sem β)(s:St)(Q:β→St→Prop)(E:Halt→St→Prop)
 (h:bU P x s (fun a s'=>bU P (f a) s' Q E) E):bU P (x.bind f) s Q E:=by
 induction x generalizing s with
 |pure a=>exact h
 |load m a k ih=>obtain⟨h1,h2,c,t,fz,v,h3,h4,h5⟩:=h;exact⟨h1,h2,c,t,fz,v,h3,h4,ih _ _ h5⟩
 |store m a v k ih=>obtain⟨h1,h2,h3,L,c,t,fz,R,h4,h5,h6,h7⟩:=h;exact⟨h1,h2,h3,L,c,t,fz,R,h4,h5,h6,ih _ h7⟩
 |new o k ih=>exact fun b hb=>ih _ _ (h b hb)
 |shape r k ih=>obtain⟨o,h1,h2⟩:=h;exact⟨o,h1,ih _ _ h2⟩
 |freeze a n k ih=>
  simp only[Sem.bind,bU] at h ⊢
  split
  ·rename_i hn;rw[if_pos hn] at h;exact ih _ h
  rename_i hn;rw[if_neg hn] at h;obtain⟨L,o,R,h1,h2⟩:=h;exact⟨L,o,R,h1,ih _ h2⟩
 |frozen a k ih=>obtain⟨o,h1,h2⟩:=h;exact⟨o,h1,ih _ _ h2⟩
 |getObj r k ih=>obtain⟨o,h1,h2,h3,h4⟩:=h;exact⟨o,h1,h2,h3,ih _ _ h4⟩
 |setObj r o k ih=>obtain⟨h1,L,o',R,h2,h3,h4⟩:=h;exact⟨h1,L,o',R,h2,h3,ih _ h4⟩
 |choose q k ih=>
  simp only[Sem.bind,bU] at h ⊢
  split
  ·rename_i hn;rw[if_pos hn] at h;exact ih _ _ h
  rename_i hn;rw[if_neg hn] at h;exact fun n=>ih _ _ (h n)
 |sys c k ih=>exact h.elim
 |program k ih=>exact ih _ _ h
 |mark m k ih=>exact⟨h.1,ih _ h.2⟩
 |halt hh=>exact h
theorem wL(x:Sem α)(s:St)(Q Q':α→St→Prop)(E E':Halt→St→Prop)
 (hq:∀a s,Q a s→Q' a s)(he:∀a s,E a s→E' a s)(h:bU P x s Q E):bU P x s Q' E':=by
 induction x generalizing s with
 |pure a=>exact hq _ _ h
 |load m a k ih=>obtain⟨h1,h2,c,t,fz,v,h3,h4,h5⟩:=h;exact⟨h1,h2,c,t,fz,v,h3,h4,ih _ _ h5⟩
 |store m a v k ih=>obtain⟨h1,h2,h3,L,c,t,fz,R,h4,h5,h6,h7⟩:=h;exact⟨h1,h2,h3,L,c,t,fz,R,h4,h5,h6,ih _ h7⟩
 |new o k ih=>exact fun b hb=>ih _ _ (h b hb)
 |shape r k ih=>obtain⟨o,h1,h2⟩:=h;exact⟨o,h1,ih _ _ h2⟩
 |freeze a n k ih=>
  simp only[bU] at h ⊢
  split
  ·rename_i hn;rw[if_pos hn] at h;exact ih _ h
  rename_i hn;rw[if_neg hn] at h;obtain⟨L,o,R,h1,h2⟩:=h;exact⟨L,o,R,h1,ih _ h2⟩
 |frozen a k ih=>obtain⟨o,h1,h2⟩:=h;exact⟨o,h1,ih _ _ h2⟩
 |getObj r k ih=>obtain⟨o,h1,h2,h3,h4⟩:=h;exact⟨o,h1,h2,h3,ih _ _ h4⟩
 |setObj r o k ih=>obtain⟨h1,L,o',R,h2,h3,h4⟩:=h;exact⟨h1,L,o',R,h2,h3,ih _ h4⟩
 |choose q k ih=>
  simp only[bU] at h ⊢
  split
  ·rename_i hn;rw[if_pos hn] at h;exact ih _ _ h
  rename_i hn;rw[if_neg hn] at h;exact fun n=>ih _ _ (h n)
 |sys c k ih=>exact h.elim
 |program k ih=>exact ih _ _ h
 |mark m k ih=>exact⟨h.1,ih _ h.2⟩
 |halt hh=>exact he _ _ h
theorem fN{L:List (Nat×Obj)}{o:Obj}:(b,o)∈L++(b,o)::R:=by simp
theorem XX{w:World}(h:aU s w){L:List (Nat×Obj)}{o:Obj}(hl:s.rw=L++(b,o)::R)
 (hw:∀j,w'.heap[j]?=if j=b then some o' else w.heap[j]?):aU ⟨s.ro,L++(b,o')::R⟩ w':=by
 have jM:(b,o)∈s.rw:=by rw[hl];exact fN
 have mJ:=h.nodup
 rw[hl] at mJ
 simp only[List.map_append,List.map_cons] at mJ
 rw[List.nodup_append] at mJ
 obtain⟨nL,nR,nLR⟩:=mJ
 rw[List.nodup_cons] at nR
 have arM:∀c x,(c,x)∈L∨(c,x)∈R→c≠b:=by
  rintro c x (hc|hc) rfl
  ·exact nLR c (List.mem_map.2 ⟨_,hc,rfl⟩) c (by simp) rfl
  exact nR.1 (List.mem_map.2 ⟨_,hc,rfl⟩)
 refine⟨fun c x hc=>?_,fun c x hc=>?_,?_,fun c x hc=>?_⟩
 ·rw[hw]
  by_cases e:c=b
  ·subst e;rw[h.apart c o jM] at hc;cases hc
  rw[if_neg e];exact h.ro c x hc
 ·simp only[List.mem_append,List.mem_cons] at hc
  rw[hw]
  rcases hc with hc|hc|hc
  ·rw[if_neg (arM c x (.inl hc))];exact h.rw c x (by rw[hl];simp[hc])
  ·cases hc;simp
  rw[if_neg (arM c x (.inr hc))];exact h.rw c x (by rw[hl];simp[hc])
 ·simp only[List.map_append,List.map_cons]
  rw[List.nodup_append]
  exact⟨nL,List.nodup_cons.2 nR,nLR⟩
 simp only[List.mem_append,List.mem_cons] at hc
 rcases hc with hc|hc|hc
 ·exact h.apart c x (by rw[hl];simp[hc])
 ·cases hc;exact h.apart b o jM
 exact h.apart c x (by rw[hl];simp[hc])
theorem af3{ro:Nat→Option Obj}{L:List (Nat×Obj)}{c:Nat}{o:Obj}(h:(⟨ro,L++(b,o')::R⟩:St).jL c):(⟨ro,L++(b,o)::R⟩:St).jL c:=by
 obtain⟨x,hx⟩:=h
 simp only[List.mem_append,List.mem_cons] at hx
 rcases hx with hx|hx|hx
 ·exact⟨x,by simp[hx]⟩
 ·cases hx;exact⟨o,by simp⟩
 exact⟨x,by simp[hx]⟩
theorem Db{w:World}(h:aU s w){L:List (Nat×Obj)}{o:Obj}(hl:s.rw=L++(b,o)::R)
 (hs:w'.heap.size=w.heap.size)(hw:∀j,w'.heap[j]?=if j=b then some o' else w.heap[j]?)
 (ho:w'.os=w.os) (hu:w'.output=w.output) (ht:w'.tape=w.tape) {es:Array Event} (he:∀e∈es,JF s w.heap.size e∧∀b,blk e.loc=some b→b <w.heap.size):
 Trans s w ⟨s.ro,L++(b,o')::R⟩ w' es where
 kB:=XX h hl hw
 size:=by omega
 frame:=fun c _ hn=>by
  rw[hw]
  by_cases e:c=b
  ·subst e;exact absurd ⟨o,by rw[hl];simp⟩ hn
  rw[if_neg e]
 own:=fun c hc=> .inr (by have:=af3 (o:=o) hc;obtain⟨x,hx⟩:=this;exact⟨x,by rw[hl];exact hx⟩)
 NX:=fun c hc=> .inr (.inl hc)
 os:=ho
 output:=hu
 tape:=ht
 wI:=fun e h'=>(he e h').1
 low:=fun e h' b hb=>hs▸(he e h').2 b hb
theorem abh{w:World}(h:aU s w)(o:Obj):Trans s w ⟨s.ro,(w.heap.size,o)::s.rw⟩ {w with heap:=w.heap.push o} #[] where
 kB:=by
  refine⟨fun b x hb=>?_,fun b x hb=>?_,?_,fun b x hb=>?_⟩
  ·have:=h.ro b x hb
   have cO:=h.lt (.inl hb)
   simp[Array.getElem?_push,Nat.ne_of_lt cO,this]
  ·rcases List.mem_cons.1 hb with hb|hb
   ·cases hb;simp
   have:=h.rw b x hb
   have cO:=h.lt (.inr hb)
   simp[Array.getElem?_push,Nat.ne_of_lt cO,this]
  ·simp only[List.map_cons]
   refine List.nodup_cons.2 ⟨fun hm=>?_,h.nodup⟩
   obtain⟨⟨b,x⟩,hx,rfl⟩:=List.mem_map.1 hm
   have:=h.lt (.inr hx)
   simp at this
  rcases List.mem_cons.1 hb with hb|hb
  ·cases hb
   cases hr:s.ro w.heap.size with
   |none=>rfl
   |some y=>have:=h.lt (.inl hr);omega
  exact h.apart b x hb
 size:=by simp
 frame:=fun b hb _=>by simp[Array.getElem?_push,Nat.ne_of_lt hb]
 own:=fun b hb=>by
  obtain⟨x,hx⟩:=hb
  rcases List.mem_cons.1 hx with hx|hx
  ·cases hx;exact .inl (Nat.le_refl _)
  exact .inr ⟨x,hx⟩
 NX:=fun b hb=> .inr (.inl hb)
 os:=rfl
 output:=rfl
 tape:=rfl
 wI:=by simp
 low:=by simp
theorem Tm{w:World}(h:aU s w):¬s.knows w.heap.size:=by
 rintro(hk| ⟨o,hk⟩)
 ·cases hr:s.ro w.heap.size with
  |none=>exact hk hr
  |some y=>have:=h.lt (.inl hr);omega
 have:=h.lt (.inr hk);omega
theorem ET{w:World}(h:aU s w)(n:Nat):Trans s w s {w with drawn:=n} #[] where
 kB:=⟨h.ro,h.rw,h.nodup,h.apart⟩
 size:=Nat.le_refl _
 frame:=fun _ _ _=>rfl
 own:=fun _ h=> .inr h
 NX:=fun _ h=> .inr (.inl h)
 os:=rfl
 output:=rfl
 tape:=rfl
 wI:=by simp
 low:=by simp
theorem G8{w:World}(h:aU s w){e:Event}(he:JF s w.heap.size e)(hb:∀b,blk e.loc=some b→b <w.heap.size):Trans s w s w #[e] where
 kB:=h
 size:=Nat.le_refl _
 frame:=fun _ _ _=>rfl
 own:=fun _ h=> .inr h
 NX:=fun _ h=> .inr (.inl h)
 os:=rfl
 output:=rfl
 tape:=rfl
 wI:=by simpa using he
 low:=by simpa using hb
def wh(s:St)(w:World)(Q:α→St→Prop)(E:Halt→St→Prop)(es:Array Event):Result α→Prop
 | .ok a w'=>∃s',Trans s w s' w' es∧Q a s'
 | .halt h w'=>∃s',Trans s w s' w' es∧E h s'
theorem wh.after{w:World}{Q:α→St→Prop}{aks akr:Array Event}{r:Result α}
 (ht:Trans s w QX aeg aks)(h:wh QX aeg Q E akr r):wh s w Q E (aks++akr) r:=by
 cases r with
 |ok a w'=>obtain⟨s',h1,h2⟩:=h;exact⟨s',ht.trans h1,h2⟩
 |halt a w'=>obtain⟨s',h1,h2⟩:=h;exact⟨s',ht.trans h1,h2⟩
theorem World.cell_of{w:World}(h:aU s w){a:Addr}(ha:a.spot=none){c:Array Value}{fz:Nat×Nat}(hb:s.has a.block (.cells c t fz)):
 w.cell? a=c[a.off]?:=by
 simp[World.cell?,h.has hb,ha]
theorem iy(x:Sem α)(s:St)(Q:α→St→Prop)(E:Halt→St→Prop)(w:World)(es:Array Event)
 (h:bU P x s Q E)(ha:aU s w):∃r eE,x.runT P w es=(r,es++eE)∧wh s w Q E eE r:=by
 induction x generalizing s w es with
 |pure a=>exact⟨.ok a w,#[],by simp only[Sem.runT,Array.append_empty],s,Trans.refl ha,h⟩
 |load m a k ih=>
  obtain⟨rfl,Qe,c,t,fz,v,hb,hv,hk⟩:=h
  have hc:w.cell? a=some v:=by rw[World.cell_of ha Qe hb,hv]
  obtain⟨r,e',hr,hl⟩:=ih v s w (es.push ⟨.cell a,false,false⟩) hk ha
  refine⟨r,#[⟨.cell a,false,false⟩]++e',?_,wh.after (G8 ha ?_ (fun b h'=>by cases h';exact ha.lt hb)) hl⟩
  ·simp only[Sem.runT,hc]
   rw[show (Mode.plain==Mode.atomic)=false from rfl,hr,←Array.append_singleton,Array.append_assoc]
  refine⟨rfl,?_⟩
  rcases hb with hb|hb
  ·exact .inr (.inr ⟨rfl,by rw[hb];simp⟩)
  exact .inr (.inl ⟨_,hb⟩)
 |store m a v k ih=>
  obtain⟨rfl,Qe,ho,L,c,t,fz,R,hl,cO,hfz,hk⟩:=h
  have hb:s.has a.block (.cells c t fz):= .inr (by rw[hl];exact fN)
  have hc:w.cell? a=some c[a.off]:=by rw[World.cell_of ha Qe hb];simp[cO]
  have hh:=ha.has hb
  have apy:=ha.lt hb
  have hfr:w.frozen? a=false:=by simp only[World.frozen?,hh];exact hfz
  have ht:Trans s w ⟨s.ro,L++(a.block,.cells (c.setIfInBounds a.off v) t fz)::R⟩ (w.setCell a v) #[⟨.cell a,true,false⟩]:=by
   refine Db (w':=w.setCell a v) ha hl (by simp[World.setCell]) (fun j=>?_) rfl rfl rfl ?_
   ·simp only[World.setCell,Array.getElem?_modify]
    by_cases e:a.block=j
    ·subst e;simp[hh,Qe]
    simp[e,Ne.symm e]
   simp only[List.mem_toArray,List.mem_singleton,forall_eq]
   exact⟨⟨rfl,.inr (.inl ⟨_,hb.resolve_left (by rw[ha.apart _ _ (show (a.block,_)∈s.rw by rw[hl];exact fN)];simp)⟩)⟩,fun b h'=>by cases h';exact apy⟩
  obtain⟨r,e',hr,yq⟩:=ih _ (w.setCell a v) (es.push ⟨.cell a,true,false⟩) hk ht.kB
  refine⟨r,#[⟨.cell a,true,false⟩]++e',?_,wh.after ht yq⟩
  cases v<;>simp only[single,Bool.false_eq_true] at ho<;>
   (simp only[Sem.runT,hc,hfr]
    rw[show (Mode.plain==Mode.atomic)=false from rfl]
    simp only[Bool.false_eq_true,if_false]
    rw[hr,←Array.append_singleton,Array.append_assoc])
 |new o k ih=>
  have ht:=abh ha o
  obtain⟨r,e',hr,hl⟩:=ih _ _ {w with heap:=w.heap.push o} es (h w.heap.size (Tm ha)) ht.kB
  exact⟨r,#[]++e',by simp only[Sem.runT];rw[hr,Array.empty_append],wh.after ht hl⟩
 |shape r k ih=>
  obtain⟨o,hb,hk⟩:=h
  have hs:w.shape? r=Obj.shapeOf o:=by
   simp only[World.shape?,ha.has hb];cases o<;>rfl
  obtain⟨r',e',hr,hl⟩:=ih _ s w es hk ha
  exact⟨r',e',by simp only[Sem.runT,hs];exact hr,hl⟩
 |freeze a n k ih=>
  simp only[bU] at h
  by_cases hn:n=0
  ·rw[if_pos hn] at h
   obtain⟨r',e',hr,hl⟩:=ih s w es h ha
   exact⟨r',e',by simp only[Sem.runT,World.freeze,hn,if_true];exact hr,hl⟩
  rw[if_neg hn] at h
  obtain⟨L,o,R,hl,hk⟩:=h
  have hb:s.has a.block o:= .inr (by rw[hl];exact fN)
  have hh:=ha.has hb
  have ht:Trans s w ⟨s.ro,L++(a.block,Obj.Tn a n o)::R⟩ (w.freeze a n) #[]:=by
   refine Db (w':=w.freeze a n) ha hl (by simp[World.freeze,hn]) (fun j=>?_) (by simp[World.freeze,hn]) (by simp[World.freeze,hn]) (by simp[World.freeze,hn]) (by simp)
   simp only[World.freeze,hn,if_false,Array.getElem?_modify]
   by_cases e:a.block=j
   ·subst e;simp only[hh,if_true,Option.map_some];cases o<;>rfl
   simp[e,Ne.symm e]
  obtain⟨r',e',hr,yq⟩:=ih _ (w.freeze a n) es hk ht.kB
  exact⟨r',#[]++e',by simp only[Sem.runT];rw[hr,Array.empty_append],wh.after ht yq⟩
 |frozen a k ih=>
  obtain⟨o,hb,hk⟩:=h
  have hs:w.frozen? a=Obj.frozenAt a o:=by
   simp only[World.frozen?,ha.has hb];cases o<;>rfl
  obtain⟨r',e',hr,hl⟩:=ih _ s w es hk ha
  exact⟨r',e',by simp only[Sem.runT,hs];exact hr,hl⟩
 |getObj r k ih=>
  obtain⟨o,hb,Fc,wH,hk⟩:=h
  have hh:=ha.has hb
  obtain⟨r',e',hr,hl⟩:=ih o s w (es.push ⟨.obj r,false,false⟩) hk ha
  refine⟨r',#[⟨.obj r,false,false⟩]++e',?_,wh.after (G8 ha ?_ (fun b h'=>by cases h';exact ha.lt hb)) hl⟩
  ·cases o<;>simp only[Obj.yo,Obj.isChan,Bool.true_eq_false] at Fc wH<;>
    (simp only[Sem.runT,hh,Obj.isChan];rw[hr,←Array.append_singleton,Array.append_assoc])
  refine⟨rfl,?_⟩
  rcases hb with hb|hb
  ·exact .inr (.inr ⟨rfl,by rw[hb];simp⟩)
  exact .inr (.inl ⟨_,hb⟩)
 |setObj r o k ih=>
  obtain⟨wH,L,o',R,hl,Fc,hk⟩:=h
  have hb:s.has r o':= .inr (by rw[hl];exact fN)
  have hh:=ha.has hb
  have apy:=ha.lt hb
  have ht:Trans s w ⟨s.ro,L++(r,o)::R⟩ {w with heap:=w.heap.setIfInBounds r o} #[⟨.obj r,true,false⟩]:=by
   refine Db (w':={w with heap:=w.heap.setIfInBounds r o}) ha hl (by simp) (fun j=>?_) rfl rfl rfl ?_
   ·simp only[Array.getElem?_setIfInBounds]
    by_cases e:r=j
    ·subst e;simp[apy]
    simp[e,Ne.symm e]
   simp only[List.mem_toArray,List.mem_singleton,forall_eq]
   exact⟨⟨rfl,.inr (.inl ⟨o',by rw[hl];exact fN⟩)⟩,fun b h'=>by cases h';exact apy⟩
  obtain⟨r',e',hr,yq⟩:=ih _ _ (es.push ⟨.obj r,true,false⟩) hk ht.kB
  refine⟨r',#[⟨.obj r,true,false⟩]++e',?_,wh.after ht yq⟩
  cases o'<;>simp only[Obj.yo,Bool.true_eq_false] at Fc<;>
   (simp only[Sem.runT,hh,wH];rw[hr,←Array.append_singleton,Array.append_assoc])
 |choose q k ih=>
  simp only[bU] at h
  by_cases hq:q.forced
  ·rw[if_pos hq] at h
   obtain⟨r',e',hr,hl⟩:=ih 0 s w es h ha
   exact⟨r',e',by simp only[Sem.runT,hq,if_true];exact hr,hl⟩
  rw[if_neg hq] at h
  have ht:=ET ha (w.drawn+1)
  obtain⟨r',e',hr,hl⟩:=ih _ s {w with drawn:=w.drawn+1} es (h (w.tape w.drawn q)) ht.kB
  exact⟨r',#[]++e',by simp only[Sem.runT,hq,Bool.false_eq_true,if_false];rw[hr,Array.empty_append],wh.after ht hl⟩
 |sys c k ih=>exact h.elim
 |program k ih=>
  obtain⟨r',e',hr,hl⟩:=ih P s w es h ha
  exact⟨r',e',by simp only[Sem.runT];exact hr,hl⟩
 |mark m k ih=>
  obtain⟨r',e',hr,hl⟩:=ih s w (es.push ⟨.mark m,false,true⟩) h.2 ha
  refine⟨r',#[⟨.mark m,false,true⟩]++e',?_,wh.after (G8 ha ?_ (fun b h'=>by cases h')) hl⟩
  ·simp only[Sem.runT];rw[hr,←Array.append_singleton,Array.append_assoc]
  exact h.1
 |halt hh=>exact⟨.halt hh w,#[],by simp only[Sem.runT,Array.append_empty],s,Trans.refl ha,h⟩
open Go.Conc
def St.le(s s':St):Prop:=∃R,s'.rw.Perm (s.rw++R)∧∀b o,s.ro b=some o→s'.ro b=some o∨(b,o)∈R
theorem St.le_refl(s:St):s.le s:=⟨[],by simp,fun _ _ h=> .inl h⟩
theorem aU.of_le{w:World}(hl:s.le s')(h:aU s' w):aU s w:=by
 obtain⟨R,hR,h1⟩:=hl
 have hm:∀x,x∈s.rw→x∈s'.rw:=fun x hx=>hR.mem_iff.2 (by simp[hx])
 have OZ:∀x,x∈R→x∈s'.rw:=fun x hx=>hR.mem_iff.2 (by simp[hx])
 have mJ:=(hR.map (·.1)).nodup_iff.1 h.nodup
 rw[List.map_append,List.nodup_append] at mJ
 refine⟨fun b o hb=>(h1 b o hb).elim (h.ro b o) (fun hx=>h.rw b o (OZ _ hx)),fun b o hb=>h.rw b o (hm _ hb),mJ.1,fun b o hb=>?_⟩
 have:=h.apart b o (hm _ hb)
 cases hr:s.ro b with
 |none=>rfl
 |some y=>
  rcases h1 b y hr with h3|h3
  ·rw[h3] at this;cases this
  exact absurd rfl (mJ.2.2 b (List.mem_map.2 ⟨_,hb,rfl⟩) b (List.mem_map.2 ⟨_,h3,rfl⟩))
structure Closed(P:Program)(main:Bool)(T:Goroutine→St→Prop):Prop where
 step:∀g s,g.status= .running→(∀w,aU s w→∃g' w' es s',stepG P main g w= .go g' w' es∧g'.status= .running∧Trans s w s' w' es∧T g' s')→T g s
 mono:∀g s s',s.le s'→T g s→T g s'
theorem Closed.go(C:Closed P main T)(hs:g.status= .running)(nH:g'.status= .running)
 (h:∀w,stepG P main g w= .go g' w #[])(ht:T g' s):T g s:=
 C.step g s hs fun w hw=>⟨g',w,#[],s,h w,nH,Trans.refl hw,ht⟩
abbrev Class:=Bool→(Goroutine→St→Prop)→Prop
abbrev Post:=Exit→Act→St→Prop
variable {Q:Post}
def aM(b:Frame)(a:Act)(todo:List Item):Frame:={fn:=b.fn,tmps:=a.tmps,todo,defers:=a.defers,mode:= .run,kind:=b.kind,roundOf:=b.roundOf}
def kG(T:Goroutine→St→Prop)(b:Frame)(k:List Item)(cs:List Frame):Post
 | .normal,a,s=>T (G (aM b a k) cs) s
 | .exit id,a,s=>match exitTo id k with
  |some k'=>T (G (aM b a k') cs) s
  |none=>∀todo,exitTo id todo=none→T (G (aM b a (.code (.exit id)::todo)) cs) s
 | .ret,a,s=>∀todo,T (G (aM b a (.code .ret::todo)) cs) s
 | .panic ch,a,s=>∀todo,T (G {aM b a todo with mode:= .panicking ch} cs) s
 |_,_,_=>False
def Wp(C:Class)(fn:FuncId)(aD:Option Nat)(c:Code)(Q:Post)(a:Act)(s:St):Prop:=
 ∀main T,C main T→∀(b:Frame) (k:List Item) (cs:List Frame),b.fn=fn→b.kind≠ .early→b.roundOf=aD→
  (∀e a' s',Q e a' s'→kG T b k cs e a' s')→T (G (aM b a (.code c::k)) cs) s
def ai(C:Class)(fn:FuncId)(aD:Option Nat)(ops:Array Oper)(todo:List Nat)(Q:Post)(a:Act)(s:St):Prop:=
 ∀main T,C main T→∀(b:Frame) (k:List Item) (cs:List Frame),b.fn=fn→b.kind≠ .early→b.roundOf=aD→
  (∀e a' s',Q e a' s'→kG T b k cs e a' s')→T (G (aM b a (.inRegion ops todo::k)) cs) s
def Fn(C:Class)(P:Program)(f:FuncId)(args:Array Value)(s:St)(R:Ending→St→Prop):Prop:=
 ∀main T,C main T→∀(c:Frame) (cs:List Frame),(∀v s',R (.returned v) s'→T (G (c.finish v) cs) s')→(∀ch s',R (.panicked ch) s'→T (G (c.raise ch) cs) s')→
  T (G (Frame.enter P f args .normal) (c::cs)) s
def Round(C:Class)(l:Nat)(f:FuncId)(tmps:Array Value)(assign body:Code)(s:St)(R:Ending→St→Prop):Prop:=
 ∀main T,C main T→∀(c:Frame) (cs:List Frame),(∀v s',R (.returned v) s'→T (G (c.finish v) cs) s')→(∀ch s',R (.panicked ch) s'→T (G (c.raise ch) cs) s')→
  T (G (Frame.round l f tmps assign body .normal) (c::cs)) s
section rules
variable {P:Program} {C:Class} {fn:FuncId} {aD:Option Nat} {Q:Post} {a:Act} {s:St}
theorem Fn.mono{R R':Ending→St→Prop}(h:Fn C P f args s R)(hr:∀e s,R e s→R' e s):Fn C P f args s R':=
 fun main T hT c cs h1 h2=>h main T hT c cs (fun v s' hv=>h1 v s' (hr _ _ hv)) fun ch s' hv=>h2 ch s' (hr _ _ hv)
theorem Fn.weaken{C':Class}(hc:∀main T,C' main T→C main T){R:Ending→St→Prop}(h:Fn C P f args s R):Fn C' P f args s R:=
 fun main T hT=>h main T (hc _ _ hT)
theorem Wp.more(hC:∀main T,C main T→Closed P main T){c:Code}(hl:s.le s')(h:Wp C fn aD c Q a s):Wp C fn aD c Q a s':=
 fun main T hT b k cs h1 h2 h3 h4=>(hC _ _ hT).mono _ _ _ hl (h main T hT b k cs h1 h2 h3 h4)
theorem wp_skip(hC:∀main T,C main T→Closed P main T)(h:Q .normal a s):Wp C fn aD .skip Q a s:=
 fun main T hT b k cs _ _ _ h4=>(hC main T hT).go rfl rfl (g':=G (aM b a k) cs) (fun w=>by simp[G,stepG,stepG.exec,aM]) (h4 _ _ _ h)
theorem kG.push{b:Frame}{x:Item}{k:List Item}{e:Exit}(hx:x.plain=true)(he:e≠ .normal)
 (h:kG T b k cs e a s):kG T b (x::k) cs e a s:=by
 cases e with
 |normal=>exact absurd rfl he
 |exit id=>
  have hh:exitTo id (x::k)=exitTo id k:=by cases x<;>simp_all[exitTo,Item.plain]
  simp only[kG,hh] at h ⊢;exact h
 |ret=>exact h
 |panic ch=>exact h
 |goto l=>exact h
 |outgrown=>exact h
def mD(K:Act→St→Prop)(Q:Post):Post
 | .normal,a,s=>K a s
 |e,a,s=>Q e a s
theorem wp_seq(hC:∀main T,C main T→Closed P main T){x y:Code}(h:Wp C fn aD x (mD (fun a' s'=>Wp C fn aD y Q a' s') Q) a s):Wp C fn aD (.seq x y) Q a s:=by
 intro main T hT b k cs h1 h2 h3 h4
 refine(hC main T hT).go rfl rfl (g':=G (aM b a (.code x:: .code y::k)) cs) (fun w=>by simp[G,stepG,stepG.exec,aM]) ?_
 refine h main T hT b (.code y::k) cs h1 h2 h3 fun e a' s' q=>?_
 cases e with
 |normal=>exact q main T hT b k cs h1 h2 h3 h4
 |exit id=>exact(h4 _ _ _ q).push rfl (by simp)
 |ret=>exact(h4 _ _ _ q).push (x:= .code y) rfl (by simp)
 |panic ch=>exact(h4 _ _ _ q).push (x:= .code y) rfl (by simp)
 |goto l=>exact(h4 _ _ _ q).elim
 |outgrown=>exact(h4 _ _ _ q).elim
theorem IV(b:Frame)(a:Act)(todo:List Item)(x:Operand):(aM b a todo).eval x=a.eval x:=by cases x<;>rfl
theorem lh(b:Frame)(a:Act)(todo:List Item):(aM b a todo).eval=a.eval:=funext (IV b a todo)
theorem wp_cond(hC:∀main T,C main T→Closed P main T){c:Operand}{x y:Code}{t:Bool}(hc:a.eval c= .bool t)(h:Wp C fn aD (if t then x else y) Q a s):Wp C fn aD (.cond c x y) Q a s:=by
 intro main T hT b k cs h1 h2 h3 h4
 refine(hC main T hT).go rfl rfl (g':=G (aM b a (.code (if t then x else y)::k)) cs) (fun w=>?_) (h main T hT b k cs h1 h2 h3 h4)
 have h':(aM b a (.code (.cond c x y)::k)).eval c= .bool t:=by rw[IV];exact hc
 simp only[aM] at h'
 simp[G,stepG,stepG.exec,aM,h']
theorem wp_cond_split(hC:∀main T,C main T→Closed P main T){c:Operand}{x y:Code}{t:Bool}(hc:a.eval c= .bool t)(h1:t=true→Wp C fn aD x Q a s)(h2:t=false→Wp C fn aD y Q a s):
 Wp C fn aD (.cond c x y) Q a s:=by
 cases t
 ·exact wp_cond hC hc (h2 rfl)
 exact wp_cond hC hc (h1 rfl)
def rC(id:Nat)(Q:Post):Post
 | .exit Up,a,s=>if Up=id then Q .normal a s else Q (.exit Up) a s
 |e,a,s=>Q e a s
theorem wp_block(hC:∀main T,C main T→Closed P main T){c:Code}(h:Wp C fn aD c (rC id Q) a s):Wp C fn aD (.block id c) Q a s:=by
 intro main T hT b k cs h1 h2 h3 h4
 refine(hC main T hT).go rfl rfl (g':=G (aM b a (.code c:: .inBlock id::k)) cs) (fun w=>by simp[G,stepG,stepG.exec,aM]) ?_
 refine h main T hT b (.inBlock id::k) cs h1 h2 h3 fun e a' s' q=>?_
 cases e with
 |normal=>exact(hC main T hT).go rfl rfl (g':=G (aM b a' k) cs) (fun w=>by simp[G,stepG,stepG.exec,aM]) (h4 _ _ _ q)
 |exit Up=>
  by_cases JV:Up=id
  ·simp only[rC,JV,if_true] at q
   have:=h4 _ _ _ q
   simp only[kG,exitTo,JV,beq_self_eq_true,if_true]
   exact this
  simp only[rC,JV,if_false] at q
  have:=h4 _ _ _ q
  have dQ:(id==Up)=false:=by simp;exact fun h=>JV h.symm
  simp only[kG,exitTo,dQ,Bool.false_eq_true,if_false] at this ⊢
  exact this
 |ret=>exact h4 _ _ _ q
 |panic ch=>exact h4 _ _ _ q
 |goto l=>exact(h4 _ _ _ q).elim
 |outgrown=>exact(h4 _ _ _ q).elim
theorem wp_exit(hC:∀main T,C main T→Closed P main T)(h:Q (.exit id) a s):Wp C fn aD (.exit id) Q a s:=by
 intro main T hT b k cs h1 h2 h3 h4
 have h':=h4 _ _ _ h
 simp only[kG] at h'
 cases hk:exitTo id k with
 |some k'=>
  rw[hk] at h'
  exact(hC main T hT).go rfl rfl (g':=G (aM b a k') cs) (fun w=>by simp[G,stepG,stepG.exec,aM,hk]) h'
 |none=>rw[hk] at h';exact h' k hk
theorem wp_ret(h:Q .ret a s):Wp C fn aD .ret Q a s:=fun _ _ _ _ _ _ _ _ _ h4=>h4 _ _ _ h _
theorem wp_region(hC:∀main T,C main T→Closed P main T){ops:Array Oper}(h:ai C fn aD ops (List.range ops.size) Q a s):Wp C fn aD (.region id ops false) Q a s:=
 fun main T hT b k cs h1 h2 h3 h4=>(hC main T hT).go rfl rfl (g':=G (aM b a (.inRegion ops (List.range ops.size)::k)) cs) (fun w=>by simp[G,stepG,stepG.exec,aM]) (h main T hT b k cs h1 h2 h3 h4)
theorem wp_region_draw(hC:∀main T,C main T→Closed P main T){ops:Array Oper}(h:∀t,ai C fn aD ops (Region.schedule (P.follows .mixedOrders) ops t) Q a s):Wp C fn aD (.region id ops true) Q a s:=by
 intro main T hT b k cs h1 h2 h3 h4
 refine(hC main T hT).step _ _ rfl fun w hw=>?_
 refine⟨G (aM b a (.inRegion ops (Region.schedule (P.follows .mixedOrders) ops (w.tape w.drawn (.order b.fn id)))::k)) cs,{w with drawn:=w.drawn+1},#[],s,?_,rfl,ET hw _,h _ main T hT b k cs h1 h2 h3 h4⟩
 simp[G,stepG,stepG.exec,aM,choose,Sem.run,Question.forced,Question.cut]
theorem uX(hC:∀main T,C main T→Closed P main T){ops:Array Oper}(h:Q .normal a s):ai C fn aD ops [] Q a s:=
 fun main T hT b k cs _ _ _ h4=>(hC main T hT).go rfl rfl (g':=G (aM b a k) cs) (fun w=>by simp[G,stepG,stepG.exec,aM]) (h4 _ _ _ h)
theorem gi(b:Frame)(a:Act)(ops:Array Oper)(i:Nat)(rest:List Nat)(k:List Item)(v:Value):
 (aM b a (.inRegion ops (i::rest)::k)).finish v=aM b (a.put ((ops[i]?).bind (·.dst)) v) (.inRegion ops rest::k):=by
 cases h:(ops[i]?).bind (·.dst)<;>simp[Frame.finish,aM,Act.put,h]
theorem uW(hC:∀main T,C main T→Closed P main T){ops:Array Oper}{o:Oper}(ho:ops[i]?=some o) (hw:Region.wanted o (yielded ops a.tmps)=false)
 (h:ai C fn aD ops rest Q (a.put o.dst undef) s):ai C fn aD ops (i::rest) Q a s:=by
 intro main T hT b k cs h1 h2 h3 h4
 refine(hC main T hT).go rfl rfl (g':=G (aM b (a.put o.dst undef) (.inRegion ops rest::k)) cs) (fun w=>?_) (h main T hT b k cs h1 h2 h3 h4)
 have:=gi b a ops i rest k undef
 rw[ho] at this
 simp only[Option.bind_some] at this
 rw[←this]
 simp[G,stepG,stepG.exec,aM,ho,hw]
def auM(dst:Option Tmp)(a:Act)(K:Act→St→Prop)(Q:Post):Ending→St→Prop
 | .returned v,s=>K (a.put dst v) s
 | .panicked ch,s=>Q (.panic ch) a s
 | .outgrown,_=>False
def upon(C:Class)(P:Program)(aD:Option Nat)(dst:Option Tmp)(a:Act)(K:Act→St→Prop)(Q:Post):Next→St→Prop
 | .value v,s=>K (a.put dst v) s
 | .skip,s=>K (a.put dst undef) s
 | .enter f args,s=>Fn C P f args s (auM dst a K Q)
 | .round l f tmps assign body,s=>Round C l f tmps assign body s (auM dst a K Q)
 | .defer d,s=>aD=none∧K ({a with defers:=d::a.defers}.put dst undef) s
 |_,_=>False
def Og(a:Act)(Q:Post):Halt→St→Prop
 | .panic v,s=>Q (.panic [{v,recovered:=false}]) a s
 |_,_=>False
theorem acU(g:Bool×Array Event→Event→Bool×Array Event)(hg:∀x y,(g x y).2=x.2∨(g x y).2=x.2.push y):
 ∀(l:List Event) (x:Bool×Array Event),∀e∈(l.foldl g x).2,e∈x.2∨e∈l:=by
 intro l
 induction l with
 |nil=>intro x e he;exact .inl he
 |cons y l ih=>
  intro x e he
  simp only[List.foldl_cons] at he
  rcases ih _ e he with h|h
  ·rcases hg x y with h'|h'
   ·rw[h'] at h;exact .inl h
   rw[h'] at h
   rcases Array.mem_push.1 h with h|h
   ·exact .inl h
   exact .inr (by simp[h])
  exact .inr (List.mem_cons_of_mem _ h)
theorem jb(P:Program)(f:FuncId)(es:Array Event):∀e∈seen P f es,e∈es:=by
 intro e he
 unfold seen at he
 simp only at he
 rw[←Array.foldl_toList] at he
 rcases acU _ (fun x y=>by
  rcases x with ⟨q,kept⟩
  dsimp only
  split
  ·exact .inl rfl
  dsimp only
  split
  ·exact .inl rfl
  exact .inr rfl) es.toList _ e he with h|h
 ·simp at h
 exact Array.mem_toList_iff.1 h
theorem Trans.sub{w:World}{es eE:Array Event}(h:Trans s w s' w' es)(hs:∀e∈eE,e∈es):Trans s w s' w' eE:=
 ⟨h.kB,h.size,h.frame,h.own,h.NX,h.os,h.output,h.tape,fun e he=>h.wI e (hs e he),fun e he=>h.low e (hs e he)⟩
theorem Oe(hC:∀main T,C main T→Closed P main T){ops:Array Oper}{o:Oper}(ho:ops[i]?=some o) (hw:Region.wanted o (yielded ops a.tmps)=true)
 (hd:aD=none∨∀c,o.op≠ .defer c)
 (h:bU P (execOp a.eval o) s (upon C P aD o.dst a (fun a' s'=>ai C fn aD ops rest Q a' s') Q) (Og a Q)):ai C fn aD ops (i::rest) Q a s:=by
 intro main T hT b k cs h1 h2 h3 h4
 have iY:=hC main T hT
 have mT:∀(a:Act) v,(aM b a (.inRegion ops (i::rest)::k)).finish v=aM b (a.put o.dst v) (.inRegion ops rest::k):=by
  intro a v;rw[gi,ho];rfl
 have hk:(b.kind==CallKind.early)=false:=by simpa using h2
 have iq:∀w,stepG P main (G (aM b a (.inRegion ops (i::rest)::k)) cs) w=stepG.apply P true (aM b a (.inRegion ops (i::rest)::k)) cs none (execOp a.eval o) w:=by
  intro w
  have he:=lh b a (.inRegion ops (i::rest)::k)
  simp only[aM] at he
  simp only[G,stepG,stepG.exec,aM,ho,Option.map_some,Option.getD_some,hw,if_true,stepG.oper,Frame.oper?,he]
  rcases hd with hd|hd
  ·rw[h3,hd]
  split
  ·rename_i hx hy;exact absurd hy (hd _)
  rfl
 refine iY.step _ _ rfl fun w qn=>?_
 obtain⟨r,es,hr,hl⟩:=iy _ _ _ _ w #[] h qn
 rw[Array.empty_append] at hr
 have ni:=iq w
 simp only[stepG.apply,if_true,hr] at ni
 simp only[aM,hk,Bool.false_eq_true,if_false] at ni
 have fT:=jb P b.fn es
 cases r with
 |ok nx w'=>
  obtain⟨s',ht,hu⟩:=hl
  have ht':=ht.sub fT
  cases nx with
  |value v=>
   simp only[GStep.after,Array.append_empty] at ni
   refine⟨_,_,_,s',ni,rfl,ht',?_⟩
   have:=hu main T hT b k cs h1 h2 h3 h4
   rw[←mT] at this;exact this
  |skip=>
   simp only[GStep.after,Array.append_empty] at ni
   refine⟨_,_,_,s',ni,rfl,ht',?_⟩
   have:=hu main T hT b k cs h1 h2 h3 h4
   rw[←mT] at this;exact this
  |enter f args=>
   simp only[GStep.after,Array.append_empty] at ni
   refine⟨_,_,_,s',ni,rfl,ht',?_⟩
   refine hu main T hT (aM b a (.inRegion ops (i::rest)::k)) cs (fun v s'' hv=>?_) (fun ch s'' hv=>?_)
   ·rw[mT];exact hv main T hT b k cs h1 h2 h3 h4
   exact h4 _ _ _ hv _
  |round l f tmps assign body=>
   simp only[GStep.after,Array.append_empty] at ni
   refine⟨_,_,_,s',ni,rfl,ht',?_⟩
   refine hu main T hT (aM b a (.inRegion ops (i::rest)::k)) cs (fun v s'' hv=>?_) (fun ch s'' hv=>?_)
   ·rw[mT];exact hv main T hT b k cs h1 h2 h3 h4
   exact h4 _ _ _ hv _
  |defer d=>
   simp only[GStep.after,Array.append_empty] at ni
   refine⟨_,_,_,s',ni,rfl,ht',?_⟩
   have:=hu.2 main T hT b k cs h1 h2 h3 h4
   rw[←mT] at this
   exact this
  |_=>exact hu.elim
 |halt hh w'=>
  obtain⟨s',ht,hu⟩:=hl
  have ht':=ht.sub fT
  cases hh with
  |panic v=>
   simp only[GStep.after,Array.append_empty] at ni
   refine⟨_,_,_,s',ni,rfl,ht',?_⟩
   have hp:Og a Q (.panic v) s':=hu
   exact h4 _ _ _ hp _
  |_=>exact absurd hu id
def sI(P:Program)(fn:Func)(R:Ending→St→Prop):Post
 | .normal,a,s| .ret,a,s=>a.defers=[]∧bU P (results fn a.tmps) s (fun v s'=>∃s0,s0.le s'∧R (.returned v) s0) (fun _ _=>False)
 | .panic ch,a,s=>a.defers=[]∧R (.panicked ch) s
 |_,_,_=>False
theorem tM(hC:∀main T,C main T→Closed P main T){main:Bool}{T:Goroutine→St→Prop}(hT:C main T){f:FuncId}{fn:Func}(hf:P.funcs[f]?=some fn) {fr c:Frame} {cs:List Frame}
 (h1:fr.fn=f) (h2:fr.kind= .normal) (h3:fr.mode= .returning) (h4:fr.defers=[]) {R:Ending→St→Prop} {s:St}
 (hr:bU P (results fn fr.tmps) s (fun v s'=>∃s0,s0.le s'∧R (.returned v) s0) (fun _ _=>False)) (hk:∀v s',R (.returned v) s'→T (G (c.finish v) cs) s'):T (G fr (c::cs)) s:=by
 refine(hC main T hT).step _ _ rfl fun w qn=>?_
 obtain⟨r,es,cq,hl⟩:=iy _ _ _ _ w #[] hr qn
 clear hr
 rw[Array.empty_append] at cq
 cases r with
 |ok v w'=>
  obtain⟨s',ht,hu⟩:=hl
  refine⟨G (c.finish v) cs,w',seen P fr.fn es,s',?_,rfl,ht.sub (jb _ _ _),by obtain⟨s0,hl0,wG⟩:=hu;exact(hC main T hT).mono _ _ _ hl0 (hk _ _ wG)⟩
  rcases fr with ⟨fn',tmps,todo,defers,mode,kind,ro⟩
  simp only at h1 h2 h3 h4 cq ⊢
  subst h1 h2 h3 h4
  simp only[G,stepG,unwind,hf,cq,doReturn,GStep.after,Array.append_empty]
 |halt _ _=>obtain⟨_,_,hu⟩:=hl;exact hu.elim
theorem Tp(hC:∀main T,C main T→Closed P main T){f:FuncId}{fn:Func}{c:Code}{args:Array Value}{R:Ending→St→Prop}
 (hf:P.funcs[f]?=some fn) (hb:fn.body=some c) (h:Wp C f none c (sI P fn R) ⟨args++Array.replicate (fn.ntmps-args.size) undef,[]⟩ s):Fn C P f args s R:=by
 intro main T hT cl cs k1 k2
 let b:Frame:={(default:Frame) with fn:=f,kind:= .normal,roundOf:=none}
 have iM:Frame.enter P f args .normal=aM b ⟨args++Array.replicate (fn.ntmps-args.size) undef,[]⟩ [.code c]:=by
  simp[Frame.enter,aM,hf,hb,b]
 rw[iM]
 refine h main T hT b [] (cl::cs) rfl (by simp[b]) rfl fun e a' s' q=>?_
 have th:∀(todo:List Item),a'.defers=[]→bU P (results fn a'.tmps) s' (fun v s'=>∃s0,s0.le s'∧R (.returned v) s0) (fun _ _=>False)→T (G {aM b a' todo with mode:= .returning} (cl::cs)) s':=
  fun todo hd hr=>tM hC hT hf rfl rfl rfl hd hr k1
 cases e with
 |normal=>
  exact(hC main T hT).go rfl rfl (g':=G {aM b a' [] with mode:= .returning} (cl::cs)) (fun w=>by simp[G,stepG,stepG.exec,aM,b]) (th _ q.1 q.2)
 |ret=>
  exact fun todo=>(hC main T hT).go rfl rfl (g':=G {aM b a' (.code .ret::todo) with mode:= .returning} (cl::cs)) (fun w=>by simp[G,stepG,stepG.exec,aM,b]) (th _ q.1 q.2)
 |panic ch=>
  intro todo
  refine(hC main T hT).go rfl rfl (g':=G (cl.raise ch) cs) (fun w=>?_) (k2 _ _ q.2)
  have Fc:∀fr:Frame,fr.fn=f→fr.catches P=false:=by
   intro fr hfr;simp[Frame.catches,hfr,hf]
  have:=Fc {aM b a' todo with mode:= .panicking ch} rfl
  simp only[aM,q.1] at this
  simp[G,stepG,unwind,aM,b,q.1,this]
 |exit id=>exact q.elim
 |goto l=>exact q.elim
 |outgrown=>exact q.elim
end rules
abbrev Env:=List (Nat×Value)
variable {env e:Env}
def get:Env→Nat→Value
 | [],_=>undef
 | (k,v)::r,t=>bif Nat.beq k t then v else get r t
def A(n:Nat)(env:Env)(D:List Deferred):Act:=⟨Array.ofFn (n:=n) fun i=>get env i,D⟩
def ev(n:Nat)(env:Env):Operand→Value
 | .tmp t=>bif Nat.blt t n then get env t else undef
 | .const v=>v
 | .global g=> .pointer (some ⟨g,0,none⟩)
 | .func f=> .func (.func f) #[] #[]
def iD:Env→Nat→Option Value
 | [],_=>none
 | (k,v)::r,t=>bif Nat.beq k t then some v else iD r t
def bE(n:Nat)(env:Env):Operand→Option Value
 | .tmp t=>bif Nat.blt t n then iD env t else none
 | .const v=>some v
 | .global g=>some (.pointer (some ⟨g,0,none⟩))
 | .func f=>some (.func (.func f) #[] #[])
def y5(n:Nat)(env:Env):List Operand→Option (List Value)
 | []=>some []
 |x::l=>match bE n env x with
  |some v=>match y5 n env l with
   |some r=>some (v::r)
   |none=>none
  |none=>none
def wI(n:Nat)(env:Env)(xs:Array Operand):Option (List Value):=y5 n env xs.toList
theorem nj{t:Nat}{v:Value}(h:iD env t=some v):get env t=v:=by
 induction env with
 |nil=>cases h
 |cons x env ih=>
  rcases x with ⟨k,u⟩
  simp only[iD,get] at h ⊢
  cases hb:Nat.beq k t with
  |true=>rw[hb] at h;simpa using h
  |false=>rw[hb] at h;exact ih h
theorem aH{v:Value}(h:bE n env x=some v):ev n env x=v:=by
 cases x with
 |tmp t=>
  simp only[bE,ev] at h ⊢
  cases hb:Nat.blt t n with
  |true=>rw[hb] at h;exact nj h
  |false=>rw[hb] at h;cases h
 |const u=>simpa [bE,ev] using h
 |global g=>simpa [bE,ev] using h
 |func f=>simpa [bE,ev] using h
theorem akA:∀ {xs:List Operand} {l:List Value},y5 n env xs=some l→xs.map (ev n env)=l
 | [],l,h=>by simpa [y5] using h
 |x::xs,l,h=>by
  simp only[y5] at h
  cases hx:bE n env x with
  |none=>rw[hx] at h;cases h
  |some v=>
   rw[hx] at h
   cases hr:y5 n env xs with
   |none=>rw[hr] at h;cases h
   |some r=>rw[hr] at h;simp only[Option.some.injEq] at h;subst h;simp[aH hx,akA hr]
theorem tq(h:wI n env xs=some l):xs.map (ev n env)=⟨l⟩:=by
 have:=akA h
 rcases xs with ⟨xs⟩
 simpa using this
def upd(dst:Option Tmp)(v:Value)(env:Env):Env:=
 match dst with
 |some d=>(d,v)::env
 |none=>env
theorem P5(n:Nat)(env:Env)(D:List Deferred)(t:Nat):(A n env D).tmps[t]?=if t <n then some (get env t) else none:=by
 simp only[A,Array.getElem?_ofFn]
 split<;>rfl
theorem eG(n:Nat)(env:Env)(D:List Deferred):(A n env D).eval=ev n env:=by
 funext x
 cases x with
 |tmp t=>
  simp only[Act.eval,ev,Array.getD_eq_getD_getElem?,P5]
  by_cases h:t <n
  ·rw[if_pos h,show Nat.blt t n=true from by simpa [Nat.blt_eq] using h];rfl
  rw[if_neg h,show Nat.blt t n=false from by simpa [Nat.blt_eq,←Bool.not_eq_true] using h];rfl
 |_=>rfl
theorem cN(k t:Nat)(v:Value)(r:Env):get ((k,v)::r) t=if k=t then v else get r t:=by
 simp only[get]
 by_cases h:k=t
 ·subst h;simp
 rw[if_neg h,show Nat.beq k t=false from by simpa [←Bool.not_eq_true] using h];rfl
theorem bu(n:Nat)(env:Env)(D:List Deferred)(dst:Option Tmp)(v:Value):(A n env D).put dst v=A n (upd dst v env) D:=by
 cases dst with
 |none=>rfl
 |some d=>
  simp only[Act.put,upd,A,Act.mk.injEq,and_true]
  apply Array.ext_getElem?
  intro i
  rw[Array.getElem?_setIfInBounds]
  simp only[Array.getElem?_ofFn,Array.size_ofFn]
  by_cases h:d=i
  ·subst h
   by_cases h2:d <n<;>simp[h2,cN]
  simp only[h,if_false]
  split
  ·simp[cN,h]
  rfl
def Holds(n:Nat)(env:Env)(D:List Deferred)(a:Act):Prop:=∃rest,a=A n (env++rest) D
theorem get_append(env rest:Env)(t:Nat):get (env++rest) t=if (env.any fun x=>x.1==t) then get env t else get rest t:=by
 induction env with
 |nil=>simp
 |cons x env ih=>
  rcases x with ⟨k,v⟩
  simp only[List.cons_append,cN,List.any_cons]
  by_cases h:k=t
  ·simp[h]
  have hk:(k==t)=false:=by simpa using h
  rw[if_neg h,if_neg h,ih,hk,Bool.false_or]
theorem holds_of(n:Nat)(env lJ:Env)(D:List Deferred)(h:∀x∈env,get lJ x.1=x.2)(hd:∀x∈env,get env x.1=x.2):Holds n env D (A n lJ D):=by
 refine⟨lJ,?_⟩
 simp only[A,Act.mk.injEq,and_true]
 congr 1
 funext i
 rw[get_append]
 split
 ·rename_i ha
  obtain⟨x,hx,hk⟩:=List.any_eq_true.1 ha
  have hk:x.1=i.val:=by simpa using hk
  rw[←hk,h x hx,hd x hx]
 rfl
def aB(ops:Array Oper)(n:Nat)(env:Env):Option (Nat×Bool)→Bool
 |none=>true
 |some (j,want)=>match (ops[j]?).bind (·.dst) with
  |some d=>match bE n env (.tmp d) with
   |some (.bool b)=>b==want
   |_=>false
  |none=>false
theorem GZ{ops:Array Oper}{D:List Deferred}{b:Bool}(hd:(ops[j]?).bind (·.dst)=some d) (hv:bE n env (.tmp d)=some (.bool b)):yielded ops (A n env D).tmps j=some b:=by
 simp only[yielded,hd,Option.bind_some,P5]
 simp only[bE] at hv
 by_cases cO:d <n
 ·rw[show Nat.blt d n=true from by simpa [Nat.blt_eq] using cO] at hv
  simp only[cond_true] at hv
  rw[if_pos cO,nj hv]
 rw[show Nat.blt d n=false from by simpa [Nat.blt_eq,←Bool.not_eq_true] using cO] at hv
 cases hv
theorem C8(ops:Array Oper)(n:Nat)(env:Env)(D:List Deferred)(o:Oper)(h:aB ops n env o.guard=true):Region.wanted o (yielded ops (A n env D).tmps)=true:=by
 unfold Region.wanted
 cases hg:o.guard with
 |none=>rfl
 |some x=>
  rcases x with ⟨j,want⟩
  rw[hg] at h
  simp only[aB] at h
  cases hd:(ops[j]?).bind (·.dst) with
  |none=>rw[hd] at h;cases h
  |some d=>
   rw[hd] at h
   simp only at h
   cases hv:bE n env (.tmp d) with
   |none=>rw[hv] at h;cases h
   |some v=>
    rw[hv] at h
    cases v<;>first
     | (simp only at h;simp only[GZ hd hv];simpa using h)
     | (cases h;done)
theorem QI(ops:Array Oper)(n:Nat)(env:Env)(D:List Deferred)(o:Oper)(j:Nat)(want:Bool)(d:Tmp)(b:Bool)(hg:o.guard=some (j,want))(hd:(ops[j]?).bind (·.dst)=some d)
 (hv:bE n env (.tmp d)=some (.bool b)) (hb:(b==want)=false):Region.wanted o (yielded ops (A n env D).tmps)=false:=by
 unfold Region.wanted
 rw[hg]
 simp only[GZ hd hv]
 simpa using hb
structure TF(P:Program)(t:TypeId)(d:TypeDesc)(size bytes:Nat)(zero:List Value)(agg:Bool):Prop where
 und:P.underlying t=some d
 info:∃i,P.info? t=some i∧i.size=size∧i.bytes=bytes∧∃z,i.zero=some z∧z.cells=⟨zero⟩∧z=if agg then .agg ⟨zero⟩ else zero.headD undef
 isAgg:agg=(match d with| .struct _| .array _ _=>true|_=>false)
structure FF(P:Program)(f:FuncId):Prop where
 ff:∃fn,P.funcs[f]?=some fn∧(fn.name== "runtime.NumGoroutine")=false∧fn.body.isNone=false
section rules
variable {P:Program} {C:Class} {fn:FuncId} {aD:Option Nat} {Q:Post} {s:St} {n:Nat} {env:Env} {D:List Deferred}
variable {ops:Array Oper} {i:Nat} {rest:List Nat} {dst:Option Tmp} {ty:TypeId} {pos:String} {dt:Array Edge} {g:Option (Nat×Bool)}
theorem cd(hC:∀main T,C main T→Closed P main T){o:Oper}(ho:ops[i]?=some o) (hw:aB ops n env o.guard=true) (hd:∀c,o.op≠ .defer c)
 (h:bU P (execOp (ev n env) o) s (upon C P aD o.dst (A n env D) (fun a' s'=>ai C fn aD ops rest Q a' s') Q) (Og (A n env D) Q)):ai C fn aD ops (i::rest) Q (A n env D) s:=by
 rw[←eG n env D] at h
 exact Oe hC ho (C8 _ _ _ _ _ hw) (.inr hd) h
theorem u1(hC:∀main T,C main T→Closed P main T){o:Oper}(ho:ops[i]?=some o) {want:Bool} {b:Bool} (hg:o.guard=some (j,want)) (hd:(ops[j]?).bind (·.dst)=some d)
 (hv:bE n env (.tmp d)=some (.bool b)) (hb:(b==want)=false) (h:ai C fn aD ops rest Q (A n (upd o.dst undef env) D) s):ai C fn aD ops (i::rest) Q (A n env D) s:=by
 refine uW hC ho (QI _ _ _ _ _ _ _ _ _ hg hd hv hb) ?_
 rw[bu];exact h
theorem tR(hC:∀main T,C main T→Closed P main T){o:Oper}{v:Value}(ho:ops[i]?=some o) (hw:aB ops n env o.guard=true) (hd:∀c,o.op≠ .defer c)
 (hv:execOp (ev n env) o=Sem.pure (.value v)) (h:ai C fn aD ops rest Q (A n (upd o.dst v env) D) s):ai C fn aD ops (i::rest) Q (A n env D) s:=by
 refine cd hC ho hw hd ?_
 rw[hv]
 show ai _ _ _ _ _ _ _ _
 rw[bu];exact h
theorem RQ(hC:∀main T,C main T→Closed P main T){op:BinOp}{T:TypeId}{k:IntKind}{a b:Int}{v:Value}(ho:ops[i]?=some ⟨dst,.binOp op T x y T',ty,pos,dt,g⟩) (hw:aB ops n env g=true)
 (hx:bE n env x=some (.int k a)) (hy:bE n env y=some (.int k b)) (hv:binOp op T (.int k a) (.int k b)=Sem.pure v) (h:ai C fn aD ops rest Q (A n (upd dst v env) D) s):ai C fn aD ops (i::rest) Q (A n env D) s:=by
 refine tR hC ho hw (by simp) ?_ h
 simp only[execOp,aH hx,aH hy]
 have he:eqGuard op T x y (.int k a) (.int k b)=Sem.pure ():=by
  unfold eqGuard
  cases op<;>rfl
 rw[he]
 show Sem.bind (Sem.bind (Sem.pure ()) fun _=>binOp op T (.int k a) (.int k b)) _=_
 simp only[Sem.bind,hv]
 rfl
theorem jY(x:Int)(h: -9223372036854775808≤x∧x≤9223372036854775807):IntKind.i64.wrap x=x:=IntWalk.i64_in x h
end rules
section sem
variable {P:Program} {α:Type} {s:St} {Q:α→St→Prop} {E:Halt→St→Prop} {t:TypeId} {d:TypeDesc} {sz bL:Nat} {z:List Value} {ag:Bool}
theorem ah{a:β}{k:β→Sem α}:bU P (pure a >>= k) s Q E=bU P (k a) s Q E:=rfl
theorem ae{γ:Type}{x:Sem β}{f:β→Sem γ}{k:γ→Sem α}:bU P ((x >>= f) >>= k) s Q E=bU P (x >>= fun a=>f a >>= k) s Q E:=by
 have:∀(x:Sem β),((x.bind f).bind k)=x.bind fun a=>(f a).bind k:=by
  intro x
  induction x with
  |pure a=>rfl
  |halt h=>rfl
  |load m a k ih=>simp only[Sem.bind,ih]
  |store m a v k ih=>simp only[Sem.bind,ih]
  |new o k ih=>simp only[Sem.bind,ih]
  |shape r k ih=>simp only[Sem.bind,ih]
  |freeze a n k ih=>simp only[Sem.bind,ih]
  |frozen a k ih=>simp only[Sem.bind,ih]
  |getObj r k ih=>simp only[Sem.bind,ih]
  |setObj r o k ih=>simp only[Sem.bind,ih]
  |choose q k ih=>simp only[Sem.bind,ih]
  |sys c k ih=>simp only[Sem.bind,ih]
  |program k ih=>simp only[Sem.bind,ih]
  |mark m k ih=>simp only[Sem.bind,ih]
 show bU P ((x.bind f).bind k) s Q E=bU P (x.bind fun a=>(f a).bind k) s Q E
 rw[this]
theorem fu{k:Program→Sem α}:bU P (program >>= k) s Q E=bU P (k P) s Q E:=rfl
theorem bk(h:TF P t d sz bL z ag){k:TypeDesc→Sem α}:bU P (underlying t >>= k) s Q E=bU P (k d) s Q E:=by
 simp only[underlying,ae,fu,h.und,ah]
theorem cy(h:TF P t d sz bL z ag){k:Nat→Sem α}:bU P (sizeOf t >>= k) s Q E=bU P (k sz) s Q E:=by
 obtain⟨i,hi,h1,_⟩:=h.info
 simp only[sizeOf,typeInfo,ae,fu,hi,ah,h1]
def NB(z:List Value)(ag:Bool):Value:=if ag then .agg ⟨z⟩ else z.headD undef
theorem j5(h:TF P t d sz bL z ag){k:Value→Sem α}:bU P (zeroValue t >>= k) s Q E=bU P (k (NB z ag)) s Q E:=by
 obtain⟨i,hi,h1,h2,x,hx,hc,he⟩:=h.info
 simp only[zeroValue,typeInfo,ae,fu,hi,ah,hx,he,NB]
theorem dX(h:TF P t d sz bL z ag):(NB z ag).cells=⟨z⟩:=by
 obtain⟨i,hi,h1,h2,x,hx,hc,he⟩:=h.info
 rw[←hc,he];rfl
theorem kZ(h:TF P t d sz bL z ag){k:Bool→Sem α}:bU P (isAgg t >>= k) s Q E=bU P (k ag) s Q E:=by
 simp only[isAgg,ae,bk h]
 rw[h.isAgg]
 cases d<;>rfl
theorem oK{o:Obj}{k:Nat→Sem α}:bU P (newObj o >>= k) s Q E=∀b,¬s.knows b→bU P (k b) ⟨s.ro,(b,o)::s.rw⟩ Q E:=rfl
theorem iA{e:TypeId}{cs:Array Value}{k:Addr→Sem α}:bU P (newRow e cs >>= k) s Q E=∀b,¬s.knows b→bU P (k ⟨b,0,none⟩) ⟨s.ro,(b,.cells cs e)::s.rw⟩ Q E:=rfl
theorem tI{e:TypeId}{v:Value}{k:Addr→Sem α}:bU P (newVar e v >>= k) s Q E=∀b,¬s.knows b→bU P (k ⟨b,0,none⟩) ⟨s.ro,(b,.cells v.cells e)::s.rw⟩ Q E:=rfl
theorem dV(b o k:Nat):(⟨b,o,none⟩:Addr).add k=⟨b,o+k,none⟩:=by
 unfold Addr.add;split
 ·rename_i h;subst h;rfl
 rfl
def nth:List Value→Nat→Option Value
 | [],_=>none
 |v::_,0=>some v
 |_::l,o+1=>nth l o
def kK:List Value→Nat→Option (List Value)
 |_,0=>some []
 | [],_+1=>none
 |v::l,n+1=>match kK l n with
  |some r=>some (v::r)
  |none=>none
def sub:List Value→Nat→Nat→Option (List Value)
 |l,0,n=>kK l n
 | [],_+1,_=>none
 |_::l,o+1,n=>sub l o n
def dK:List Value→Nat→List Value→List Value
 | [],_,_=>[]
 |x::l,_,[]=>x::l
 |_::l,0,v::vs=>v::dK l 0 vs
 |x::l,o+1,v::vs=>x::dK l o (v::vs)
theorem s9:∀(l:List Value) (o:Nat),nth l o=l[o]?
 | [],_=>rfl
 |_::_,0=>rfl
 |_::l,o+1=>by simp[nth,s9 l o]
theorem QT:∀(l:List Value) (n:Nat) (vs:List Value),kK l n=some vs→vs.length=n∧∀(j:Nat) (v:Value),vs[j]?=some v→l[j]?=some v
 |l,0,vs,h=>by simp[kK] at h;subst h;simp
 | [],n+1,vs,h=>by simp[kK] at h
 |x::l,n+1,vs,h=>by
  simp only[kK] at h
  cases hr:kK l n with
  |none=>rw[hr] at h;cases h
  |some r=>
   rw[hr] at h;simp only[Option.some.injEq] at h;subst h
   obtain⟨h1,h2⟩:=QT l n r hr
   refine⟨by simp[h1],fun j v hj=>?_⟩
   cases j with
   |zero=>simpa using hj
   |succ j=>simp at hj ⊢;exact h2 j v hj
theorem sub_eq:∀(l:List Value) (o n:Nat) (vs:List Value),sub l o n=some vs→vs.length=n∧∀(j:Nat) (v:Value),vs[j]?=some v→l[o+j]?=some v
 |l,0,n,vs,h=>by
  have h:kK l n=some vs:=by cases l<;>exact h
  obtain⟨h1,h2⟩:=QT l n vs h
  exact⟨h1,fun j v hj=>by rw[Nat.zero_add];exact h2 j v hj⟩
 | [],o+1,n,vs,h=>by simp[sub] at h
 |x::l,o+1,n,vs,h=>by
  obtain⟨h1,h2⟩:=sub_eq l o n vs (by simpa [sub] using h)
  refine⟨h1,fun j v hj=>?_⟩
  rw[show o+1+j=(o+j)+1 from by omega]
  simpa using h2 j v hj
theorem lR:∀(l:List Value) (o:Nat) (vs:List Value),(dK l o vs).length=l.length
 | [],_,_=>rfl
 |_::_,_,[]=>by simp[dK]
 |_::l,0,v::vs=>by simp[dK,lR l 0 vs]
 |x::l,o+1,v::vs=>by simp[dK,lR l o (v::vs)]
theorem lQ(l:List Value)(o:Nat):dK l o []=l:=by cases l<;>cases o<;>rfl
theorem Dz:∀(l:List Value) (o:Nat) (v:Value) (vs:List Value),o <l.length→dK l o (v::vs)=dK (l.set o v) (o+1) vs
 |x::l,0,v,vs,_=>by
  cases vs with
  |nil=>simp[dK,lQ]
  |cons w ws=>simp[dK]
 |x::l,o+1,v,vs,h=>by
  have:=Dz l o v vs (by simpa using h)
  cases vs with
  |nil=>simp only[dK,this,lQ,List.set_cons_succ]
  |cons w ws=>simp only[dK,this,List.set_cons_succ]
def Reads(s:St)(b o:Nat)(v:Value):Prop:=∃l t fz,s.has b (.cells ⟨l⟩ t fz)∧nth l o=some v
def cK(s:St)(b o n:Nat)(vs:List Value):Prop:=∃l t fz,s.has b (.cells ⟨l⟩ t fz)∧sub l o n=some vs
theorem wN{v:Value}(h:Reads s b o v){k:Value→Sem α}(hk:bU P (k v) s Q E):bU P (load ⟨b,o,none⟩ >>= k) s Q E:=by
 obtain⟨l,t,fz,h1,h2⟩:=h
 exact⟨rfl,rfl,⟨l⟩,t,fz,v,h1,by rw[s9] at h2;simpa using h2,hk⟩
theorem FD{c:List Value}{fz:Nat×Nat}(hb:s.has b (.cells ⟨c⟩ t fz))(l:List Value):∀(i:Nat) (acc:Array Value) {k:Array Value→Sem α},(∀(j:Nat) (v:Value),l[j]?=some v→c[o+i+j]?=some v)→bU P (k (acc++l.toArray)) s Q E→
 bU P (loadCellsFrom ⟨b,o,none⟩ i l.length acc >>= k) s Q E:=by
 induction l with
 |nil=>intro i acc k _ hk;simpa [loadCellsFrom,ah] using hk
 |cons v l ih=>
  intro i acc k h2 hk
  simp only[List.length_cons,loadCellsFrom,ae,dV]
  refine wN ⟨c,t,fz,hb,by rw[s9];exact h2 0 v rfl⟩ ?_
  refine ih (i+1) (acc.push v) (fun j x hx=>?_) (by simpa using hk)
  have:=h2 (j+1) x (by simpa using hx)
  rw[show o+(i+1)+j=o+i+(j+1) from by omega];exact this
theorem jA{m:Nat}(h:cK s b o m l){k:Array Value→Sem α}(hk:bU P (k ⟨l⟩) s Q E):bU P (loadCells ⟨b,o,none⟩ m >>= k) s Q E:=by
 obtain⟨c,t,fz,h1,h2⟩:=h
 obtain⟨h3,h4⟩:=sub_eq _ _ _ _ h2
 subst h3
 exact FD h1 l 0 #[] (by simpa using h4) (by simpa using hk)
theorem ana{L:List (Nat×Obj)}{v:Value}{c:List Value}{e:TypeId}(hs:s.rw=L++(b,.cells ⟨c⟩ e (0,0))::R)(ho:o <c.length)(h1:single v=true){k:Unit→Sem α}
 (hk:bU P (k ()) ⟨s.ro,L++(b,.cells ⟨c.set o v⟩ e (0,0))::R⟩ Q E):bU P (store ⟨b,o,none⟩ v >>= k) s Q E:=
 ⟨rfl,rfl,h1,L,⟨c⟩,e,(0,0),R,hs,by simpa using ho,by simp,by
  rw[show (⟨c⟩:Array Value).setIfInBounds o v=⟨c.set o v⟩ from by simp];exact hk⟩
theorem mX{L:List (Nat×Obj)}{e:TypeId}(l:List Value):∀(i:Nat) (c:List Value) (s:St) {k:Unit→Sem α},s.rw=L++(b,.cells ⟨c⟩ e (0,0))::R→o+i+l.length≤c.length→(∀v∈l,single v=true)→
 bU P (k ()) ⟨s.ro,L++(b,.cells ⟨dK c (o+i) l⟩ e (0,0))::R⟩ Q E→bU P (storeCells ⟨b,o,none⟩ l i >>= k) s Q E:=by
 induction l with
 |nil=>intro i c s k hs _ _ hk;rcases s with ⟨ro,Ki⟩;simp only at hs;subst hs;rw[lQ] at hk;simpa [storeCells,ah] using hk
 |cons v l ih=>
  intro i c s k hs ho h1 hk
  simp only[List.length_cons] at ho
  simp only[storeCells,ae,dV]
  refine ana hs (by omega) (h1 v (by simp))<|ih (i+1) _ _ rfl (by simp;omega) (fun x hx=>h1 x (by simp[hx])) ?_
  rw[Dz _ _ _ _ (by omega)] at hk
  simpa [Nat.add_assoc] using hk
end sem
section rules
variable {P:Program} {C:Class} {fn:FuncId} {aD:Option Nat} {Q:Post} {s:St} {n:Nat} {env:Env} {D:List Deferred}
variable {ops:Array Oper} {i:Nat} {rest:List Nat} {dst:Option Tmp} {ty:TypeId} {pos:String} {dt:Array Edge} {g:Option (Nat×Bool)}
variable {T:TypeId} {d:TypeDesc} {sz bL:Nat} {z:List Value} {ag:Bool}
theorem an1(hC:∀main T,C main T→Closed P main T)(ho:ops[i]?=some ⟨dst,.alloc T,ty,pos,dt,g⟩) (hw:aB ops n env g=true) (tf:TF P T d sz bL z ag)
 (h:∀b,¬s.knows b→ai C fn aD ops rest Q (A n (upd dst (.pointer (some ⟨b,0,none⟩)) env) D) ⟨s.ro,(b,.cells ⟨z⟩ T)::s.rw⟩):ai C fn aD ops (i::rest) Q (A n env D) s:=by
 refine cd hC ho hw (by simp) ?_
 simp only[execOp,Instr.alloc,ae,j5 tf,tI,ah,dX tf]
 intro b hb
 have:=h b hb
 rw[←bu] at this
 exact this
theorem aE3(hC:∀main T,C main T→Closed P main T){v:Value}(ho:ops[i]?=some ⟨dst,.box T x,ty,pos,dt,g⟩) (hw:aB ops n env g=true) (hx:bE n env x=some (v)) (hl:v.cells=⟨l⟩)
 (h:∀b,¬s.knows b→ai C fn aD ops rest Q (A n (upd dst (.pointer (some ⟨b,0,none⟩)) env) D) ⟨s.ro,(b,.cells ⟨l⟩ T)::s.rw⟩):ai C fn aD ops (i::rest) Q (A n env D) s:=by
 refine cd hC ho hw (by simp) ?_
 simp only[execOp,Instr.box,ae,tI,ah,aH hx,hl]
 intro b hb
 have:=h b hb
 rw[←bu] at this
 exact this
theorem Gz(hC:∀main T,C main T→Closed P main T){v:Value}{L:List (Nat×Obj)}{c:List Value}{e:TypeId}(ho:ops[i]?=some ⟨dst,.store T x y,ty,pos,dt,g⟩) (hw:aB ops n env g=true) (tf:TF P T d sz bL z ag)
 (hx:bE n env x=some (.pointer (some ⟨b,o,none⟩))) (hy:bE n env y=some (v)) (hl:v.cells=⟨l⟩) (hn:l.length=sz) (h1:∀v∈l,single v=true) (hs:s.rw=L++(b,.cells ⟨c⟩ e (0,0))::R) (hb:o+l.length≤c.length)
 (h:ai C fn aD ops rest Q (A n (upd dst undef env) D) ⟨s.ro,L++(b,.cells ⟨dK c o l⟩ e (0,0))::R⟩):ai C fn aD ops (i::rest) Q (A n env D) s:=by
 refine cd hC ho hw (by simp) ?_
 have uA:v.cells.size=sz:=by rw[hl];simpa using hn
 simp only[execOp,Instr.storeAt,aH hx,aH hy,Instr.sureAddr,storeVar,ae,ah,cy tf,uA,ne_eq,not_true,if_false]
 rw[show v.cells.toList=l from by rw[hl]]
 refine mX l 0 c s hs (by simpa using hb) h1 ?_
 rw[←bu] at h
 rw[Nat.add_zero]
 exact h
theorem aEZ(hC:∀main T,C main T→Closed P main T){E:TypeId}{a:Option Addr}{len:Nat}(ho:ops[i]?=some ⟨dst,.call ⟨.builtin .len,#[x],#[T]⟩,ty,pos,dt,g⟩) (hw:aB ops n env g=true)
 (tf:TF P T (.slice E) sz bL z ag) (hx:bE n env x=some (.slice a len cap)) (h:ai C fn aD ops rest Q (A n (upd dst (.int .i64 len) env) D) s):ai C fn aD ops (i::rest) Q (A n env D) s:=by
 refine cd hC ho hw (by simp) ?_
 simp only[execOp,resolve,invoke,builtin,Builtin.len_,List.map_toArray,List.map_cons,List.map_nil,aH hx,ah]
 simp only[List.getElem?_toArray,List.getElem?_cons_zero,bk tf,ah,ae]
 rw[←bu] at h
 exact h
theorem kL{Q:Next→St→Prop}(ff:FF P f)(h:Q (.enter f args) s):bU P (callFunc f args) s Q E:=by
 obtain⟨fn,h1,h2,h3⟩:=ff.ff
 simp only[callFunc,fu,h1,h2,h3,Bool.false_eq_true,if_false]
 exact h
theorem u3(hC:∀main T,C main T→Closed P main T){ws:List Value}{R:Ending→St→Prop}(ho:ops[i]?=some ⟨dst,.call ⟨.value x,xs,at_⟩,ty,pos,dt,g⟩) (hw:aB ops n env g=true)
 (hv:bE n env x=some (.func (.func f) fi ca)) (ff:FF P f) (hx:wI n env xs=some vs) (td:fi++⟨vs⟩++ca=⟨ws⟩) (hf:Fn C P f ⟨ws⟩ s R) (h:∀v s',R (.returned v) s'→ai C fn aD ops rest Q (A n (upd dst v env) D) s') (hp:∀ch s',R (.panicked ch) s'→Q (.panic ch) (A n env D) s') (hg:∀s',¬R .outgrown s'):
 ai C fn aD ops (i::rest) Q (A n env D) s:=by
 refine cd hC ho hw (by simp) ?_
 simp only[execOp,resolve,aH hv,Deferred.ofValue,ah,tq hx]
 simp only[invoke,td]
 refine kL ff<|Fn.mono hf fun e s' hr=>?_
 cases e with
 |returned v=>have:=h v s' hr;rw[←bu] at this;exact this
 |panicked ch=>exact hp ch s' hr
 |outgrown=>exact(hg s' hr).elim
theorem Qv(hC:∀main T,C main T→Closed P main T){c:Operand}{x y:Code}{t:Bool}(hc:bE n env c=some (.bool t))(h1:t=true→Wp C fn aD x Q (A n env D) s)(h2:t=false→Wp C fn aD y Q (A n env D) s):
 Wp C fn aD (.cond c x y) Q (A n env D) s:=
 wp_cond_split hC (by rw[eG];exact aH hc) h1 h2
theorem Yg(hC:∀main T,C main T→Closed P main T){c:Operand}{x y:Code}{t:Bool}(hc:bE n env c=some (.bool t))(ht:t=true)(h1:Wp C fn aD x Q (A n env D) s):Wp C fn aD (.cond c x y) Q (A n env D) s:=
 Qv hC hc (fun _=>h1) (fun h=>by rw[ht] at h;cases h)
theorem Yh(hC:∀main T,C main T→Closed P main T){c:Operand}{x y:Code}{t:Bool}(hc:bE n env c=some (.bool t))(ht:t=false)(h1:Wp C fn aD y Q (A n env D) s):Wp C fn aD (.cond c x y) Q (A n env D) s:=
 Qv hC hc (fun h=>by rw[ht] at h;cases h) (fun _=>h1)
theorem uG{j:Nat}{want:Bool}{d:Tmp}{b:Bool}(hd:(ops[j]?).bind (·.dst)=some d) (hv:bE n env (.tmp d)=some (.bool b)) (hb:b=want):aB ops n env (some (j,want))=true:=by
 simp only[aB,hd,hv,hb,beq_self_eq_true]
def gu:Nat→List Value→Env
 |_,[]=>[]
 |i,v::l=>(i,v)::gu (i+1) l
theorem Tj:∀(l:List Value) (i t:Nat),get (gu i l) t=if i≤t then l.getD (t-i) undef else undef
 | [],i,t=>by simp[gu,get]
 |v::l,i,t=>by
  simp only[gu,cN,Tj l (i+1) t]
  by_cases h:i=t
  ·subst h;simp
  by_cases h2:i≤t
  ·rw[if_neg h,if_pos h2,if_pos (by omega)]
   obtain⟨d,rfl⟩:∃d,t=i+1+d:=⟨t-i-1,by omega⟩
   rw[show i+1+d-i=d+1 from by omega,show i+1+d-(i+1)=d from by omega]
   simp
  rw[if_neg h,if_neg h2,if_neg (by omega)]
theorem lj(args:List Value)(n:Nat)(h:args.length≤n):(⟨(⟨args⟩:Array Value)++Array.replicate (n-args.length) undef,[]⟩:Act)=A n (gu 0 args) []:=by
 simp only[A,Act.mk.injEq,and_true]
 apply Array.ext_getElem?
 intro i
 rw[Array.getElem?_append]
 simp only[Array.getElem?_ofFn,Array.getElem?_replicate,Tj]
 by_cases h1:i <args.length
 ·have h2:i <n:=by omega
  simp[h1,h2]
 by_cases h2:i <n
 ·simp[h1,h2];omega
 simp[h1,h2];omega
theorem To(hC:∀main T,C main T→Closed P main T){f:FuncId}{fn:Func}{c:Code}{args:List Value}{R:Ending→St→Prop}
 (hf:P.funcs[f]?=some fn) (hb:fn.body=some c) (hn:fn.ntmps=n) (hl:Nat.ble args.length n=true) (h:Wp C f none c (sI P fn R) (A n (gu 0 args) []) s):Fn C P f ⟨args⟩ s R:=by
 refine Tp hC hf hb ?_
 subst hn
 have:=lj args fn.ntmps (Nat.le_of_ble_eq_true hl)
 rw[←this] at h
 exact h
theorem qo{t:Tmp}{v:Value}(hv:bE n env (.tmp t)=some v):(A n env D).tmps[t]?.getD undef=v:=by
 have:=aH hv
 rw[←eG n env D] at this
 simpa [Act.eval,Array.getD_eq_getD_getElem?] using this
theorem xQ{fn:Func}{R:Ending→St→Prop}{e:Exit}{a:Act}(he:e= .ret∨e= .normal)(hd:a.defers=[])(h:bU P (results fn a.tmps) s (fun v s'=>∃s0,s0.le s'∧R (.returned v) s0) (fun _ _=>False)):sI P fn R e a s:=by
 rcases he with rfl|rfl<;>exact⟨hd,h⟩
end rules
theorem aoR{i:TypeInfo}{w:World}(h:(typeInfo t).run P w= .ok i w):P.info? t=some i:=by
 simp only[typeInfo] at h
 change (Sem.program fun p=>Sem.bind (Sem.pure p) fun p=>match p.info? t with|some i=>Sem.pure i|none=>stuck "no such type").run P w=_ at h
 simp only[Sem.run,Sem.bind] at h
 cases hi:P.info? t with
 |none=>rw[hi] at h;simp[stuck,Sem.run] at h
 |some j=>rw[hi] at h;simp[Sem.run] at h;rw[h]
theorem mE{i:TypeInfo}{d:TypeDesc}{bL:Nat}{z:Value}{ag:Bool}(h:∀w,(typeInfo t).run P w= .ok i w)(hu:P.underlying t=some d)
 (h1:i.size=sz)(h2:i.bytes=bL)(h3:i.zero=some z)(h4:z=if ag then .agg ⟨l⟩ else l.headD undef)(h5:z.cells=⟨l⟩)(h6:ag=(match d with| .struct _| .array _ _=>true|_=>false)):TF P t d sz bL l ag:=
 ⟨hu,⟨i,aoR (h default),h1,h2,z,h3,h5,h4⟩,h6⟩
def lv(env:Env):Env→Prop
 | []=>True
 | (t,v)::r=>iD env t=some v∧lv env r
theorem lv.mem:∀ {e:Env},lv env e→∀x∈e,get env x.1=x.2
 | (t,v)::r,h,x,hx=>by
  rcases List.mem_cons.1 hx with rfl|hx
  ·exact nj h.1
  exact lv.mem h.2 x hx
theorem gI{D:List Deferred}(h:lv env e)(hd:lv e e):∃rest,A n env D=A n (e++rest) D:=by
 obtain⟨rest,hr⟩:=holds_of n e env D (lv.mem h) (lv.mem hd)
 exact⟨rest,hr⟩
def Ext(s s':St):Prop:=∀b o,s.has b o→s'.has b o
theorem Ext.refl(s:St):Ext s s:=fun _ _ h=>h
theorem Ext.trans(h:Ext QX ae0)(k:Ext ae0 aeZ):Ext QX aeZ:=fun b o hb=>k b o (h b o hb)
theorem cK.ext{v:List Value}(h:cK s b o n v)(e:Ext s s'):cK s' b o n v:=by
 obtain⟨l,t,fz,h1,h2⟩:=h;exact⟨l,t,fz,e _ _ h1,h2⟩
section rules
variable {P:Program} {C:Class} {fn:FuncId} {aD:Option Nat} {Q:Post} {s:St} {n:Nat} {env:Env} {D:List Deferred}
variable {ops:Array Oper} {i:Nat} {rest:List Nat} {dst:Option Tmp} {ty:TypeId} {pos:String} {dt:Array Edge} {g:Option (Nat×Bool)}
variable {T:TypeId} {d:TypeDesc} {sz bL:Nat} {z:List Value} {ag:Bool}
def Ub(n:Nat)(D:List Deferred)(qt:ι→Env)(sf:ι→St)(Inv:ι→Prop)(μ:ι→Nat)(m:Nat)(a:Act)(s:St):Prop:=
 ∃j rest,Inv j∧μ j <m∧a=A n (qt j++rest) D∧(sf j).le s
theorem an5{qt:ι→Env}{sf:ι→St}{Inv:ι→Prop}{μ:ι→Nat}{m:Nat}(j:ι)(h:Inv j)(hm:μ j <m)(hc:lv env (qt j))(hd:lv (qt j) (qt j))(hs:(sf j).le s):
 Ub n D qt sf Inv μ m (A n env D) s:=by
 obtain⟨r,hr⟩:=gI (n:=n) (D:=D) hc hd
 exact⟨j,r,h,hm,hr,hs⟩
theorem aei(hC:∀main T,C main T→Closed P main T)(qt:ι→Env)(sf:ι→St)(Inv:ι→Prop)(μ:ι→Nat){c:Code}(i0:ι)(h0:Inv i0)(hc:lv env (qt i0))(hd:lv (qt i0) (qt i0))(hs:(sf i0).le s)
 (round:∀i,Inv i→∀rest,Wp C fn aD c (mD (Ub n D qt sf Inv μ (μ i)) Q) (A n (qt i++rest) D) (sf i)):Wp C fn aD (.loop c) Q (A n env D) s:=by
 obtain⟨r0,wG⟩:=gI (n:=n) (D:=D) hc hd
 rw[wG]
 intro main T hT b k cs h1 h2 h3 h4
 have key:∀m i rest s,μ i=m→Inv i→(sf i).le s→T (G (aM b (A n (qt i++rest) D) (.code c:: .inLoop c::k)) cs) s:=by
  intro m
  induction m using Nat.strongRecOn with
  |_ m ih=>
   intro i rest s hm hI hle
   refine(hC main T hT).mono _ _ _ hle ?_
   refine round i hI rest main T hT b (.inLoop c::k) cs h1 h2 h3 fun e a' s' q=>?_
   cases e with
   |normal=>
    obtain⟨j,afo,AQ,cO,rfl,yW⟩:=q
    exact(hC main T hT).go rfl rfl (g':=G (aM b _ (.code c:: .inLoop c::k)) cs) (fun w=>by simp[G,stepG,stepG.exec,aM]) (ih _ (hm▸cO) j afo s' rfl AQ yW)
   |exit id=>exact(h4 _ _ _ q).push rfl (by simp)
   |ret=>exact(h4 _ _ _ q).push (x:= .inLoop c) rfl (by simp)
   |panic ch=>exact(h4 _ _ _ q).push (x:= .inLoop c) rfl (by simp)
   |goto l=>exact(h4 _ _ _ q).elim
   |outgrown=>exact(h4 _ _ _ q).elim
 exact(hC main T hT).go rfl rfl (g':=G (aM b (A n (qt i0++r0) D) (.code c:: .inLoop c::k)) cs) (fun w=>by simp[G,stepG,stepG.exec,aM]) (key _ i0 r0 s rfl h0 hs)
end rules
section rules
variable {P:Program} {C:Class} {fn:FuncId} {aD:Option Nat} {Q:Post} {s:St} {n:Nat} {env:Env} {D:List Deferred}
variable {ops:Array Oper} {i:Nat} {rest todo:List Nat} {dst:Option Tmp} {ty:TypeId} {pos:String} {dt:Array Edge} {g:Option (Nat×Bool)}
variable {T:TypeId} {d:TypeDesc} {sz bL:Nat} {z:List Value} {ag:Bool}
theorem Ft{a:Act}(h:Q .normal a s):rC id Q (.exit id) a s:=by simp only[rC,if_true];exact h
theorem Fs{Up:Nat}{a:Act}(dQ:Nat.beq Up id=false)(h:Q (.exit Up) a s):rC id Q (.exit Up) a s:=by
 have:¬Up=id:=by intro e;subst e;simp at dQ
 simp only[rC,this,if_false];exact h
theorem BH(hC:∀main T,C main T→Closed P main T){op:BinOp}{T:TypeId}{a b:ByteArray}{v:Value}(ho:ops[i]?=some ⟨dst,.binOp op T x y T',ty,pos,dt,g⟩) (hw:aB ops n env g=true)
 (hx:bE n env x=some (.string a)) (hy:bE n env y=some (.string b)) (hv:Op.stringOp op a b=Sem.pure v) (aC:(match op with| .shl| .shr=>false|_=>true)=true) (h:ai C fn aD ops rest Q (A n (upd dst v env) D) s):ai C fn aD ops (i::rest) Q (A n env D) s:=by
 refine tR hC ho hw (by simp) ?_ h
 simp only[execOp,aH hx,aH hy]
 have he:eqGuard op T x y (.string a) (.string b)=Sem.pure ():=by
  unfold eqGuard
  cases op<;>rfl
 have hb:binOp op T (.string a) (.string b)=Op.stringOp op a b:=by cases op<;>first|rfl|cases aC
 rw[he,hb,hv]
 rfl
end rules
def Fo:List Edge→List Nat
 | []=>[]
 |e::l=>bif Region.binds .any e then e.on::Fo l else Fo l
def bG(ops:Array Oper)(i:Nat):List Nat:=
 match ops[i]? with
 |some o=>Fo o.after.toList
 |none=>[]
theorem DM{e:Edge}:∀ {l:List Edge},e∈l→Region.binds .any e=true→e.on∈Fo l
 |x::l,h,hb=>by
  rcases List.mem_cons.1 h with rfl|h
  ·simp[Fo,hb]
  simp only[Fo]
  cases Region.binds .any x
  ·exact DM h hb
  exact List.mem_cons_of_mem _ (DM h hb)
theorem uZ:∀ {l:List Edge},j∈Fo l→∃e∈l,Region.binds .any e=true∧e.on=j
 |x::l,h=>by
  simp only[Fo] at h
  cases hb:Region.binds .any x
  ·rw[hb] at h
   obtain⟨e,he,h2⟩:=uZ h
   exact⟨e,List.mem_cons_of_mem _ he,h2⟩
  rw[hb] at h
  rcases List.mem_cons.1 h with rfl|h
  ·exact⟨x,by simp,hb,rfl⟩
  obtain⟨e,he,h2⟩:=uZ h
  exact⟨e,List.mem_cons_of_mem _ he,h2⟩
def Lin(ops:Array Oper):List Nat→List Nat→Prop
 |X,[]=>∀i,i <ops.size→i∈X
 |X,i::l=>i <ops.size∧i∉X∧(∀j∈bG ops i,j∈X)∧Lin ops (i::X) l
def AX(ops:Array Oper):Bool:=(List.range ops.size).all fun i=>(bG ops i).all fun j=>Nat.blt j i
theorem yj[BEq α][LawfulBEq α]:∀ {l₁ l₂:List α},l₁.Nodup→(∀x∈l₁,x∈l₂)→l₁.length≤l₂.length
 | [],_,_,_=>by simp
 |x::l,l₂,hn,hs=>by
  rw[List.nodup_cons] at hn
  have hx:=hs x (by simp)
  have h1:(l₂.erase x).length=l₂.length-1:=List.length_erase_of_mem hx
  have h2:=yj (l₁:=l) (l₂:=l₂.erase x) hn.2 (fun y hy=>by
   have dQ:y≠x:=fun e=>hn.1 (e▸hy)
   exact(List.mem_erase_of_ne dQ).2 (hs y (by simp[hy])))
  have h3:=List.length_pos_of_mem hx
  simp only[List.length_cons]
  omega
theorem avN(ops:Array Oper)(hd:AX ops=true):∀(fuel t:Nat) (listed:Array Bool) (acc:List Nat),listed.size=ops.size→acc.Nodup→(∀i∈acc,i <ops.size)→
 (∀i,i <ops.size→(listed.getD i true=true↔i∈acc))→fuel+acc.length=ops.size→∃l,Region.linearise.go .any ops fuel t listed acc=acc.reverse++l∧Lin ops acc l:=by
 intro fuel
 induction fuel with
 |zero=>
  intro t listed acc hs hn cO hl hf
  refine⟨[],by simp[Region.linearise.go],fun i hi=>?_⟩
  apply Classical.byContradiction
  intro rK
  have h1:(i::acc).Nodup:=List.nodup_cons.2 ⟨rK,hn⟩
  have h2:∀x∈i::acc,x∈List.range ops.size:=by
   intro x hx
   rcases List.mem_cons.1 hx with rfl|hx
   ·exact List.mem_range.2 hi
   exact List.mem_range.2 (cO x hx)
  have h3:=yj h1 h2
  simp at h3
  omega
 |succ fuel ih=>
  intro t listed acc hs hn cO hl hf
  simp only[Region.linearise.go]
  generalize hrs:(List.range ops.size).filter (fun i=> !listed.getD i true&&((ops[i]?).map (·.after.all fun e=> !Region.binds .any e||listed.getD e.on false)).getD false)=rs
  have dQ:∃i,i <ops.size∧i∉acc:=by
   apply Classical.byContradiction
   intro JQ
   have h2:∀x∈List.range ops.size,x∈acc:=by
    intro x hx
    apply Classical.byContradiction
    intro H8
    exact JQ ⟨x,List.mem_range.1 hx,H8⟩
   have h3:=yj List.nodup_range h2
   simp at h3
   omega
  have jM:∀i,i∈rs↔(i <ops.size∧i∉acc∧∀j∈bG ops i,j∈acc):=by
   intro i
   rw[←hrs,List.mem_filter,List.mem_range]
   constructor
   ·rintro⟨h1,h2⟩
    rw[Bool.and_eq_true] at h2
    refine⟨h1,fun hm=>?_,fun j hj=>?_⟩
    ·have:=(hl i h1).2 hm
     rw[this] at h2;simp at h2
    obtain⟨h3,h4⟩:=h2
    have ho:ops[i]?=some ops[i]:=by simp[h1]
    simp only[bG,ho] at hj
    obtain⟨e,he,hb,rfl⟩:=uZ hj
    rw[ho] at h4
    simp only[Option.map_some,Option.getD_some,Array.all_eq_true'] at h4
    have h5:=h4 e (Array.mem_toList_iff.1 he)
    rw[hb] at h5
    simp only[Bool.not_true,Bool.false_or] at h5
    have Ef:e.on <ops.size:=by
     apply Classical.byContradiction
     intro hc
     have:listed.getD e.on false=false:=by
      rw[Array.getD_eq_getD_getElem?,Array.getElem?_eq_none (by omega)];rfl
     rw[this] at h5;cases h5
    have:listed.getD e.on true=true:=by
     rw[Array.getD_eq_getD_getElem?] at h5 ⊢
     have:listed[e.on]?=some listed[e.on]:=by simp[hs,Ef]
     rw[this] at h5 ⊢;exact h5
    exact(hl _ Ef).1 this
   rintro⟨h1,h2,h3⟩
   refine⟨h1,?_⟩
   have hf':listed.getD i true=false:=by
    cases hh:listed.getD i true with
    |false=>rfl
    |true=>exact absurd ((hl i h1).1 hh) h2
   rw[hf']
   have ho:ops[i]?=some ops[i]:=by simp[h1]
   rw[ho]
   simp only[Bool.not_false,Bool.true_and,Option.map_some,Option.getD_some,Array.all_eq_true']
   intro e he
   cases hb:Region.binds .any e with
   |false=>rfl
   |true=>
    have hj:e.on∈acc:=h3 _ (by simp only[bG,ho];exact DM (Array.mem_toList_iff.2 he) hb)
    have Ef:=cO _ hj
    have h4:=(hl _ Ef).2 hj
    rw[Array.getD_eq_getD_getElem?] at h4 ⊢
    have:listed[e.on]?=some listed[e.on]:=by simp[hs,Ef]
    rw[this] at h4 ⊢
    simpa using h4
  have hrn:rs≠[]:=by
   obtain⟨i,hi,rK⟩:=dQ
   have axO:∃i,i <ops.size∧i∉acc∧∀j,j <i→j∈acc:=by
    have:∀m i,i≤m→i <ops.size→i∉acc→∃i,i <ops.size∧i∉acc∧∀j,j <i→j∈acc:=by
     intro m
     induction m with
     |zero=>intro i h1 h2 h3;exact⟨i,h2,h3,fun j hj=>by omega⟩
     |succ m ihm=>
      intro i h1 h2 h3
      by_cases hex:∃j,j <i∧j∉acc
      ·obtain⟨j,hj,hnj⟩:=hex
       exact ihm j (by omega) (by omega) hnj
      refine⟨i,h2,h3,fun j hj=>?_⟩
      apply Classical.byContradiction
      intro hc
      exact hex ⟨j,hj,hc⟩
    exact this i i (Nat.le_refl _) hi rK
   obtain⟨i,h1,h2,h3⟩:=axO
   have:i∈rs:=(jM i).2 ⟨h1,h2,fun j hj=>by
    have:=(List.all_eq_true.1 hd) i (List.mem_range.2 h1)
    have:=(List.all_eq_true.1 this) j hj
    exact h3 j (by simpa [Nat.blt_eq] using this)⟩
   intro he;rw[he] at this;cases this
  have aGC:0 <rs.length:=List.length_pos_iff.2 hrn
  have aVx:=Nat.mod_lt t aGC
  have oU:rs[t % rs.length]?=some rs[t % rs.length]:=by simp[aVx]
  rw[oU]
  simp only
  generalize hi:rs[t % rs.length]=i
  have hir:i∈rs:=by rw[←hi];exact List.getElem_mem _
  obtain⟨h1,h2,h3⟩:=(jM i).1 hir
  obtain⟨l,Fe,rO⟩:=ih (t / rs.length) (listed.setIfInBounds i true) (i::acc) (by simpa using hs) (List.nodup_cons.2 ⟨h2,hn⟩)
   (fun j hj=>by rcases List.mem_cons.1 hj with rfl|hj;exact h1;exact cO j hj)
   (fun j hj=>by
    rw[Array.getD_eq_getD_getElem?,Array.getElem?_setIfInBounds]
    by_cases e:i=j
    ·subst e;simp[hs,h1]
    have:=hl j hj
    rw[Array.getD_eq_getD_getElem?] at this
    simp only[e,if_false,this,List.mem_cons]
    constructor
    ·exact .inr
    rintro(h|h)
    ·exact absurd h.symm e
    exact h)
   (by simp;omega)
  exact⟨i::l,by rw[Fe];simp,h1,h2,h3,rO⟩
theorem BP{ops:Array Oper}(hd:AX ops=true)(t:Nat):Lin ops [] (Region.schedule true ops t):=by
 have:Region.schedule true ops t=Region.linearise .any ops t:=by simp[Region.schedule]
 rw[this]
 obtain⟨l,h1,h2⟩:=avN ops hd ops.size t (Array.replicate ops.size false) [] (by simp) (by simp) (by simp) (fun i hi=>by simp[Array.getD_eq_getD_getElem?,hi]) (by simp)
 unfold Region.linearise
 rw[h1];simpa using h2
def aT(ops:Array Oper)(i:Nat):Option Tmp:=(ops[i]?).bind (·.dst)
def jO(ops:Array Oper)(base:Env):List (Nat×Value)→Env
 | []=>base
 | (i,v)::r=>upd (aT ops i) v (jO ops base r)
def bA:Nat→List Nat→Bool
 |_,[]=>false
 |i,x::l=>Nat.beq i x||bA i l
theorem aL:∀ {l:List Nat},bA i l=true↔i∈l
 | []=>by simp[bA]
 |x::l=>by
  simp only[bA,Bool.or_eq_true,List.mem_cons,aL (l:=l),Nat.beq_eq]
def cE(ops:Array Oper)(base:Env)(j:Nat):List (Nat×Value)→Env
 | []=>base.filter fun x=> !((List.range ops.size).any fun i=>aT ops i==some x.1&& !bA j (bG ops i))
 | (i,v)::r=>bif bA i (bG ops j) then upd (aT ops i) v (cE ops base j r) else cE ops base j r
def au:List (Nat×Value)→List Nat
 | []=>[]
 | (i,_)::r=>i::au r
theorem aR:∀ {l:List (Nat×Value)},i∈au l↔∃v,(i,v)∈l
 | []=>by simp[au]
 | (j,w)::r=>by
  simp only[au,List.mem_cons,aR (l:=r),Prod.mk.injEq]
  constructor
  ·rintro(rfl| ⟨v,hv⟩)
   ·exact⟨w,.inl ⟨rfl,rfl⟩⟩
   exact⟨v,.inr hv⟩
  rintro⟨v,⟨rfl,_⟩|hv⟩
  ·exact .inl rfl
  exact .inr ⟨v,hv⟩
def fY(ops:Array Oper):Bool:=
 (List.range ops.size).all fun i=>(List.range ops.size).all fun j=>Nat.beq i j||(match aT ops i,aT ops j with|some a,some b=> !Nat.beq a b|_,_=>true)
section any
variable {P:Program} {C:Class} {fn:FuncId} {aD:Option Nat} {Q:Post} {s:St} {n:Nat} {D:List Deferred} {ops:Array Oper} {base:Env}
def fp(C:Class)(fn:FuncId)(aD:Option Nat)(ops:Array Oper)(n:Nat)(D:List Deferred)(i:Nat)(v:Value)(e:Env)(s:St):Prop:=
 ∀s',Ext s s'→∀rest todo Q,ai C fn aD ops todo Q (A n (upd (aT ops i) v (e++rest)) D) s'→ai C fn aD ops (i::todo) Q (A n (e++rest) D) s'
structure Fits(ops:Array Oper)(base:Env)(Pl:List (Nat×Value))(X:List Nat)(env:Env):Prop where
 done:∀i v,(i,v)∈Pl→i∈X→∀d,aT ops i=some d→get env d=v
 old:∀t,(∀i∈X,aT ops i≠some t)→get env t=get base t
 cl:∀i∈X,i <ops.size∧∀j∈bG ops i,j∈X
def ux(C:Class)(fn:FuncId)(aD:Option Nat)(ops:Array Oper)(n:Nat)(D:List Deferred)(base:Env)(Pl:List (Nat×Value))(Sl:List (Nat×Value))(Q:Post)(s:St):Prop:=
 (∀i v,(i,v)∈Sl→fp C fn aD ops n D i v (cE ops base i Pl) s)→∀X l env,(∀i∈X,i∈au Pl)→(∀i v,(i,v)∈Pl→i∉X→(i,v)∈Sl)→Lin ops X l→Fits ops base Pl X env→
  ai C fn aD ops l Q (A n env D) s
def fZ(l k:List Nat):Bool:=l.all fun j=>bA j k
theorem bR{l k:List Nat}:fZ l k=true↔∀j∈l,j∈k:=by
 simp only[fZ,List.all_eq_true,aL]
theorem xT(h:fY ops=true)(hi:i <ops.size)(hj:j <ops.size)(dQ:i≠j){a b:Tmp}(ha:aT ops i=some a)(hb:aT ops j=some b):a≠b:=by
 have h1:=(List.all_eq_true.1 h) i (List.mem_range.2 hi)
 have h2:=(List.all_eq_true.1 h1) j (List.mem_range.2 hj)
 rw[ha,hb] at h2
 have:Nat.beq i j=false:=by
  cases hb:Nat.beq i j with
  |false=>rfl
  |true=>exact absurd (Nat.eq_of_beq_eq_true hb) dQ
 rw[this] at h2
 intro e;subst e
 simp at h2
theorem AW(h:aT ops i=some d):i <ops.size:=by
 apply Classical.byContradiction
 intro hc
 simp[aT,Array.getElem?_eq_none (show ops.size≤i by omega)] at h
theorem xD(hf:Fits ops base Pl X env)(j0:Nat)(hds:∀j∈bG ops j0,j∈X)(hj0:j0∉X):∃rest,A n env D=A n (cE ops base j0 Pl++rest) D:=by
 have key:∀Pl',(∀x∈Pl',x∈Pl)→∀t,((cE ops base j0 Pl').any fun x=>x.1==t)=true→get (cE ops base j0 Pl') t=get env t:=by
  intro Pl'
  induction Pl' with
  |nil=>
   intro _ t ht
   simp only[cE] at ht ⊢
   obtain⟨x,hx,hk⟩:=List.any_eq_true.1 ht
   have hk:x.1=t:=by simpa using hk
   rw[List.mem_filter] at hx
   have JQ:∀i,i <ops.size→aT ops i=some t→bA j0 (bG ops i)=true:=by
    intro i hi hd
    have h2:=hx.2
    rw[Bool.not_eq_true'] at h2
    have h3:=(List.any_eq_false.1 h2) i (List.mem_range.2 hi)
    rw[hd,hk] at h3
    simpa using h3
   rw[hf.old t fun i hi hd=>hj0 ((hf.cl i hi).2 j0 (aL.1 (JQ i (hf.cl i hi).1 hd)))]
   have xu:∀(b:Env) (p:Nat×Value→Bool),(∀v,p (t,v)=true)→get (b.filter p) t=get b t:=by
    intro b p hp
    induction b with
    |nil=>rfl
    |cons y b ih=>
     rcases y with ⟨k,v⟩
     by_cases e:k=t
     ·subst e;simp[List.filter_cons,hp,cN]
     simp only[List.filter_cons]
     split
     ·simp only[cN,e,if_false,ih]
     simp only[cN,e,if_false,ih]
   refine xu base _ fun v=>?_
   simp only[Bool.not_eq_true',List.any_eq_false,List.mem_range]
   intro i hi
   have:=JQ i hi
   simp only[Bool.and_eq_true,beq_iff_eq,Bool.not_eq_true',not_and,Bool.not_eq_false]
   exact this
  |cons x Pl' ih=>
   intro fT t ht
   rcases x with ⟨i,v⟩
   simp only[cE] at ht ⊢
   cases hm:bA i (bG ops j0) with
   |false=>rw[hm] at ht;simp only[cond_false] at ht ⊢;exact ih (fun x hx=>fT x (by simp[hx])) t ht
   |true=>
    rw[hm] at ht
    simp only[cond_true] at ht ⊢
    cases hd:aT ops i with
    |none=>rw[hd] at ht;simp only[upd] at ht ⊢;exact ih (fun x hx=>fT x (by simp[hx])) t ht
    |some d=>
     rw[hd] at ht
     simp only[upd] at ht ⊢
     rw[cN]
     by_cases e:d=t
     ·subst e
      rw[if_pos rfl]
      exact(hf.done i v (fT _ (by simp)) (hds i (aL.1 hm)) d hd).symm
     rw[if_neg e]
     refine ih (fun x hx=>fT x (by simp[hx])) t ?_
     simpa [e] using ht
 refine⟨env,?_⟩
 simp only[A,Act.mk.injEq,and_true]
 congr 1
 funext i
 rw[get_append]
 split
 ·rename_i ha
  exact(key Pl (fun _ h=>h) _ ha).symm
 rfl
theorem uh(ni:fY ops=true)(hf:Fits ops base Pl X env){v:Value}(hi:i <ops.size)(hx:i∉X)(hdp:∀j∈bG ops i,j∈X)(hv:∀w,(i,w)∈Pl→w=v):
 Fits ops base Pl (i::X) (upd (aT ops i) v env):=by
 refine⟨fun j w hj hjx d hd=>?_,fun t ht=>?_,fun j hj=>?_⟩
 ·rcases List.mem_cons.1 hjx with rfl|hjx
  ·rw[hd];simp only[upd,cN,if_true];exact(hv w hj).symm
  cases hdi:aT ops i with
  |none=>simp only[upd];exact hf.done j w hj hjx d hd
  |some d'=>
   have dQ:d'≠d:=xT ni hi (AW hd) (by intro e;subst e;exact hx hjx) hdi hd
   simp only[upd,cN,if_neg dQ]
   exact hf.done j w hj hjx d hd
 ·cases hdi:aT ops i with
  |none=>simp only[upd];exact hf.old t fun j hj=>ht j (List.mem_cons_of_mem _ hj)
  |some d'=>
   have dQ:d'≠t:=by intro e;subst e;exact ht i List.mem_cons_self hdi
   simp only[upd,cN,if_neg dQ]
   exact hf.old t fun j hj=>ht j (List.mem_cons_of_mem _ hj)
 rcases List.mem_cons.1 hj with rfl|hj
 ·exact⟨hi,fun k hk=>List.mem_cons_of_mem _ (hdp k hk)⟩
 exact⟨(hf.cl j hj).1,fun k hk=>List.mem_cons_of_mem _ ((hf.cl j hj).2 k hk)⟩
theorem Eo(hf:Fits ops base Pl X env){v:Value}(hx:i∉X):Fits ops base ((i,v)::Pl) X env:=
 ⟨fun j w hj hjx d hd=>by
  rcases List.mem_cons.1 hj with hj|hj
  ·cases hj;exact absurd hjx hx
  exact hf.done j w hj hjx d hd,hf.old,hf.cl⟩
theorem EP{lJ:Env}(h:A n env D=A n lJ D)(d:Option Tmp)(v:Value):A n (upd d v env) D=A n (upd d v lJ) D:=by
 rw[←bu,←bu,h]
theorem da{v:Value}(h:i∉bG ops j):cE ops base j ((i,v)::Pl)=cE ops base j Pl:=by
 simp only[cE]
 cases hm:bA i (bG ops j) with
 |false=>rfl
 |true=>exact absurd (aL.1 hm) h
theorem fp.ext{v:Value}(h:fp C fn aD ops n D i v e s)(he:Ext s s'):fp C fn aD ops n D i v e s':=
 fun s'' h2=>h s'' (he.trans h2)
def pQ(ops:Array Oper)(ks:List Nat):Bool:=ks.all fun i=>fZ (bG ops i) ks
def nodupB:List Nat→Bool
 | []=>true
 |i::l=> !bA i l&&nodupB l
theorem Jv{Sl:List (Nat×Value)}(i:Nat){v:Value}(hn:bA i (au Pl)=false)(hk:fZ (bG ops i) (au Pl)=true)(ky:pQ ops (au Pl)=true)(hs:fZ (au Sl) (au Pl)=true)
 (cg:fp C fn aD ops n D i v (cE ops base i Pl) s)(h:ux C fn aD ops n D base ((i,v)::Pl) ((i,v)::Sl) Q s):ux C fn aD ops n D base Pl Sl Q s:=by
 have rK:i∉au Pl:=fun hm=>by rw[aL.2 hm] at hn;cases hn
 intro hSl X l env hX hl pW hf
 have CX:i∉X:=fun hm=>rK (hX i hm)
 have O3:∀j,j∈au Pl→i∉bG ops j:=by
  intro j hj hm
  have:=(List.all_eq_true.1 ky) j hj
  exact rK (bR.1 this i hm)
 refine h (fun j w hj=>?_) X l env (fun j hj=>List.mem_cons_of_mem _ (hX j hj)) (fun j w hj hjx=>?_) pW (Eo hf CX)
 ·rcases List.mem_cons.1 hj with hj|hj
  ·cases hj
   rw[da (fun hm=>rK (bR.1 hk i hm))];exact cg
  rw[da (O3 j (bR.1 hs j (aR.2 ⟨w,hj⟩)))];exact hSl j w hj
 rcases List.mem_cons.1 hj with hj|hj
 ·cases hj;simp
 exact List.mem_cons_of_mem _ (hl j w hj hjx)
def pending(ops:Array Oper)(i:Nat)(Sl:List (Nat×Value)):List (Nat×Value):=Sl.filter fun x=> !bA x.1 (bG ops i)
theorem alr(hC:∀main T,C main T→Closed P main T){Sl:List (Nat×Value)}(ni:fY ops=true)(mJ:nodupB (au Pl)=true)(dk:fZ (List.range ops.size) (au Pl)=true)(cO:fZ (au Pl) (List.range ops.size)=true)(h:Q .normal (A n (jO ops base Pl) D) s):ux C fn aD ops n D base Pl Sl Q s:=by
 intro hSl X l
 have Ia:∀(l:List (Nat×Value)),nodupB (au l)=true→∀j v w,(j,v)∈l→(j,w)∈l→w=v:=by
  intro l
  induction l with
  |nil=>intro _ j v w h;cases h
  |cons x l ih=>
   rcases x with ⟨k,u⟩
   intro hb j v w h1 h2
   simp only[au,nodupB,Bool.and_eq_true,Bool.not_eq_true'] at hb
   have hk:k∉au l:=fun hm=>by rw[aL.2 hm] at hb;cases hb.1
   rcases List.mem_cons.1 h1 with h1|h1<;>rcases List.mem_cons.1 h2 with h2|h2
   ·cases h1;cases h2;rfl
   ·cases h1;exact absurd (aR.2 ⟨_,h2⟩) hk
   ·cases h2;exact absurd (aR.2 ⟨_,h1⟩) hk
   exact ih hb.2 j v w h1 h2
 have KJ:∀(l:List (Nat×Value)),(∀j∈au l,j <ops.size)→nodupB (au l)=true→(∀i v,(i,v)∈l→∀d,aT ops i=some d→get (jO ops base l) d=v)∧(∀t,(∀i∈au l,aT ops i≠some t)→get (jO ops base l) t=get base t):=by
  intro l
  induction l with
  |nil=>intro _ _;exact⟨fun _ _ h=>((by cases h)),fun _ _=>rfl⟩
  |cons x l ih=>
   rcases x with ⟨k,u⟩
   intro cO hb
   simp only[au,nodupB,Bool.and_eq_true,Bool.not_eq_true'] at hb
   have hk:k∉au l:=fun hm=>by rw[aL.2 hm] at hb;cases hb.1
   obtain⟨i1,i2⟩:=ih (fun j hj=>cO j (by simp[au,hj])) hb.2
   have hk1:k <ops.size:=cO k (by simp[au])
   refine⟨fun i v hi d hd=>?_,fun t ht=>?_⟩
   ·simp only[jO]
    rcases List.mem_cons.1 hi with hi|hi
    ·cases hi;rw[hd];simp only[upd,cN,if_true]
    have dQ:k≠i:=fun e=>hk (e▸aR.2 ⟨_,hi⟩)
    cases hdk:aT ops k with
    |none=>simp only[upd];exact i1 i v hi d hd
    |some d'=>simp only[upd,cN,if_neg (xT ni hk1 (AW hd) dQ hdk hd)];exact i1 i v hi d hd
   simp only[jO]
   cases hdk:aT ops k with
   |none=>simp only[upd];exact i2 t fun i hi=>ht i (by simp[au,hi])
   |some d'=>
    have dQ:d'≠t:=fun e=>ht k (by simp[au]) (by rw[hdk,e])
    simp only[upd,cN,if_neg dQ];exact i2 t fun i hi=>ht i (by simp[au,hi])
 obtain⟨a1,a2⟩:=KJ Pl (fun j hj=>List.mem_range.1 (bR.1 cO j hj)) mJ
 induction l generalizing X with
 |nil=>
  intro env hX hl pW hf
  refine uX hC ?_
  have:A n env D=A n (jO ops base Pl) D:=by
   simp only[A,Act.mk.injEq,and_true]
   congr 1
   funext i
   by_cases he:∃j,j <ops.size∧aT ops j=some i.val
   ·obtain⟨j,hj,hd⟩:=he
    obtain⟨v,hv⟩:=aR.1 (bR.1 dk j (List.mem_range.2 hj))
    rw[hf.done j v hv (pW j hj) _ hd,a1 j v hv _ hd]
   rw[hf.old _ (fun j hj hd=>he ⟨j,(hf.cl j hj).1,hd⟩),a2 _ (fun j hj hd=>he ⟨j,List.mem_range.1 (bR.1 cO j hj),hd⟩)]
  rw[this];exact h
 |cons j l ih=>
  intro env hX hl pW hf
  obtain⟨h1,h2,h3,h4⟩:=pW
  obtain⟨w,hw⟩:=aR.1 (bR.1 dk j (List.mem_range.2 h1))
  obtain⟨rest,hr⟩:=xD (n:=n) (D:=D) hf j h3 h2
  rw[hr]
  refine hSl j w (hl j w hw h2) s (Ext.refl s) rest l Q ?_
  rw[←EP hr]
  refine ih (j::X) _ (fun k hk=>?_) (fun k u hk CW=>hl k u hk (fun h=>CW (List.mem_cons_of_mem _ h))) h4 (uh ni hf h1 h2 h3 (fun u hu=>Ia Pl mJ j w u hw hu))
  rcases List.mem_cons.1 hk with rfl|hk
  ·exact aR.2 ⟨w,hw⟩
  exact hX k hk
def Ru:List (Nat×Value)→Nat→Option Value
 | [],_=>none
 | (i,v)::r,j=>bif Nat.beq i j then some v else Ru r j
theorem adu(hC:∀main T,C main T→Closed P main T)(hm:P.follows .mixedOrders=true)(hd:AX ops=true)(h:ux C fn aD ops n D env [] [] Q s):Wp C fn aD (.region id ops true) Q (A n env D) s:=by
 refine wp_region_draw (P:=P) hC fun t=>?_
 rw[hm]
 exact h (fun _ _ h=>((by cases h))) [] _ env (fun _ h=>((by cases h))) (fun _ _ h=>((by cases h))) (BP hd t) ⟨fun _ _ h=>((by cases h)),fun _ _=>rfl,fun _ h=>((by cases h))⟩
end any
def oZ(place:Nat→Option (Nat×Nat)):List Value→List (Nat×List Value)→Option (List Value)
 |cs,[]=>some cs
 |cs,(i,vs)::r=>match place i with
  |some (off,size)=>bif Nat.beq vs.length size&&Nat.ble (off+vs.length) cs.length then oZ place (dK cs off vs) r else none
  |none=>none
theorem M8(off:Nat):∀(vs:List Value) (k:Nat) (cs:Array Value),off+k+vs.length≤cs.size→
 (vs.zipIdx k).foldl (fun(cs:Array Value) (x:Value×Nat)=>cs.setIfInBounds (off+x.2) x.1) cs=⟨dK cs.toList (off+k) vs⟩
 | [],k,cs,_=>by simp[lQ]
 |v::vs,k,cs,h=>by
  simp only[List.length_cons] at h
  simp only[List.zipIdx_cons,List.foldl_cons]
  rw[M8 off vs (k+1) _ (by simp;omega),Dz _ _ _ _ (by simp;omega)]
  simp[Nat.add_assoc]
theorem fill_eq(place:Nat→Option (Nat×Nat)):∀(parts:List (Nat×Value)) (cs l:List Value),oZ place cs (parts.map fun x=>(x.1,x.2.cells.toList))=some l→Instr.fill place ⟨cs⟩ parts=some ⟨l⟩
 | [],cs,l,h=>by simp[oZ] at h;subst h;rfl
 | (i,v)::r,cs,l,h=>by
  simp only[List.map_cons,oZ] at h
  simp only[Instr.fill]
  cases hp:place i with
  |none=>rw[hp] at h;cases h
  |some x=>
   rcases x with ⟨off,size⟩
   rw[hp] at h
   simp only at h ⊢
   cases hb:(Nat.beq v.cells.toList.length size&&Nat.ble (off+v.cells.toList.length) cs.length) with
   |false=>rw[hb] at h;cases h
   |true=>
    rw[hb] at h
    simp only[cond_true] at h
    rw[Bool.and_eq_true] at hb
    have h1:v.cells.size=size:=by simpa using Nat.eq_of_beq_eq_true hb.1
    have h2:off+v.cells.size≤cs.length:=by simpa using Nat.le_of_ble_eq_true hb.2
    rw[if_neg (by simp[h1];omega)]
    rw[show v.cells.zipIdx.foldl (fun(cs:Array Value) (x:Value×Nat)=>cs.setIfInBounds (off+x.2) x.1) (⟨cs⟩:Array Value)=⟨dK cs off v.cells.toList⟩ from by
     rw[←Array.foldl_toList,Array.toList_zipIdx]
     have:=M8 off v.cells.toList 0 ⟨cs⟩ (by simpa using h2)
     simpa using this]
    exact fill_eq place r _ l h
def Qj(n:Nat)(env:Env):List (Nat×Operand)→Option (List (Nat×Value))
 | []=>some []
 | (i,x)::l=>match bE n env x with
  |some v=>match Qj n env l with
   |some r=>some ((i,v)::r)
   |none=>none
  |none=>none
theorem akz:∀ {xs:List (Nat×Operand)} {l:List (Nat×Value)},Qj n env xs=some l→xs.map (fun x=>(x.1,ev n env x.2))=l
 | [],l,h=>by simpa [Qj] using h
 | (i,x)::xs,l,h=>by
  simp only[Qj] at h
  cases hx:bE n env x with
  |none=>rw[hx] at h;cases h
  |some v=>
   rw[hx] at h
   cases hr:Qj n env xs with
   |none=>rw[hr] at h;cases h
   |some r=>rw[hr] at h;simp only[Option.some.injEq] at h;subst h;simp[aH hx,akz hr]
def ep:Value→List Value
 | .agg ⟨l⟩=>l
 |v=>[v]
theorem mP(v:Value):ep v=v.cells.toList:=by cases v<;>rfl
def uV:List (Nat×Value)→List (Nat×List Value)
 | []=>[]
 | (i,v)::r=>(i,ep v)::uV r
theorem k8:∀(l:List (Nat×Value)),uV l=l.map fun x=>(x.1,x.2.cells.toList)
 | []=>rfl
 | (i,v)::r=>by simp[uV,mP,k8 r]
def de(z:List Value):Nat→List Value
 |0=>[]
 |n+1=>z++de z n
theorem jE(z:List Value):∀n,(de z n).length=n*z.length
 |0=>by simp[de]
 |n+1=>by simp[de,jE z n,Nat.add_mul,Nat.add_comm]
theorem GX(z:List Value)(hz:0 <z.length):∀n i,i <n*z.length→(de z n)[i]?=z[i % z.length]?
 |0,i,h=>by simp at h
 |n+1,i,h=>by
  simp only[de,List.getElem?_append]
  split
  ·rename_i hl;rw[Nat.mod_eq_of_lt hl]
  rename_i hl
  rw[GX z hz n (i-z.length) (by rw[Nat.add_mul,Nat.one_mul] at h;omega)]
  rw[show i % z.length=(i-z.length) % z.length from by rw[Nat.mod_eq_sub_mod (by omega)]]
theorem tB(z:List Value)(n:Nat):((Array.range (n*z.length)).map fun i=>(⟨z⟩:Array Value)[i % (⟨z⟩:Array Value).size]!)=⟨de z n⟩:=by
 apply Array.ext_getElem?
 intro i
 simp only[Array.getElem?_map,Array.getElem?_range]
 by_cases h:i <n*z.length
 ·have hz:0 <z.length:=by
   rcases Nat.eq_zero_or_pos z.length with h0|h0
   ·rw[h0] at h;simp at h
   exact h0
  have hm:i % z.length <z.length:=Nat.mod_lt _ hz
  simp only[h,if_true,Option.map_some]
  have:=GX z hz n i h
  simp only[List.size_toArray,List.getElem?_toArray]
  rw[this]
  simp[hm,getElem!_pos]
 simp only[h,if_false,Option.map_none]
 simp[jE,List.getElem?_eq_none (show (de z n).length≤i by rw[jE];omega)]
inductive EL(P:Program):List Field→List (Nat×Nat)→Prop
 |nil:EL P [] []
 |cons {f:Field} {d:TypeDesc} {sz bL:Nat} {z:List Value} {ag:Bool} {fs:List Field} {ps:List (Nat×Nat)} (h:TF P f.type d sz bL z ag) (t:EL P fs ps):EL P (f::fs) ((f.offset,sz)::ps)
theorem oE{Q:α→St→Prop}:∀ {fs:List Field} {ps:List (Nat×Nat)} (_:EL P fs ps) {k:List (Nat×Nat)→Sem α},
 bU P (fs.mapM (fun f=>do pure (f.offset,←sizeOf f.type)) >>= k) s Q E=bU P (k ps) s Q E
 |_,_,.nil,k=>by simp only[List.mapM_nil,ah]
 |_,_,.cons h t,k=>by
  simp only[List.mapM_cons,ae,cy h,ah]
  exact oE t
section rules
variable {P:Program} {C:Class} {fn:FuncId} {aD:Option Nat} {Q:Post} {s:St} {n:Nat} {env:Env} {D:List Deferred}
variable {ops:Array Oper} {i:Nat} {rest:List Nat} {dst:Option Tmp} {ty:TypeId} {pos:String} {dt:Array Edge} {g:Option (Nat×Bool)}
variable {T:TypeId} {d:TypeDesc} {sz bL:Nat} {z:List Value} {ag:Bool}
theorem Mp(ps:Array (Nat×Operand)){l:List (Nat×Value)}(h:Qj n env ps.toList=some l):(ps.map fun x=>(x.1,ev n env x.2)).toList=l:=by
 rw[Array.toList_map];exact akz h
theorem Oh(hC:∀main T,C main T→Closed P main T){E:TypeId}{m:Nat}{ps:Array (Nat×Operand)}{pv:List (Nat×Value)}{d':TypeDesc}(ho:ops[i]?=some ⟨dst,.buildSlice T m ps,ty,pos,dt,g⟩) (hw:aB ops n env g=true)
 (tf:TF P T (.slice E) sz bL z ag) (jI:TF P E d' iS wC z' xW) (hz:Nat.beq z'.length iS=true) (hp:Qj n env ps.toList=some pv) (hm:Nat.ble (m*iS) 16777216=true) (hf:oZ (fun i=>some (i*iS,iS)) (de z' m) (uV pv)=some l)
 (h:∀b,¬s.knows b→ai C fn aD ops rest Q (A n (upd dst (.slice (some ⟨b,0,none⟩) m m) env) D) ⟨s.ro,(b,.cells ⟨l⟩ E)::s.rw⟩):ai C fn aD ops (i::rest) Q (A n env D) s:=by
 refine cd hC ho hw (by simp) ?_
 have hle:¬m*iS>2^24:=by have:=Nat.le_of_ble_eq_true hm;omega
 have FT:z'.length=iS:=Nat.eq_of_beq_eq_true hz
 rw[k8] at hf
 have h1:=fill_eq _ _ _ _ hf
 have h2:=Mp ps hp
 simp only[execOp,Instr.buildSlice,ae,bk tf,cy jI,hle,if_false]
 by_cases h0:m*iS=0
 ·rw[if_pos h0]
  have Kw:((Array.range (m*iS)).map fun i=>(#[]:Array Value)[i % (#[]:Array Value).size]!)=⟨de z' m⟩:=by
   rw[h0]
   have:de z' m=[]:=List.eq_nil_of_length_eq_zero (by rw[jE,FT,h0])
   rw[this];simp
  simp only[ae,ah]
  rw[Kw,h2,h1]
  simp only[ae,iA,ah]
  intro b hb
  have:=h b hb
  rw[←bu] at this
  exact this
 rw[if_neg h0]
 have Kw:((Array.range (m*iS)).map fun i=>(⟨z'⟩:Array Value)[i % (⟨z'⟩:Array Value).size]!)=⟨de z' m⟩:=by rw[←FT];exact tB z' m
 simp only[ae,j5 jI,ah,dX jI,Kw,h2,h1,iA]
 intro b hb
 have:=h b hb
 rw[←bu] at this
 exact this
end rules
def Sl(s:St)(v:Value)(sz:Nat)(enc:α→List Value)(ps:List α):Prop:=
 ∃a b o cap,v= .slice a ps.length cap∧(∀k,k <ps.length→a=some ⟨b,o,none⟩)∧∀i p,ps[i]?=some p→cK s b (o+i*sz) sz (enc p)
theorem Sl.nil(s:St)(sz:Nat)(enc:α→List Value)(a:Option Addr)(cap:Nat):Sl s (.slice a 0 cap) sz enc []:=
 ⟨a,0,0,cap,rfl,fun k h=>absurd h (Nat.not_lt_zero k),fun i p hp=>by simp at hp⟩
theorem cK.cell{m:Nat}(h:cK s b o m vs)(j:Nat)(v:Value)(hj:vs[j]?=some v):Reads s b (o+j) v:=by
 obtain⟨l,t,fz,h1,h2⟩:=h
 exact⟨l,t,fz,h1,by rw[s9];exact(sub_eq _ _ _ _ h2).2 j v hj⟩
theorem cK.len{m:Nat}(h:cK s b o m vs):vs.length=m:=by
 obtain⟨l,t,fz,h1,h2⟩:=h
 exact(sub_eq _ _ _ _ h2).1
section sem
variable {P:Program} {α:Type} {s:St} {Q:α→St→Prop} {E:Halt→St→Prop}
theorem U6(l:List Value):∀(i:Nat) (acc:Array Value) {k:Array Value→Sem α},(∀(j:Nat) (v:Value),l[j]?=some v→Reads s b (o+i+j) v)→bU P (k (acc++l.toArray)) s Q E→
 bU P (loadCellsFrom ⟨b,o,none⟩ i l.length acc >>= k) s Q E:=by
 induction l with
 |nil=>intro i acc k _ hk;simpa [loadCellsFrom,ah] using hk
 |cons v l ih=>
  intro i acc k h2 hk
  simp only[List.length_cons,loadCellsFrom,ae,dV]
  refine wN (h2 0 v rfl)<|ih (i+1) (acc.push v) (fun j x hx=>?_) (by simpa using hk)
  have:=h2 (j+1) x (by simpa using hx)
  rw[show o+(i+1)+j=o+i+(j+1) from by omega];exact this
theorem U5{m:Nat}(hm:l.length=m)(h:∀(j:Nat) (v:Value),l[j]?=some v→Reads s b (o+j) v) {k:Array Value→Sem α} (hk:bU P (k ⟨l⟩) s Q E):bU P (loadCells ⟨b,o,none⟩ m >>= k) s Q E:=by
 subst hm
 exact U6 l 0 #[] (by simpa using h) (by simpa using hk)
end sem
theorem Ts{enc:α→List Value}:∀(ps:List α),(∀p∈ps,(enc p).length=sz)→∀(j:Nat) (v:Value),((ps.map enc).flatten)[j]?=some v→∃i p r,ps[i]?=some p∧j=i*sz+r∧(enc p)[r]?=some v
 | [],_,j,v,h=>by simp at h
 |p::ps,hl,j,v,h=>by
  simp only[List.map_cons,List.flatten_cons,List.getElem?_append] at h
  have hp:=hl p (by simp)
  split at h
  ·exact⟨0,p,j,rfl,by simp,h⟩
  rename_i hj
  obtain⟨i,q,r,h1,h2,h3⟩:=Ts ps (fun x hx=>hl x (by simp[hx])) _ v h
  refine⟨i+1,q,r,by simpa using h1,?_,h3⟩
  rw[Nat.add_mul,Nat.one_mul];omega
theorem kT{enc:α→List Value}:∀(ps:List α),(∀p∈ps,(enc p).length=sz)→((ps.map enc).flatten).length=ps.length*sz
 | [],_=>by simp
 |p::ps,hl=>by
  have:=kT ps (fun x hx=>hl x (by simp[hx]))
  simp only[List.map_cons,List.flatten_cons,List.length_append,this,hl p (by simp),List.length_cons,Nat.add_mul,Nat.one_mul];omega
theorem Sl.flat{enc:α→List Value}{ps:List α}(h:∀(i:Nat) (p:α),ps[i]?=some p→cK s b (o+i*sz) sz (enc p)):
 (∀p∈ps,(enc p).length=sz)∧∀(j:Nat) (v:Value),((ps.map enc).flatten)[j]?=some v→Reads s b (o+j) v:=by
 have hl:∀p∈ps,(enc p).length=sz:=by
  intro p hp
  obtain⟨i,hi⟩:=List.mem_iff_getElem?.1 hp
  exact(h i p hi).len
 refine⟨hl,fun j v hv=>?_⟩
 obtain⟨i,p,r,h1,rfl,h3⟩:=Ts ps hl j v hv
 have:=(h i p h1).cell r v h3
 rw[show o+(i*sz+r)=o+i*sz+r from by omega];exact this
def aA(v:Value)(sz:Nat)(T:TypeId)(enc:α→List Value)(ps:List α)(L:List (Nat×Obj)):Prop:=
 (v= .slice none 0 0∧ps=[]∧L=[])∨
 ∃b l cap,v= .slice (some ⟨b,0,none⟩) ps.length cap∧L=[(b,.cells ⟨l⟩ T (0,0))]∧l.length=cap*sz∧ps.length≤cap∧(∀p∈ps,(enc p).length=sz)∧l.take (ps.length*sz)=(ps.map enc).flatten
theorem aA.nil(sz:Nat)(T:TypeId)(enc:α→List Value):aA (.slice none 0 0) sz T enc [] []:= .inl ⟨rfl,rfl,rfl⟩
theorem jB{m:Nat}(h:o+m≤l.length):sub l o m=some ((l.drop o).take m):=by
 have ht:∀(m:Nat) (l:List Value),m≤l.length→kK l m=some (l.take m):=by
  intro m
  induction m with
  |zero=>intro l _;cases l<;>simp[kK]
  |succ m ih=>
   intro l hl
   cases l with
   |nil=>simp at hl
   |cons x l=>simp only[kK,ih l (by simpa using hl),List.take_succ_cons]
 induction o generalizing l with
 |zero=>have:=ht m l (by omega);cases l<;>simpa [sub] using this
 |succ o ih=>
  cases l with
  |nil=>simp at h
  |cons x l=>simp only[sub,List.drop_succ_cons];exact ih (by simp at h;omega)
theorem En{enc:α→List Value}:∀(ps:List α),(∀p∈ps,(enc p).length=sz)→∀(i:Nat) (p:α),ps[i]?=some p→(((ps.map enc).flatten).drop (i*sz)).take sz=enc p
 | [],_,i,p,h=>by simp at h
 |q::ps,hl,0,p,h=>by
  simp at h;subst h
  have:=hl q (by simp)
  simp[←this]
 |q::ps,hl,i+1,p,h=>by
  have hq:=hl q (by simp)
  simp only[List.map_cons,List.flatten_cons]
  rw[show (i+1)*sz=(enc q).length+i*sz from by rw[hq,Nat.add_mul,Nat.one_mul];omega,←List.drop_drop,List.drop_left]
  exact En ps (fun x hx=>hl x (by simp[hx])) i p (by simpa using h)
theorem aA.sl{v:Value}{T:TypeId}{enc:α→List Value}{ps:List α}{L:List (Nat×Obj)}(h:aA v sz T enc ps L)(hs:∀x∈L,s.has x.1 x.2):Sl s v sz enc ps:=by
 rcases h with ⟨rfl,rfl,rfl⟩| ⟨b,l,cap,rfl,rfl,h1,h2,h3,h4⟩
 ·exact Sl.nil s sz enc none 0
 refine⟨_,b,0,cap,rfl,fun _ _=>rfl,fun i p hp=>⟨l,T,(0,0),hs (b,.cells ⟨l⟩ T (0,0)) (by simp),?_⟩⟩
 have hi:i <ps.length:=by
  rcases Nat.lt_or_ge i ps.length with h|h
  ·exact h
  rw[List.getElem?_eq_none h] at hp;cases hp
 have hb:i*sz+sz≤ps.length*sz:=by
  have:=Nat.mul_le_mul_right sz hi
  rw[Nat.succ_mul] at this;exact this
 have fE:ps.length*sz≤cap*sz:=Nat.mul_le_mul_right _ h2
 rw[Nat.zero_add,jB (by omega)]
 have h5:=En ps h3 i p hp
 rw[←h4,List.drop_take,List.take_take] at h5
 rw[←h5,Nat.min_eq_left (by omega)]
def xd(fy bL:Nat):Prop:=fy≤1048576∧bL≤65536
theorem M5(fy:Nat):∀(r c:Nat),c≤2*fy+768→Builtin.growBy fy r c≤2*fy+768
 |0,c,h=>h
 |r+1,c,h=>by
  simp only[Builtin.growBy]
  split
  ·exact h
  exact M5 fy r _ (by omega)
theorem HK{fy:Nat}(h:cap <fy):Builtin.nextslicecap fy cap≤2*fy+768:=by
 simp only[Builtin.nextslicecap]
 split
 ·omega
 split
 ·omega
 exact M5 fy 4 cap (by omega)
theorem si:∀(l:List Value) (o:Nat) (vs:List Value),o+vs.length≤l.length→dK l o vs=l.take o++vs++l.drop (o+vs.length)
 | [],o,vs,h=>by
  simp only[List.length_nil] at h
  have h0:o=0:=by omega
  have h1:vs=[]:=List.eq_nil_of_length_eq_zero (by omega)
  subst h0;subst h1;rfl
 |x::l,0,[],_=>by simp[dK]
 |x::l,o+1,[],_=>by simp[dK]
 |x::l,0,v::vs,h=>by
  have:=si l 0 vs (by simp only[List.length_cons] at h;omega)
  simp[dK,this]
 |x::l,o+1,v::vs,h=>by
  have:=si l o (v::vs) (by simp only[List.length_cons] at h ⊢;omega)
  simp only[dK,this,List.take_succ_cons,List.cons_append]
  rw[show o+1+(v::vs).length=(o+(v::vs).length)+1 from by omega,List.drop_succ_cons]
theorem mh{Q:β→St→Prop}{ti:TypeInfo}(h:P.info? t=some ti){k:TypeInfo→Sem β}:bU P (typeInfo t >>= k) s Q E=bU P (k ti) s Q E:=by
 simp only[typeInfo,ae,fu,h,ah]
theorem aeU{Q:β→St→Prop}{q:Question}{k:Nat→Sem β}(hq:q.forced=false)(h:∀n,bU P (k (q.cut n)) s Q E):bU P (choose q >>= k) s Q E:=by
 show (if q.forced=true then _ else _)
 rw[if_neg (by rw[hq];simp)]
 exact h
theorem LI{Q:β→St→Prop}{q:Question}{k:Nat→Sem β}(hq:q.forced=false):bU P (choose q >>= k) s Q E=∀n,bU P (k (q.cut n)) s Q E:=by
 show (if q.forced=true then _ else _)=_
 rw[if_neg (by rw[hq];simp)]
 rfl
theorem qy{Q:β→St→Prop}{m:Nat}{k:Unit→Sem β}(h:bU P (k ()) s Q E):bU P (askRoom m >>= k) s Q E:=by
 unfold askRoom
 split
 ·exact⟨rfl,h⟩
 exact h
section rules
variable {P:Program} {C:Class} {fn:FuncId} {aD:Option Nat} {Q:Post} {s:St} {n:Nat} {env:Env} {D:List Deferred}
variable {ops:Array Oper} {i:Nat} {rest:List Nat} {dst:Option Tmp} {ty:TypeId} {pos:String} {dt:Array Edge} {g:Option (Nat×Bool)}
variable {T:TypeId} {d:TypeDesc} {sz bL:Nat} {z:List Value} {ag:Bool}
theorem uJ{Q:β→St→Prop}{v:Value}{enc:α→List Value}{ps:List α}(h:Sl s v sz enc ps){k:Array Value→Sem β}(hk:bU P (k ⟨(ps.map enc).flatten⟩) s Q E):bU P (Builtin.firstCells sz ps.length v >>= k) s Q E:=by
 obtain⟨a,b,o,cap,rfl,ha,hr⟩:=h
 obtain⟨hl,hf⟩:=Sl.flat hr
 cases ps with
 |nil=>
  cases a with
  |none=>simpa [Builtin.firstCells,ah] using hk
  |some a=>
   simp only[Builtin.firstCells,List.length_nil,Nat.zero_mul,loadCells,loadCellsFrom,ah]
   simpa using hk
 |cons p ps=>
  have:=ha 0 (by simp)
  subst this
  simp only[Builtin.firstCells]
  exact U5 (by rw[kT _ hl]) hf hk
theorem RU(hC:∀main T,C main T→Closed P main T){E:TypeId}{v w:Value}{enc:α→List Value}{ps qs:List α}{L pre:List (Nat×Obj)}{d':TypeDesc}{E2:TypeId}{sz2 Ct:Nat}{z2:List Value}{ag2:Bool}{U:TypeId}
 (ho:ops[i]?=some ⟨dst,.call ⟨.builtin .append,#[x,y],#[T,U]⟩,ty,pos,dt,g⟩) (hw:aB ops n env g=true) (tf:TF P T (.slice E) sz bL z ag) (Ug:TF P U (.slice E2) sz2 Ct z2 ag2) (jI:TF P E d' iS wC z' xW) (hz:z'.length=iS)
 (hx:bE n env x=some v) (hy:bE n env y=some w) (jm:aA v iS E enc ps L) (MQ:Sl s w iS enc qs) (hs:s.rw=pre++(L++R)) (hq:∀p∈qs,∀c∈enc p,single c=true) (hb:xd (ps.length+qs.length) wC)
 (h:∀v' L',aA v' iS E enc (ps++qs) L'→ai C fn aD ops rest Q (A n (upd dst v' env) D) ⟨s.ro,pre++(L'++R)⟩):ai C fn aD ops (i::rest) Q (A n env D) s:=by
 refine cd hC ho hw (by simp) ?_
 have WQ:∀s s':St,s.le s'→∀a,ai C fn aD ops rest Q a s→ai C fn aD ops rest Q a s':=
  fun s s' hl a ho main T hT b k cs h1 h2 h3 h4=>(hC main T hT).mono _ _ _ hl (ho main T hT b k cs h1 h2 h3 h4)
 obtain⟨hql,_⟩:=(show (∀p∈qs,(enc p).length=iS)∧True from by
  obtain⟨a,b,o,cap,rfl,ha,hr⟩:=MQ
  exact⟨(Sl.flat hr).1,trivial⟩)
 have ud:((qs.map enc).flatten).length=qs.length*iS:=kT qs hql
 have MX:∀anl,anl <ps.length+qs.length→¬(Builtin.nextslicecap (ps.length+qs.length) anl*wC>2^48):=by
  intro anl cO
  have h1:=HK cO
  obtain⟨h2,h3⟩:=hb
  have h4:Builtin.nextslicecap (ps.length+qs.length) anl≤2097920:=by omega
  have h5:=Nat.mul_le_mul h4 h3
  have:(2097920*65536:Nat)≤2^48:=by decide
  omega
 have hlen:∀w',Sl s w' iS enc qs→∃a cap,w'= .slice a qs.length cap:=by
  rintro w' ⟨a,b,o,cap,rfl,_,_⟩;exact⟨a,cap,rfl⟩
 obtain⟨wa,bf3,hwe⟩:=hlen w MQ
 simp only[execOp,resolve,invoke,builtin,Builtin.append_,List.map_toArray,List.map_cons,List.map_nil,aH hx,aH hy,ah,ae,List.getElem?_toArray,List.getElem?_cons_zero,List.getElem?_cons_succ,bk tf]
 have hv:∃a cap,v= .slice a ps.length cap:=by
  rcases jm with ⟨rfl,rfl,_⟩| ⟨b,l,cap,rfl,_⟩
  ·exact⟨_,_,rfl⟩
  exact⟨_,_,rfl⟩
 obtain⟨va,wK,hve⟩:=hv
 have B2:∀ {β:Type} (k:Nat→Sem β) (Q:β→St→Prop) (E:Halt→St→Prop),bU P (Builtin.lenOf w >>= k) s Q E=bU P (k qs.length) s Q E:=by
  intro β k Q E;rw[hwe];rfl
 simp only[hve,ae,cy jI,bk Ug,ah,Bool.false_eq_true,if_false,Bool.not_false,if_true,B2]
 obtain⟨ti,dS,aUr,OP,_⟩:=jI.info
 by_cases gq:ps.length+qs.length≤wK
 ·rw[if_pos gq]
  simp only[ae]
  refine uJ MQ ?_
  rcases jm with ⟨hv0,rfl,rfl⟩| ⟨b,l,cap,hv1,rfl,h1,h2,h3,h4⟩
  ·rw[hv0] at hve
   cases hve
   have Ic:qs=[]:=List.eq_nil_of_length_eq_zero (by simp only[List.length_nil] at gq;omega)
   subst Ic
   simp only[ah]
   have:=h (.slice none 0 0) [] (aA.nil iS E enc)
   rw[←bu] at this
   rcases s with ⟨ro,Ki⟩
   simp only at hs
   subst hs
   exact this
  rw[hv1] at hve
  cases hve
  simp only[ae,dV,Nat.zero_add]
  have n8:ps.length*iS+((qs.map enc).flatten).length≤l.length:=by
   rw[ud,h1,←Nat.add_mul];exact Nat.mul_le_mul_right _ gq
  refine mX (L:=pre) (R:=R) ((qs.map enc).flatten) 0 l s (by rw[hs];rfl) (by omega) (fun c hc=>?_) ?_
  ·obtain⟨e,he,hce⟩:=List.mem_flatten.1 hc
   obtain⟨p,hp,rfl⟩:=List.mem_map.1 he
   exact hq p hp c hce
  have:=h (.slice (some ⟨b,0,none⟩) (ps++qs).length wK) [(b,.cells ⟨dK l (ps.length*iS) ((qs.map enc).flatten)⟩ E (0,0))]
   (.inr ⟨b,_,wK,rfl,rfl,by rw[lR,h1],by simpa using gq,fun p hp=>(List.mem_append.1 hp).elim (h3 p) (hql p),by
    rw[si _ _ _ n8,List.length_append,Nat.add_mul,List.append_assoc]
    rw[List.map_append,List.flatten_append,←h4]
    rw[show ps.length*iS+qs.length*iS=(l.take (ps.length*iS)).length+qs.length*iS from by rw[List.length_take];omega]
    rw[List.take_append,List.take_of_length_le (by omega)]
    congr 1
    rw[show (l.take (ps.length*iS)).length+qs.length*iS-(l.take (ps.length*iS)).length=((qs.map enc).flatten).length from by rw[ud];omega,List.take_left]⟩)
  rw[←bu] at this
  simp only[ah,Nat.add_zero]
  rw[List.length_append] at this
  exact this
 rw[if_neg gq]
 have cO:wK <ps.length+qs.length:=by omega
 have axI:¬(((ps.length+qs.length:Nat):Int)>IntKind.i64.max):=by
  have:IntKind.i64.max=9223372036854775807:=by decide
  obtain⟨h2,_⟩:=hb
  rw[this];omega
 have hc:=MX wK cO
 simp only[ae,mh dS,axI,false_and,if_false]
 rw[OP,if_neg hc]
 simp only[ae]
 rw[LI rfl]
 intro tp
 generalize oV:Question.cut (.appendCap (ps.length+qs.length) wK E) tp=gz
 have SW:ps.length+qs.length≤gz:=by rw[←oV];simp[Question.cut]
 simp only[ae]
 rw[mh dS]
 simp only[ae]
 refine qy ?_
 simp only[ae]
 have hold:Sl s (.slice va ps.length wK) iS enc ps:=by
  rw[←hve]
  refine jm.sl fun x hx=> .inr ?_
  rw[hs];simp[hx]
 refine uJ hold ?_
 simp only[ae]
 refine uJ MQ ?_
 simp only[ae,j5 jI,dX jI,Builtin.zeroCells]
 have Kw:((Array.range ((gz-(ps.length+qs.length))*(⟨z'⟩:Array Value).size)).map fun i=>(⟨z'⟩:Array Value)[i % (⟨z'⟩:Array Value).size]!)=⟨de z' (gz-(ps.length+qs.length))⟩:=tB z' _
 rw[Kw]
 simp only[iA,ah]
 intro b' mN
 have SE:∀p∈ps,(enc p).length=iS:=by
  rcases jm with ⟨_,rfl,_⟩| ⟨_,_,_,_,_,_,_,h3,_⟩
  ·intro p hp;cases hp
  exact h3
 have hol:=kT ps SE
 have aGK:aA (.slice (some ⟨b',0,none⟩) (ps++qs).length gz) iS E enc (ps++qs) [(b',.cells ⟨(ps.map enc).flatten++(qs.map enc).flatten++de z' (gz-(ps.length+qs.length))⟩ E (0,0))]:=
  .inr ⟨b',_,gz,rfl,rfl,by
   simp only[List.length_append,hol,ud,jE,hz,←Nat.add_mul]
   congr 1;omega,by simpa using SW,fun p hp=>(List.mem_append.1 hp).elim (SE p) (hql p),by
   rw[List.map_append,List.flatten_append,List.length_append,Nat.add_mul,←hol,←ud,←List.length_append,List.take_left]⟩
 have:=h _ _ aGK
 rw[←bu,List.length_append] at this
 have ayy:((⟨(ps.map enc).flatten⟩:Array Value)++⟨(qs.map enc).flatten⟩++⟨de z' (gz-(ps.length+qs.length))⟩)=⟨(ps.map enc).flatten++(qs.map enc).flatten++de z' (gz-(ps.length+qs.length))⟩:=by simp
 rw[ayy]
 refine WQ ⟨s.ro,pre++([(b',.cells ⟨(ps.map enc).flatten++(qs.map enc).flatten++de z' (gz-(ps.length+qs.length))⟩ E (0,0))]++R)⟩ _ ?_ _ ?_
 ·refine⟨L,?_,fun _ _ h=> .inl h⟩
  rw[hs]
  rw[List.append_assoc pre,List.append_assoc [_] R L]
  simp only[List.cons_append,List.nil_append]
  refine List.Perm.trans ?_ List.perm_middle.symm
  refine List.Perm.cons _<|List.Perm.append_left pre<|List.perm_append_comm
 simpa using this
end rules
section rules
variable {P:Program} {C:Class} {fn:FuncId} {aD:Option Nat} {Q:Post} {s:St} {n:Nat} {env:Env} {D:List Deferred}
variable {ops:Array Oper} {i:Nat} {rest:List Nat} {dst:Option Tmp} {ty:TypeId} {pos:String} {dt:Array Edge} {g:Option (Nat×Bool)}
variable {T:TypeId} {d:TypeDesc} {sz bL:Nat} {z:List Value} {ag:Bool}
def EqV(P:Program)(t:TypeId)(x y:Value)(r:Bool):Prop:=
 ∀(s:St) (k:Bool→Sem Next) (Q:Next→St→Prop) (E:Halt→St→Prop),bU P (Op.equal t x y >>= k) s Q E=bU P (k r) s Q E
def nv(P:Program)(t:TypeId):Prop:=P.eqGuardType P.depth t=false
theorem anZ(hC:∀main T,C main T→Closed P main T){T:TypeId}{m:List Value}(ho:ops[i]?=some ⟨dst,.binOp .eql T x y T',ty,pos,dt,g⟩) (hw:aB ops n env g=true)
 (hx:bE n env x=some (.agg ⟨l⟩)) (hy:bE n env y=some (.agg ⟨m⟩)) (hg:nv P T) (he:EqV P T (.agg ⟨l⟩) (.agg ⟨m⟩) r) (h:ai C fn aD ops rest Q (A n (upd dst (.bool r) env) D) s):ai C fn aD ops (i::rest) Q (A n env D) s:=by
 refine cd hC ho hw (by simp) ?_
 have hg':P.eqGuardType P.depth T=false:=hg
 simp only[execOp,aH hx,aH hy,eqGuard,Bool.not_true,Bool.false_eq_true,if_false,ae,fu,hg',Bool.not_false,if_true,ah,binOp]
 rw[he]
 rw[←bu] at h
 exact h
theorem agj(hC:∀main T,C main T→Closed P main T){T:TypeId}{m:List Value}(ho:ops[i]?=some ⟨dst,.binOp .neq T x y T',ty,pos,dt,g⟩) (hw:aB ops n env g=true)
 (hx:bE n env x=some (.agg ⟨l⟩)) (hy:bE n env y=some (.agg ⟨m⟩)) (hg:nv P T) (he:EqV P T (.agg ⟨l⟩) (.agg ⟨m⟩) r) (h:ai C fn aD ops rest Q (A n (upd dst (.bool !r) env) D) s):ai C fn aD ops (i::rest) Q (A n env D) s:=by
 refine cd hC ho hw (by simp) ?_
 have hg':P.eqGuardType P.depth T=false:=hg
 simp only[execOp,aH hx,aH hy,eqGuard,Bool.not_true,Bool.false_eq_true,if_false,ae,fu,hg',Bool.not_false,if_true,ah,binOp]
 rw[he]
 rw[←bu] at h
 exact h
def EqD(P:Program)(dep:Nat)(t:TypeId)(x y:Value)(r:Bool):Prop:=
 ∀(α:Type) (s:St) (k:Bool→Sem α) (Q:α→St→Prop) (E:Halt→St→Prop),bU P (Op.equalIn dep t x y >>= k) s Q E=bU P (k r) s Q E
theorem mb{k:IntKind}(tf:TF P t (.int k) sz bL z ag)(a b:Int):EqD P (dep+1) t (.int k a) (.int k b) (a==b):=by
 intro α s kk Q E
 simp only[Op.equalIn,ae,bk tf,if_true,ah]
theorem akJ(tf:TF P t .bool sz bL z ag)(a b:Bool):EqD P (dep+1) t (.bool a) (.bool b) (a==b):=by
 intro α s kk Q E
 simp only[Op.equalIn,ae,bk tf,ah]
theorem NP{d:TypeDesc}(tf:TF P t d sz bL z false){v:Value}(hv:nth l o=some v){k:Value→Sem α}{Q:α→St→Prop}:bU P (part t ⟨l⟩ o >>= k) s Q E=bU P (k v) s Q E:=by
 rw[s9] at hv
 simp only[part,ae,kZ tf,Bool.false_eq_true,if_false,List.getElem?_toArray]
 rw[hv]
 simp only[ah]
theorem NO{d:TypeDesc}(tf:TF P t d sz bL z true){m:List Value}(hv:sub l o sz=some m){k:Value→Sem α}{Q:α→St→Prop}:bU P (part t ⟨l⟩ o >>= k) s Q E=bU P (k (.agg ⟨m⟩)) s Q E:=by
 obtain⟨h1,h2⟩:=sub_eq _ _ _ _ hv
 simp only[part,ae,kZ tf,if_true,cy tf,ah]
 have:(⟨l⟩:Array Value).extract o (o+sz)=⟨m⟩:=by
  apply Array.ext'
  simp only[Array.toList_extract,List.extract_eq_take_drop]
  apply List.ext_getElem?
  intro j
  rw[List.getElem?_take]
  split
  ·rename_i hj
   rw[List.getElem?_drop]
   have Z8:j <m.length:=by omega
   have h3:=h2 j m[j] (by simp[Z8])
   rw[h3];simp[Z8]
  rename_i hj
  rw[List.getElem?_eq_none (by omega)]
 rw[this]
def JC(P:Program)(t:TypeId)(l:List Value)(o:Nat)(v:Value):Prop:=
 ∀(α:Type) (s:St) (k:Value→Sem α) (Q:α→St→Prop) (E:Halt→St→Prop),bU P (part t ⟨l⟩ o >>= k) s Q E=bU P (k v) s Q E
theorem gR{d:TypeDesc}(tf:TF P t d sz bL z false){v:Value}(hv:nth l o=some v):JC P t l o v:=fun _ _ _ _ _=>NP tf hv
theorem HC{d:TypeDesc}(tf:TF P t d sz bL z true){m:List Value}(hv:sub l o sz=some m):JC P t l o (.agg ⟨m⟩):=fun _ _ _ _ _=>NO tf hv
inductive CI(P:Program)(dep:Nat)(l m:List Value):List Field→Bool→Prop
 |nil:CI P dep l m [] true
 |cons {f:Field} {fs:List Field} {v w:Value} {r r':Bool} (hn:f.name≠ "_") (hv:JC P f.type l f.offset v) (hw:JC P f.type m f.offset w) (he:EqD P dep f.type v w r) (ht:CI P dep l m fs r'):CI P dep l m (f::fs) (r&&r')
theorem rk{fields:Array Field}{m:List Value}(tf:TF P t (.struct fields) sz bL z true)(hs:P.stoodInHeld t=false)(hf:CI P dep l m fields.toList r):EqD P (dep+1) t (.agg ⟨l⟩) (.agg ⟨m⟩) r:=by
 intro α s k Q E
 simp only[Op.equalIn,ae,bk tf,fu,hs,Bool.false_eq_true,if_false]
 rw[←Array.forIn_toList]
 generalize fields.toList=fl at hf
 clear tf
 induction hf with
 |nil=>simp only[List.forIn_nil,ah,ae,Bool.and_true]
 | @cons f fs v w r r' hn hv hw he ht ih=>
  simp only[List.forIn_cons,hn,ne_eq,not_false_eq_true,if_true,ae]
  rw[hv]
  simp only[ae]
  rw[hw]
  simp only[ae]
  rw[he]
  cases r with
  |false=>simp only[Bool.not_false,if_true,ah,ae,Bool.false_and]
  |true=>
   simp only[Bool.not_true,Bool.false_eq_true,if_false,ah,Bool.true_and]
   exact ih
theorem I0{x y:Value}(h:EqD P 10000 t x y r):EqV P t x y r:=fun s k Q E=>h Go.Next s k Q E
end rules
section rules
variable {P:Program} {C:Class} {fn:FuncId} {aD:Option Nat} {Q:Post} {s:St} {n:Nat} {env:Env} {D:List Deferred}
variable {ops:Array Oper} {i:Nat} {rest:List Nat} {dst:Option Tmp} {ty:TypeId} {pos:String} {dt:Array Edge} {g:Option (Nat×Bool)}
variable {T:TypeId} {d:TypeDesc} {sz bL:Nat} {z:List Value} {ag:Bool}
def vK:List Value→Value
 | [x]=>x
 |l=> .tuple ⟨l⟩
inductive Gi(P:Program)(s:St)(n:Nat)(env:Env):List ResultVar→List Value→Prop
 |nil:Gi P s n env [] []
 |tmp {t:Tmp} {v:Value} {rs:List ResultVar} {vs:List Value} (h:bE n env (.tmp t)=some v) (hr:Gi P s n env rs vs):Gi P s n env (.tmp t::rs) (v::vs)
 |agg {t:Tmp} {T:TypeId} {d:TypeDesc} {sz bL:Nat} {z l:List Value} {b o:Nat} {rs:List ResultVar} {vs:List Value} (tf:TF P T d sz bL z true) (h:bE n env (.tmp t)=some (.pointer (some ⟨b,o,none⟩))) (hl:cK s b o sz l) (hr:Gi P s n env rs vs):Gi P s n env (.cell t T::rs) (.agg ⟨l⟩::vs)
 |cell {t:Tmp} {T:TypeId} {d:TypeDesc} {sz bL:Nat} {z:List Value} {v:Value} {b o:Nat} {rs:List ResultVar} {vs:List Value} (tf:TF P T d sz bL z false) (h:bE n env (.tmp t)=some (.pointer (some ⟨b,o,none⟩))) (hl:Reads s b o v) (hr:Gi P s n env rs vs):Gi P s n env (.cell t T::rs) (v::vs)
theorem Ha:∀ {rs:List ResultVar} {vs:List Value} (_:Gi P s n env rs vs) {k:List Value→Sem α} {Q:α→St→Prop} {E:Halt→St→Prop},bU P (k vs) s Q E→
 bU P (rs.mapM (fun| .tmp t=>pure ((A n env D).tmps.getD t undef)| .cell a t=>do loadVar t (←asAddr ((A n env D).tmps.getD a undef))) >>= k) s Q E
 |_,_,.nil,k,Q,E,h=>by simpa only[List.mapM_nil,ah] using h
 |_,_,.tmp (t:=t) (v:=v) h hr,k,Q,E,hk=>by
  have hv:(A n env D).tmps.getD t undef=v:=by have:=qo (D:=D) h;rwa[←Array.getD_eq_getD_getElem?] at this
  simp only[List.mapM_cons,ae,ah,hv]
  exact Ha hr hk
 |_,_,.agg (t:=t) (l:=l) (b:=b) (o:=o) tf h hl hr,k,Q,E,hk=>by
  have hv:(A n env D).tmps.getD t undef= .pointer (some ⟨b,o,none⟩):=by have:=qo (D:=D) h;rwa[←Array.getD_eq_getD_getElem?] at this
  simp only[List.mapM_cons,ae,ah,hv,asAddr,loadVar,kZ tf,if_true,cy tf]
  refine jA hl ?_
  try simp only[ae,ah]
  exact Ha hr hk
 |_,_,.cell (t:=t) (v:=v) (b:=b) (o:=o) tf h hl hr,k,Q,E,hk=>by
  have hv:(A n env D).tmps.getD t undef= .pointer (some ⟨b,o,none⟩):=by have:=qo (D:=D) h;rwa[←Array.getD_eq_getD_getElem?] at this
  simp only[List.mapM_cons,ae,ah,hv,asAddr,loadVar,kZ tf,Bool.false_eq_true,if_false]
  refine wN hl ?_
  try simp only[ae,ah]
  exact Ha hr hk
theorem Ri{fn:Func}{R:Ending→St→Prop}{e:Exit}{s0:St}{vs:List Value}{v:Value}(he:e= .ret∨e= .normal)(hr:Gi P s n env fn.results.toList vs)(hv:vK vs=v)(hl:s0.le s)(h:R (.returned v) s0):sI P fn R e (A n env []) s:=by
 refine xQ he rfl ?_
 unfold results
 rw[Array.mapM_eq_mapM_toList]
 simp only[map_eq_pure_bind,ae,ah]
 refine Ha (D:=[]) hr ?_
 refine⟨s0,hl,?_⟩
 subst hv
 have:(if h:(⟨vs⟩:Array Value).size=1 then (⟨vs⟩:Array Value)[0] else .tuple ⟨vs⟩)=vK vs:=by
  match vs with
  | []=>rfl
  | [x]=>rfl
  |x::y::l=>simp[vK]
 rw[←this] at h
 exact h
theorem aEW(hC:∀main T,C main T→Closed P main T){T:TypeId}{k:IntKind}{a b:Int}(ho:ops[i]?=some ⟨dst,.binOp .rem T x y T',ty,pos,dt,g⟩) (hw:aB ops n env g=true)
 (hx:bE n env x=some (.int k a)) (hy:bE n env y=some (.int k b)) (hb:b≠0) (h:ai C fn aD ops rest Q (A n (upd dst (.int k (a.tmod b)) env) D) s):ai C fn aD ops (i::rest) Q (A n env D) s:=
 RQ hC ho hw hx hy (v:= .int k (a.tmod b)) (by
  show (if (k≠k) then _ else _)=_
  rw[if_neg (by simp)]
  show Op.intDiv .rem k a b=_
  simp only[Op.intDiv,hb,if_false];rfl) h
end rules
abbrev aX:=Nat→Option (Nat×Nat)
def ur:Nat:=18446744073709551616
def pg:Nat:=36893488147419103232
def BC:Go.Fn→Bool
 | .yield _=>false
 |_=>true
mutual
inductive VR (ρ:aX):Value→Value→Prop
 |bool (b:Bool):VR ρ (.bool b) (.bool b)
 |int (k:IntKind) (n:Int):VR ρ (.int k n) (.int k n)
 |string (b:ByteArray):VR ρ (.string b) (.string b)
 |VM:VR ρ (.pointer none) (.pointer none)
 |ptr (i b c o:Nat):ρ i=some (b,c)→VR ρ (.pointer (some ⟨i,o,none⟩)) (.pointer (some ⟨b,o,none⟩))
 |qG (l c:Nat):VR ρ (.slice none l c) (.slice none l c)
 |slice (i b c o l k:Nat):ρ i=some (b,c)→k≤ur→VR ρ (.slice (some ⟨i,o,none⟩) l k) (.slice (some ⟨b,o,none⟩) l k)
 |ir (i b c o l k:Nat):ρ i=some (b,c)→ur <k→k≤pg→l+(pg-k)≤c→VR ρ (.slice (some ⟨i,o,none⟩) l k) (.slice (some ⟨b,o,none⟩) l (c-(pg-k)))
 |V2:VR ρ (.map none) (.map none)
 |map (i b c:Nat):ρ i=some (b,c)→VR ρ (.map (some i)) (.map (some b))
 |Jh:VR ρ (.chan none) (.chan none)
 |chan (i b c:Nat):ρ i=some (b,c)→VR ρ (.chan (some i)) (.chan (some b))
 |func (f:Go.Fn) (x y x' y':List Value):BC f=true→kD ρ x x'→kD ρ y y'→VR ρ (.func f ⟨x⟩ ⟨y⟩) (.func f ⟨x'⟩ ⟨y'⟩)
 |yield (i b c:Nat):ρ i=some (b,c)→VR ρ (.func (.yield i) #[] #[]) (.func (.yield b) #[] #[])
 |nilFunc:VR ρ .nilFunc .nilFunc
 |iface (t:TypeId) (v v':Value):VR ρ v v'→VR ρ (.iface t v) (.iface t v')
 |nilIface:VR ρ .nilIface .nilIface
 |agg (l l':List Value):kD ρ l l'→VR ρ (.agg ⟨l⟩) (.agg ⟨l'⟩)
 |tuple (l l':List Value):kD ρ l l'→VR ρ (.tuple ⟨l⟩) (.tuple ⟨l'⟩)
inductive kD (ρ:aX):List Value→List Value→Prop
 |nil:kD ρ [] []
 |cons (v v':Value) (l l':List Value):VR ρ v v'→kD ρ l l'→kD ρ (v::l) (v'::l')
end
def flatAll(f:Value→Bool):List Value→Bool
 | []=>true
 |v::l=>f v&&flatAll f l
def nO:Nat→Value→Bool
 |0,_=>false
 |_+1,.bool _|_+1,.int _ _|_+1,.string _|_+1,.pointer none|_+1,.slice none _ _|_+1,.map none|_+1,.chan none|_+1,.nilFunc|_+1,.nilIface=>true
 |n+1,.func f x y=>BC f&&(flatAll (nO n) x.toList&&flatAll (nO n) y.toList)
 |n+1,.iface _ v=>nO n v
 |n+1,.agg l=>flatAll (nO n) l.toList
 |n+1,.tuple l=>flatAll (nO n) l.toList
 |_,_=>false
def flat(v:Value):Bool:=nO 12 v
inductive Tr(α:Type) where
 |nil
 |node (v:Option α) (l r:Tr α)
theorem beq_false{a:Nat}(h:a≠b):Nat.beq a b=false:=by
 cases hb:Nat.beq a b with
 |false=>rfl
 |true=>exact absurd (Nat.eq_of_beq_eq_true hb) h
structure cL where
 key:Value
 val:Value
 born:Nat
inductive kV where
 |cells (l:List Value) (t:TypeId)
 |map (es:List cL) (clock:Nat)
 |gx (s:ByteArray) (pos:Nat)
 |mapIter (m:Option Nat) (since:Nat) (seen:List Nat) (Bt:Nat)
 |loop (st:LoopState) (pend:Option Code) (fn n:Nat) (env:Env) (params:Array Tmp) (assign body:Code) (defers:Nat)
 |defer (taken:Bool)
 |Ju (es:List cL)
structure CB where
 ro:Bool
 o:kV
structure Mem where
 t:Tr CB
 next:Nat
def cX(n:Nat)(ce:Env):Operand→Option Value
 | .tmp t=>bif Nat.blt t n then iD ce t else none
 | .const v=>bif flat v then some v else none
 | .global _=>none
 | .func f=>some (.func (.func f) #[] #[])
def vi(n:Nat)(ce:Env):List Operand→Option (List Value)
 | []=>some []
 |x::l=>match cX n ce x with
  |some v=>match vi n ce l with
   |some r=>some (v::r)
   |none=>none
  |none=>none
theorem aj3{rest:Env}{t:Nat}{v:Value}(h:iD e t=some v):iD (e++rest) t=some v:=by
 induction e with
 |nil=>cases h
 |cons x e ih=>
  rcases x with ⟨k,u⟩
  simp only[iD,List.cons_append] at h ⊢
  cases hb:Nat.beq k t with
  |true=>rw[hb] at h;exact h
  |false=>rw[hb] at h;exact ih h
theorem bB{rest:Env}{v:Value}(h:bE n e x=some v):bE n (e++rest) x=some v:=by
 cases x with
 |tmp t=>
  simp only[bE] at h ⊢
  cases hb:Nat.blt t n with
  |true=>rw[hb] at h;exact aj3 h
  |false=>rw[hb] at h;cases h
 |_=>exact h
theorem yy{rest:Env}:∀ {xs:List Operand} {vs:List Value},y5 n e xs=some vs→y5 n (e++rest) xs=some vs
 | [],vs,h=>h
 |x::xs,vs,h=>by
  simp only[y5] at h ⊢
  cases hx:bE n e x with
  |none=>rw[hx] at h;cases h
  |some v=>
   rw[hx] at h
   cases hr:y5 n e xs with
   |none=>rw[hr] at h;cases h
   |some r=>rw[hr] at h;rw[bB hx,yy hr];exact h
structure TI where
 d:TypeDesc
 size:Nat
 zero:List Value
 agg:Bool
def OC:TypeDesc→Bool
 | .struct _| .array _ _=>true
 |_=>false
def GY:Bool→Value→Option (List Value)
 |true,.agg ⟨l⟩=>some l
 |true,_=>none
 |false,.agg _=>none
 |false,v=>some [v]
def a8(P:Program)(t:TypeId):Option TI:=
 match P.underlying t with
 |some d=>match P.info? t with
  |some i=>match i.zero with
   |some z=>match GY (OC d) z with
    |some l=>some ⟨d,i.size,l,OC d⟩
    |none=>none
   |none=>none
  |none=>none
 |none=>none
theorem ay{x:TI}(h:a8 P t=some x):∃bL,TF P t x.d x.size bL x.zero x.agg:=by
 unfold a8 at h
 split at h<;>try (cases h;done)
 rename_i d hd
 split at h<;>try (cases h;done)
 rename_i i hi
 split at h<;>try (cases h;done)
 rename_i z hz
 split at h<;>try (cases h;done)
 rename_i l hl
 cases h
 refine⟨i.bytes,hd,⟨i,hi,rfl,rfl,z,hz,?_,?_⟩,?_⟩
 ·revert hl
  simp only
  cases hb:OC d
  ·intro hl;cases z<;>simp_all[GY,Value.cells]
  intro hl;cases z<;>simp_all[GY,Value.cells]
  cases hl;rfl
 ·revert hl
  simp only
  cases hb:OC d
  ·intro hl;cases z<;>simp_all[GY]<;>subst hl<;>rfl
  intro hl;cases z<;>simp_all[GY]
  cases hl;rfl
 cases d<;>rfl
def bH(P:Program):Sem α→Option α
 | .pure a=>some a
 | .program k=>bH P (k P)
 |_=>none
theorem oL:∀ {x:Sem α} {a:α},bH P x=some a→∀ {s:St} {Q:α→St→Prop} {E:Halt→St→Prop},Q a s→bU P x s Q E
 | .pure _,_,h,_,_,_,hq=>by simp only[bH,Option.some.injEq] at h;subst h;exact hq
 | .program k,_,h,_,_,_,hq=>oL (x:=k P) h hq
 | .load ..,_,h,_,_,_,_=>by cases h
 | .store ..,_,h,_,_,_,_=>by cases h
 | .new ..,_,h,_,_,_,_=>by cases h
 | .shape ..,_,h,_,_,_,_=>by cases h
 | .freeze ..,_,h,_,_,_,_=>by cases h
 | .frozen ..,_,h,_,_,_,_=>by cases h
 | .getObj ..,_,h,_,_,_,_=>by cases h
 | .setObj ..,_,h,_,_,_,_=>by cases h
 | .choose ..,_,h,_,_,_,_=>by cases h
 | .sys ..,_,h,_,_,_,_=>by cases h
 | .mark ..,_,h,_,_,_,_=>by cases h
 | .halt ..,_,h,_,_,_,_=>by cases h
theorem bh{x:Sem α}{a:α}{k:α→Sem β}{Q:β→St→Prop}(h:bH P x=some a)(hk:bU P (k a) s Q E):bU P (x >>= k) s Q E:=
 QK x k s Q E (oL h hk)
def Ev(n:Nat)(e:Env)(f:Operand→Value):Prop:=∀x v,bE n e x=some v→f x=v
theorem Ev.list{f:Operand→Value}(h:Ev n e f):∀ {xs:List Operand} {vs:List Value},y5 n e xs=some vs→xs.map f=vs
 | [],vs,hx=>by simpa [y5] using hx
 |x::xs,vs,hx=>by
  simp only[y5] at hx
  cases h1:bE n e x with
  |none=>rw[h1] at hx;cases hx
  |some v=>
   rw[h1] at hx
   cases h2:y5 n e xs with
   |none=>rw[h2] at hx;cases hx
   |some r=>rw[h2] at hx;simp only[Option.some.injEq] at hx;subst hx;simp[h _ _ h1,Ev.list h h2]
theorem Ev.arr{f:Operand→Value}(h:Ev n e f)(hx:y5 n e xs.toList=some vs):xs.map f=⟨vs⟩:=by
 have:=h.list hx
 rcases xs with ⟨xs⟩
 simpa using this
def Yields(P:Program)(n:Nat)(e:Env)(o:Oper)(s:St)(v:Value):Prop:=
 ∀s',Ext s s'→∀f,Ev n e f→∀(K:Next→St→Prop) (E:Halt→St→Prop),K (.value v) s'→bU P (execOp f o) s' K E
def Hy:Op→Option (List Operand)
 | .binOp _ _ x y _=>some [x,y]
 | .unOp _ _ x=>some [x]
 | .convert _ _ x=>some [x]
 | .index _ x y=>some [x,y]
 | .field _ x _=>some [x]
 | .slice _ x none none none=>some [x]
 | .slice _ x (some a) none none=>some [x,a]
 | .slice _ x none (some a) none=>some [x,a]
 | .slice _ x (some a) (some b) none=>some [x,a,b]
 | .call ⟨.builtin .min,xs,_⟩=>some xs.toList
 | .call ⟨.builtin .max,xs,_⟩=>some xs.toList
 | .typeAssert x _ _ _=>some [x]
 |_=>none
theorem uR{o:Oper}{xs:List Operand}(h:Hy o.op=some xs){f g:Operand→Value}(hfg:∀x∈xs,f x=g x):execOp f o=execOp g o:=by
  unfold Hy at h
  split at h<;>try (cases h;done)
  all_goals (rename_i heq;simp only[Option.some.injEq] at h;subst h)
  all_goals first
    | (simp[execOp,heq,hfg];done)
    | (simp only[execOp,heq,resolve]
       rename_i xs at_
       have:xs.map f=xs.map g:=by
         apply Array.map_congr_left
         intro a ha;exact hfg a (by simpa using ha)
       rw[this])
theorem Ev.parts{f:Operand→Value}(hf:Ev n e f):∀ {xs:List (Nat×Operand)} {l:List (Nat×Value)},Qj n e xs=some l→xs.map (fun x=>(x.1,f x.2))=l
 | [],l,h=>by simpa [Qj] using h
 | (i,x)::xs,l,h=>by
  simp only[Qj] at h
  cases hx:bE n e x with
  |none=>rw[hx] at h;cases h
  |some v=>
   rw[hx] at h
   cases hr:Qj n e xs with
   |none=>rw[hr] at h;cases h
   |some r=>rw[hr] at h;simp only[Option.some.injEq] at h;subst h;simp[hf _ _ hx,Ev.parts hf hr]
theorem Ev.wY{f:Operand→Value}(hf:Ev n e f){ps:Array (Nat×Operand)}{l:List (Nat×Value)}(h:Qj n e ps.toList=some l):(ps.map fun x=>(x.1,f x.2)).toList=l:=by
 rw[Array.toList_map];exact hf.parts h
def yf(P:Program):List Field→Option (List (Nat×Nat))
 | []=>some []
 |f::fs=>match a8 P f.type with
  |some ti=>match yf P fs with
   |some r=>some ((f.offset,ti.size)::r)
   |none=>none
  |none=>none
theorem Ar:∀ {fs:List Field} {pl:List (Nat×Nat)},yf P fs=some pl→EL P fs pl
 | [],pl,h=>by simp only[yf,Option.some.injEq] at h;subst h;exact .nil
 |f::fs,pl,h=>by
  simp only[yf] at h
  split at h<;>try (cases h;done)
  rename_i ti dS
  split at h<;>try (cases h;done)
  rename_i r hr
  simp only[Option.some.injEq] at h;subst h
  obtain⟨bL,tf⟩:=ay dS
  exact .cons tf (Ar hr)
def pF(P:Program)(t:TypeId):Nat:=match P.info? t with|some i=>i.bytes|none=>1000000
theorem cM{r:Nat}{o:Obj}{k:Obj→Sem α}{Q:α→St→Prop}(h:s.has r o)(h1:Obj.yo o=false)(h2:o.isChan=false)(hk:bU P (k o) s Q E):bU P (getObj r >>= k) s Q E:=⟨o,h,h1,h2,hk⟩
theorem eH{r:Nat}{o:Obj}{L:List (Nat×Obj)}{k:Unit→Sem α}{Q:α→St→Prop}(h2:o.isChan=false)(hs:s.rw=L++(r,o')::R)(h1:Obj.yo o'=false)(hk:bU P (k ()) ⟨s.ro,L++(r,o)::R⟩ Q E):bU P (setObj r o >>= k) s Q E:=⟨h2,L,o',R,hs,h1,hk⟩
def eI:Op→Bool
 | .defer _=>false
 |_=>true
theorem oQ{op:Op}(h:eI op=true):∀c,op≠ .defer c:=by
 intro c e;subst e;cases h
section ops
variable {P:Program} {C:Class} {fn:FuncId} {aD:Option Nat} {Q:Post} {s:St} {n:Nat} {D:List Deferred} {ops:Array Oper} {i:Nat} {todo:List Nat} {ρ:aX} {ce e:Env} {o:Oper} {v:Value} {m m':Mem} {F:Nat×Obj→Prop} {R:Nat→Option Obj}
theorem Ev.HH(rest:Env):Ev n e (ev n (e++rest)):=fun _ _ h=>aH (bB h)
theorem mv(hC:∀main T,C main T→Closed P main T)(ho:ops[i]?=some o) (rest:Env) (hw:aB ops n (e++rest) o.guard=true) (hd:eI o.op=true) (hy:Yields P n e o s v) (hx:Ext s s') (hk:ai C fn aD ops todo Q (A n (upd o.dst v (e++rest)) D) s'):
 ai C fn aD ops (i::todo) Q (A n (e++rest) D) s':=by
 refine cd hC ho hw (oQ hd) (hy s' hx _ (Ev.HH rest) _ _ ?_)
 show ai _ _ _ _ _ _ _ _
 rw[bu];exact hk
end ops
inductive CR where
 |ret (v:Value)
 |panic (v:Value)
inductive Tgt where
 |fn (f:FuncId)
 |yield (l:Nat)
abbrev cA:=Tgt→List Value→Mem→Option (CR×Mem)
def C2(P:Program)(f:FuncId):Bool:=
 match P.funcs[f]? with
 |some fn=> !(fn.name== "runtime.NumGoroutine")&& !fn.body.isNone
 |none=>false
theorem lI(h:C2 P f=true):FF P f:=by
 unfold C2 at h
 split at h
 ·rename_i fn vV
  simp only[Bool.and_eq_true,Bool.not_eq_true'] at h
  exact⟨fn,vV,h.1,h.2⟩
 cases h
def target(P:Program)(n:Nat)(ce:Env):Op→Option (Tgt×List Value)
 | .call ⟨.value x,xs,_⟩=>match cX n ce x with
  |some (.func (.func f) ⟨fi⟩ ⟨ca⟩)=>match vi n ce xs.toList with
   |some vs=>bif C2 P f then some (.fn f,fi++vs++ca) else none
   |none=>none
  |some (.func (.yield l) ⟨[]⟩ ⟨[]⟩)=>match vi n ce xs.toList with
   |some vs=>some (.yield l,vs)
   |none=>none
  |_=>none
 | .call ⟨.invoke x name,xs,_⟩=>match cX n ce x with
  |some (.iface t v)=>bif flat v then (match bH P (method (P.types.size+Made.depth) t v name) with
   |some (f,r)=>match vi n ce xs.toList with
    |some vs=>bif C2 P f&&flat r then some (.fn f,r::vs) else none
    |none=>none
   |none=>none) else none
  |_=>none
 |_=>none
def KT(d:Nat):Env→Env
 | []=>[]
 | (k,v)::r=>bif Nat.beq k d then r else (k,v)::KT d r
def fB(dst:Option Tmp)(v:Value)(env:Env):Env:=
 match dst with
 |some d=>(d,v)::KT d env
 |none=>env
theorem TK{d t:Nat}(h:d≠t):∀(e:Env),get (KT d e) t=get e t
 | []=>rfl
 | (k,v)::r=>by
  simp only[KT]
  cases hb:Nat.beq k d with
  |true=>
   have:=Nat.eq_of_beq_eq_true hb
   subst this
   simp only[cond_true,cN,if_neg h]
  |false=>simp only[cond_false,cN,TK h r]
theorem kI(n:Nat)(dst:Option Tmp)(v:Value)(e:Env)(D:List Deferred):A n (upd dst v e) D=A n (fB dst v e) D:=by
 cases dst with
 |none=>rfl
 |some d=>
  simp only[A,upd,fB,Act.mk.injEq,and_true]
  congr 1
  funext i
  rw[cN,cN]
  split
  ·rfl
  rename_i h;rw[TK h]
inductive PL(ρ:aX):List (Nat×Value)→List (Nat×Value)→Prop
 |nil:PL ρ [] []
 |cons (i:Nat) (v v':Value) (l l':List (Nat×Value)):VR ρ v v'→PL ρ l l'→PL ρ ((i,v)::l) ((i,v')::l')
structure AL where
 i:Nat
 id:Nat
 ob:kV
section rounds
variable {P:Program} {C:Class} {s:St}
def EM(s:St)(l:Nat)(K:Loop→(Loop→St)→Prop):Prop:=∃L r Rr,s.rw=L++(l,.loop r)::Rr∧K r fun r'=>⟨s.ro,L++(l,.loop r')::Rr⟩
def Xy(R:Ending→St→Prop)(l:Nat)(jump:Option Code)(s:St):Prop:=
 EM s l fun r up=>R (.returned (.bool jump.isNone)) (up {r with state:=if jump.isNone then .ready else .done,pending:=jump})
def Dh(R:Ending→St→Prop)(l:Nat):Post
 | .normal,_,s=>Xy R l none s
 | .ret,_,s=>Xy R l (some .ret) s
 | .exit id,_,s=>Xy R l (some (.exit id)) s
 | .panic ch,a,s=>a.defers=[]∧R (.panicked ch) s
 |_,_,_=>False
def Jt(C:Class)(R:Ending→St→Prop)(l:Nat)(f:FuncId)(body:Code):Post
 | .normal,a,s=>EM s l fun r up=>r.state= .ready∧Wp C f (some l) body (Dh R l) a (up {r with state:= .busy})
 | .panic ch,a,s=>a.defers=[]∧R (.panicked ch) s
 |_,_,_=>False
theorem x5{l:Nat}{L Rr:List (Nat×Obj)}{r:Loop}(hs:s.rw=L++(l,.loop r)::Rr){k:Loop→Sem α}{Q:α→St→Prop}(hk:bU P (k r) s Q E):bU P (Instr.getLoop l >>= k) s Q E:=by
 simp only[Instr.getLoop,ae]
 exact cM (o:= .loop r) (.inr (by rw[hs];exact fN)) rfl rfl hk
theorem wS(hC:∀main T,C main T→Closed P main T)(hT:C main T){c:Frame}{l:Nat}{jump:Option Code}{R:Ending→St→Prop}(h1:fr.kind= .normal)
 (iq:∀w,stepG P main (G fr (c::cs)) w=(let (r,es):=(Instr.endRound l jump).runT P w #[];GStep.after (seen P fr.fn es)<|match r with
  | .ok v w=>doReturn P main fr (c::cs) none v w
  | .halt _ w=> .ended (.stuck "range over a function: no such loop" (fr.pos P)) w))
 (hr:Xy R l jump s)(hk:∀v s',R (.returned v) s'→T (G (c.finish v) cs) s'):T (G fr (c::cs)) s:=by
 obtain⟨L,r,Rr,hs,hR⟩:=hr
 have xo:bU P (Instr.endRound l jump) s (fun v s'=>R (.returned v) s') (fun _ _=>False):=by
  simp only[Instr.endRound]
  refine x5 hs<|eH rfl hs rfl hR
 refine(hC main T hT).step _ _ rfl fun w qn=>?_
 obtain⟨res,es,cq,hl⟩:=iy _ _ _ _ w #[] xo qn
 rw[Array.empty_append] at cq
 cases res with
 |ok v w'=>
  obtain⟨s',ht,hu⟩:=hl
  refine⟨G (c.finish v) cs,w',seen P fr.fn es,s',?_,rfl,ht.sub (jb _ _ _),hk _ _ hu⟩
  rw[iq,cq]
  simp only[doReturn,h1,GStep.after,Array.append_empty,G]
 |halt _ _=>obtain⟨_,_,hu⟩:=hl;exact hu.elim
theorem EZ(hC:∀main T,C main T→Closed P main T){l:Nat}{fn:Func}(hf:P.funcs[f]?=some fn) {tmps:Array Value} {R:Ending→St→Prop}
 (h:Wp C f (some l) assign (Jt C R l f body) ⟨tmps,[]⟩ s):Round C l f tmps assign body s R:=by
 intro main T hT cl cs k1 k2
 let b:Frame:={(default:Frame) with fn:=f,kind:= .normal,roundOf:=some l}
 have iM:Frame.round l f tmps assign body .normal=aM b ⟨tmps,[]⟩ [.code assign,.beginRound,.code body]:=by simp[Frame.round,aM,b]
 rw[iM]
 have aid:∀ch a' s' todo,a'.defers=[]∧R (.panicked ch) s'→T (G {aM b a' todo with mode:= .panicking ch} (cl::cs)) s':=by
  intro ch a' s' todo q
  refine(hC main T hT).go rfl rfl (g':=G (cl.raise ch) cs) (fun w=>?_) (k2 _ _ q.2)
  have Fc:∀fr:Frame,fr.fn=f→fr.catches P=false:=by
   intro fr hfr;simp[Frame.catches,hfr,hf]
  have:=Fc {aM b a' todo with mode:= .panicking ch} rfl
  simp only[aM,q.1] at this
  simp[G,stepG,unwind,aM,b,q.1,this]
 refine h main T hT b [.beginRound,.code body] (cl::cs) rfl (by simp[b]) rfl fun e a' s' q=>?_
 cases e with
 |normal=>
  obtain⟨L,r,Rr,hs,cg,hw⟩:=q
  have xo:bU P (do Instr.beginRound l;pure Next.skip:Sem Next) s' (fun nx s2=>nx= .skip∧s2=⟨s'.ro,L++(l,.loop {r with state:= .busy})::Rr⟩) (fun _ _=>False):=by
   simp only[Instr.beginRound,ae]
   refine x5 hs ?_
   simp only[ae]
   refine eH rfl hs rfl ?_
   simp only[cg,ah]
   exact⟨rfl,rfl⟩
  have MY:T (G (aM b a' [.code body]) (cl::cs)) ⟨s'.ro,L++(l,.loop {r with state:= .busy})::Rr⟩:=by
   refine hw main T hT b [] (cl::cs) rfl (by simp[b]) rfl fun e2 a2 s2 q2=>?_
   cases e2 with
   |normal=>exact wS hC hT (l:=l) (jump:=none) rfl (fun w=>by simp[G,stepG,stepG.exec,aM,b];rfl) q2 k1
   |ret=>exact fun todo=>wS hC hT (l:=l) (jump:=some .ret) rfl (fun w=>by simp[G,stepG,stepG.exec,aM,b];rfl) q2 k1
   |exit id=>exact fun todo hto=>wS hC hT (l:=l) (jump:=some (.exit id)) rfl (fun w=>by simp[G,stepG,stepG.exec,aM,b,hto];rfl) q2 k1
   |panic ch=>exact fun todo=>aid ch a2 s2 todo q2
   |goto l'=>exact q2.elim
   |outgrown=>exact q2.elim
  refine(hC main T hT).step _ _ rfl fun w qn=>?_
  obtain⟨res,es,cq,hl⟩:=iy _ _ _ _ w #[] xo qn
  rw[Array.empty_append] at cq
  cases res with
  |ok nx w'=>
   obtain⟨s2,ht,rfl,rfl⟩:=hl
   refine⟨G (aM b a' [.code body]) (cl::cs),w',seen P f es,_,?_,rfl,ht.sub (jb _ _ _),MY⟩
   have iq:stepG P main (G (aM b a' [.beginRound,.code body]) (cl::cs)) w=stepG.apply P true (aM b a' [.beginRound,.code body]) (cl::cs) none (do Instr.beginRound l;pure Next.skip:Sem Next) w:=rfl
   rw[iq]
   simp only[stepG.apply,if_true,cq]
   simp[GStep.after,Frame.finish,aM,b,G]
  |halt _ _=>obtain⟨_,_,hu⟩:=hl;exact hu.elim
 |panic ch=>exact fun todo=>aid ch a' s' todo q
 |ret=>exact q.elim
 |exit id=>exact q.elim
 |goto l=>exact q.elim
 |outgrown=>exact q.elim
end rounds
section rounds
variable {P:Program} {C:Class} {s:St}
def eC(bd:Nat):Deferred:={target:= .collected bd,args:= #[]}
def iW(fn:FuncId)(tmps:Array Value)(params:Array Tmp)(assign body:Code)(bd:Nat):Loop:={state:= .ready,pending:=none,fn,tmps,params,assign,body,defers:=bd}
def adB(Q:Post)(a:Act)(l:Nat):Ending→St→Prop
 | .returned _,s=>EM s l fun r up=>r.state≠ .busy∧(match r.pending with
  |none=>Q .normal a (up {r with state:= .exhausted})
  |some .ret=>Q .ret a (up {r with state:= .exhausted})
  |some (.exit id)=>Q (.exit id) a (up {r with state:= .exhausted})
  |_=>False)
 | .panicked ch,s=>Q (.panic ch) a s
 | .outgrown,_=>False
theorem Bj(hC:∀main T,C main T→Closed P main T){params:Array Tmp}{a:Act}{g:FuncId}(hx:a.eval x= .func (.func g) fi ca)(ff:FF P g)
 (h:∀bd bl,¬s.knows bd→¬(⟨s.ro,(bd,.deferred (some []))::s.rw⟩:St).knows bl→
  Fn C P g (fi++ #[.func (.yield bl) #[] #[]]++ca) ⟨s.ro,(bl,.loop (iW fn a.tmps params assign body bd))::(bd,.deferred (some []))::s.rw⟩ (adB Q {a with defers:=eC bd::a.defers} bl)):
 Wp C fn none (.rangeFunc x params assign body) Q a s:=by
 intro main T hT b k cs h1 h2 h3 h4
 have iY:=hC main T hT
 have hk:(b.kind==CallKind.early)=false:=by simpa using h2
 have xo:bU P (Instr.enterLoop fn a.tmps params assign body none) s (fun r s'=>∃bd bl,¬s.knows bd∧¬(⟨s.ro,(bd,.deferred (some []))::s.rw⟩:St).knows bl∧r=(bl,[eC bd])∧s'=⟨s.ro,(bl,.loop (iW fn a.tmps params assign body bd))::(bd,.deferred (some []))::s.rw⟩) (fun _ _=>False):=by
  simp only[Instr.enterLoop,ae,oK,ah]
  intro bd hbd
  intro bl S3
  exact⟨bd,bl,hbd,S3,rfl,rfl⟩
 refine iY.step _ _ rfl fun w qn=>?_
 obtain⟨res,es,cq,hl⟩:=iy _ _ _ _ w #[] xo qn
 rw[Array.empty_append] at cq
 cases res with
 |halt _ _=>obtain⟨_,_,hu⟩:=hl;exact hu.elim
 |ok r w1=>
  obtain⟨s1,ht1,bd,bl,hbd,S3,rfl,rfl⟩:=hl
  have aGk:bU P (callFunc g (fi++ #[.func (.yield bl) #[] #[]]++ca)) ⟨s.ro,(bl,.loop (iW fn a.tmps params assign body bd))::(bd,.deferred (some []))::s.rw⟩ (fun nx s2=>nx= .enter g (fi++ #[.func (.yield bl) #[] #[]]++ca)∧s2=⟨s.ro,(bl,.loop (iW fn a.tmps params assign body bd))::(bd,.deferred (some []))::s.rw⟩) (fun _ _=>False):=kL ff ⟨rfl,rfl⟩
  obtain⟨aRg,Bc,asa,rO⟩:=iy _ _ _ _ w1 #[] aGk ht1.kB
  rw[Array.empty_append] at asa
  cases aRg with
  |halt _ _=>obtain⟨_,_,hu⟩:=rO;exact hu.elim
  |ok nx w2=>
   obtain⟨s2,ht2,rfl,rfl⟩:=rO
   let oh:Frame:=aM b {a with defers:=eC bd::a.defers} (.inRangeFunc bl::k)
   refine⟨G (Frame.enter P g (fi++ #[.func (.yield bl) #[] #[]]++ca) .normal) (oh::cs),w2,seen P b.fn es++seen P b.fn Bc,_,?_,rfl,(ht1.sub (jb _ _ _)).trans (ht2.sub (jb _ _ _)),?_⟩
   ·have Ux:(aM b {a with defers:=eC bd::a.defers} (.inRangeFunc bl::k)).eval x= .func (.func g) fi ca:=by rw[IV];exact hx
    have hdo:(do let d ←resolve (aM b {a with defers:=eC bd::a.defers} (.inRangeFunc bl::k)).eval {callee:= .value x,args:= #[.const (.func (.yield bl) #[] #[])],argTypes:= #[]} 0;invoke d.target d.args:Sem Next)=callFunc g (fi++ #[.func (.yield bl) #[] #[]]++ca):=by
     have hm:Array.map (aM b {a with defers:=eC bd::a.defers} (.inRangeFunc bl::k)).eval #[Operand.const (.func (.yield bl) #[] #[])]= #[.func (.yield bl) #[] #[]]:=by simp[Frame.eval]
     simp only[resolve,Ux,Deferred.ofValue]
     rw[hm]
     rfl
    have cg:stepG P main (G (aM b a (.code (.rangeFunc x params assign body)::k)) cs) w=
     (let (r,es):=(Instr.enterLoop b.fn a.tmps params assign body b.roundOf).runT P w #[]
      GStep.after (seen P b.fn es)<|match r with
       | .ok (l,mark) w=>
        stepG.apply P true (aM b {a with defers:=mark++a.defers} (.inRangeFunc l::k)) cs none (do let d ←resolve (aM b {a with defers:=mark++a.defers} (.inRangeFunc l::k)).eval {callee:= .value x,args:= #[.const (.func (.yield l) #[] #[])],argTypes:= #[]} 0;invoke d.target d.args) w
       | .halt _ w=> .ended (.stuck "range over a function: no such loop" ((aM b a (.code (.rangeFunc x params assign body)::k)).pos P)) w):=rfl
    rw[cg,h1,h3,cq]
    simp only[List.singleton_append]
    rw[hdo]
    simp only[stepG.apply,if_true,asa]
    simp only[aM,hk,Bool.false_eq_true,if_false,GStep.after,h1]
    simp[G,oh,aM,h1]
   refine h bd bl hbd S3 main T hT oh cs (fun v s' hv=>?_) (fun ch s' hv=>h4 _ _ _ hv _)
   obtain⟨L,r,Rr,hs,yV,hq⟩:=hv
   have qW:∀(jump:Option Code),r.pending=jump→T (G (aM b {a with defers:=eC bd::a.defers} ((jump.map Item.code).toList++k)) cs) ⟨s'.ro,L++(bl,.loop {r with state:= .exhausted})::Rr⟩→T (G (oh.finish v) cs) s':=by
    intro jump hj hT'
    have aGj:bU P (Instr.endLoop bl) s' (fun j s2=>j=jump∧s2=⟨s'.ro,L++(bl,.loop {r with state:= .exhausted})::Rr⟩) (fun _ _=>False):=by
     simp only[Instr.endLoop]
     refine x5 hs ?_
     have hbq:(r.state==LoopState.busy)=false:=by simpa using yV
     simp only[hbq,Bool.false_eq_true,if_false,ae,ah]
     exact eH rfl hs rfl ⟨hj,rfl⟩
    refine iY.step _ _ rfl fun w qn=>?_
    obtain⟨res,es,cq,hl⟩:=iy _ _ _ _ w #[] aGj qn
    rw[Array.empty_append] at cq
    cases res with
    |halt _ _=>obtain⟨_,_,hu⟩:=hl;exact hu.elim
    |ok j w'=>
     obtain⟨s2,ht,rfl,rfl⟩:=hl
     refine⟨_,w',seen P b.fn es,_,?_,rfl,ht.sub (jb _ _ _),hT'⟩
     have aUt:stepG P main (G (oh.finish v) cs) w=(let (r,es):=(Instr.endLoop bl).runT P w #[]
      GStep.after (seen P b.fn es)<|match r with
      | .ok jump w=> .go (G (aM b {a with defers:=eC bd::a.defers} ((jump.map Item.code).toList++k)) cs) w
      | .halt (.panic v) w=> .go (G ((aM b {a with defers:=eC bd::a.defers} (.endRangeFunc bl::k)).raise [{v,recovered:=false}]) cs) w
      | .halt _ w=> .ended (.stuck "range over a function: no such loop" ((aM b {a with defers:=eC bd::a.defers} (.endRangeFunc bl::k)).pos P)) w):=rfl
     rw[aUt,cq]
     simp[GStep.after]
   split at hq
   ·rename_i hp;exact qW none hp (h4 _ _ _ hq)
   ·rename_i hp;exact qW _ hp (h4 _ _ _ hq k)
   ·rename_i id hp
    refine qW _ hp ?_
    have h':=h4 _ _ _ hq
    simp only[kG] at h'
    cases iX:exitTo id k with
    |some k'=>
     rw[iX] at h'
     exact iY.go rfl rfl (g':=G (aM b {a with defers:=eC bd::a.defers} k') cs) (fun w=>by simp[G,stepG,stepG.exec,aM,iX]) h'
    |none=>rw[iX] at h';exact h' k iX
   exact hq.elim
end rounds
section marks
variable {P:Program} {C:Class} {s:St}
theorem unwind_mark(hC:∀main T,C main T→Closed P main T)(hT:C main T)(hm:fr.mode= .returning∨∃ch,fr.mode= .panicking ch){bd:Nat}(hd:fr.defers=eC bd::ds)
 {L Rr:List (Nat×Obj)}(hs:s.rw=L++(bd,.deferred (some []))::Rr)(h:T (G {fr with defers:=ds} cs) ⟨s.ro,L++(bd,.deferred none)::Rr⟩):T (G fr cs) s:=by
 have xo:bU P (Instr.takeDeferred bd) s (fun c s2=>c=[]∧s2=⟨s.ro,L++(bd,.deferred none)::Rr⟩) (fun _ _=>False):=by
  simp only[Instr.takeDeferred]
  refine cM (o:= .deferred (some [])) (.inr (by rw[hs];exact fN)) rfl rfl ?_
  exact eH rfl hs rfl ⟨rfl,rfl⟩
 refine(hC main T hT).step _ _ rfl fun w qn=>?_
 obtain⟨res,es,cq,hl⟩:=iy _ _ _ _ w #[] xo qn
 rw[Array.empty_append] at cq
 cases res with
 |halt _ _=>obtain⟨_,_,hu⟩:=hl;exact hu.elim
 |ok c w'=>
  obtain⟨s2,ht,rfl,rfl⟩:=hl
  refine⟨_,w',seen P fr.fn es,_,?_,rfl,ht.sub (jb _ _ _),h⟩
  rcases fr with ⟨fn',tmps,todo,defers,mode,kind,ro⟩
  simp only at hm hd
  subst hd
  rcases hm with rfl| ⟨ch,rfl⟩
  ·simp only[G,stepG,unwind,eC,cq,GStep.after,Array.append_empty,List.nil_append]
  simp only[G,stepG,unwind,eC,cq,GStep.after,Array.append_empty,List.nil_append]
end marks
section code
variable {P:Program} {C:Class} {fn:FuncId} {aD:Option Nat} {n LF:Nat} {F:Nat×Obj→Prop} {R:Nat→Option Obj} {call:cA}
theorem Qw{a:Act}(hC:∀main T,C main T→Closed P main T){c:Code}(h:Wp C fn aD c Q a s):Wp C fn aD (.scope c) Q a s:=by
 intro main T hT b k cs h1 h2 h3 h4
 refine(hC main T hT).go rfl rfl (g':=G (aM b a (.code c:: .inScope c::k)) cs) (fun w=>by simp[G,stepG,stepG.exec,aM]) ?_
 refine h main T hT b (.inScope c::k) cs h1 h2 h3 fun e a' s' q=>?_
 cases e with
 |normal=>exact(hC main T hT).go rfl rfl (g':=G (aM b a' k) cs) (fun w=>by simp[G,stepG,stepG.exec,aM]) (h4 _ _ _ q)
 |exit id=>
  have hh:exitTo id (.inScope c::k)=exitTo id k:=rfl
  have:=h4 _ _ _ q
  simp only[kG,hh] at this ⊢
  exact this
 |ret=>exact h4 _ _ _ q
 |panic ch=>exact h4 _ _ _ q
 |goto l=>exact(h4 _ _ _ q).elim
 |outgrown=>exact(h4 _ _ _ q).elim
theorem wp_label{a:Act}(hC:∀main T,C main T→Closed P main T){l:Nat}(h:Q .normal a s):Wp C fn aD (.label l) Q a s:=
 fun main T hT b k cs _ _ _ h4=>(hC main T hT).go rfl rfl (g':=G (aM b a k) cs) (fun w=>by simp[G,stepG,stepG.exec,aM]) (h4 _ _ _ h)
end code
section code
variable {P:Program} {C:Class} {fn:FuncId} {aD:Option Nat} {n LF:Nat} {D:List Deferred} {F:Nat×Obj→Prop} {R:Nat→Option Obj} {call:cA}
theorem tL(P:Program)(f:FuncId):seen P f #[]= #[]:=by
 apply Array.eq_empty_of_size_eq_zero
 rcases Nat.eq_zero_or_pos (seen P f #[]).size with h|h
 ·exact h
 have:=jb P f #[] (seen P f #[])[0] (Array.getElem_mem h)
 simp at this
def Kl(P:Program)(f:FuncId):Option (Func×Tmp×Code):=
 match P.funcs[f]? with
 |some fn=>match fn.body with
  |some (.seq (.region _ ops false) rest)=>match ops.toList with
   | [o]=>match o.dst,o.op,o.guard with
    |some t,.call ⟨.builtin .recover,xs,_⟩,none=>bif xs.isEmpty&&(fn.results.isEmpty&& !(fn.name== "runtime.NumGoroutine")) then some (fn,t,rest) else none
    |_,_,_=>none
   |_=>none
  |_=>none
 |none=>none
structure aLC(P:Program)(f:FuncId)(fn:Func)(t:Tmp)(rest:Code):Prop where
 ex:P.funcs[f]?=some fn∧fn.results= #[]∧(fn.name== "runtime.NumGoroutine")=false∧∃id o at_,fn.body=some (.seq (.region id #[o] false) rest)∧o.dst=some t∧o.op= .call ⟨.builtin .recover,#[],at_⟩∧o.guard=none
theorem YS{fn:Func}{t:Tmp}{rest:Code}(h:Kl P f=some (fn,t,rest)):aLC P f fn t rest:=by
 unfold Kl at h
 split at h<;>try (cases h;done)
 rename_i fn0 vV
 split at h<;>try (cases h;done)
 rename_i id ops bch hb
 split at h<;>try (cases h;done)
 rename_i o ho
 split at h<;>try (cases h;done)
 rename_i t0 xs at_ h1 h2 h3
 cases hc:(xs.isEmpty&&(fn0.results.isEmpty&& !(fn0.name== "runtime.NumGoroutine"))) with
 |false=>rw[hc] at h;cases h
 |true=>
  rw[hc] at h;simp only[cond_true,Option.some.injEq,Prod.mk.injEq] at h
  obtain⟨rfl,rfl,rfl⟩:=h
  simp only[Bool.and_eq_true,Bool.not_eq_true',Array.isEmpty_iff] at hc
  obtain⟨rfl,c2,c3⟩:=hc
  refine⟨vV,c2,c3,id,o,at_,?_,h1,h2,h3⟩
  rw[hb]
  have:ops= #[o]:=by apply Array.ext';simpa using ho
  rw[this]
inductive UM where
 |ret
 |panic (v:Value)
inductive MR(ρ:aX):UM→FrameMode→Prop
 |ret:MR ρ .ret .returning
 |panic (v v':Value):VR ρ v v'→MR ρ (.panic v) (.panicking [{v:=v',recovered:=false}])
def anu:UM→Value
 | .ret=> .nilIface
 | .panic v=>v
theorem jZ(hC:∀main T,C main T→Closed P main T)(hT:C main T)(hm:fr.mode= .returning∨∃ch,fr.mode= .panicking ch)(ff:FF P f){a:Array Value} 
 (hd:fr.defers={target:= .fn (.func f) ca,args:=a}::ds)(h:T (G (Frame.enter P f (a++ca) .deferred) ({fr with defers:=ds}::cs)) s):T (G fr cs) s:=by
 have xo:bU P (invoke (.fn (.func f) ca) a) s (fun nx s2=>nx= .enter f (a++ca)∧s2=s) (fun _ _=>False):=by
  simp only[invoke]
  exact kL ff ⟨rfl,rfl⟩
 refine(hC main T hT).step _ _ rfl fun w qn=>?_
 obtain⟨res,es,cq,hl⟩:=iy _ _ _ _ w #[] xo qn
 rw[Array.empty_append] at cq
 cases res with
 |halt _ _=>obtain⟨_,_,hu⟩:=hl;exact hu.elim
 |ok c w'=>
  obtain⟨s2,ht,rfl,rfl⟩:=hl
  refine⟨_,w',seen P fr.fn es,_,?_,rfl,ht.sub (jb _ _ _),h⟩
  rcases fr with ⟨fn',tmps,todo,defers,mode,kind,ro⟩
  simp only at hm hd
  subst hd
  rcases hm with rfl| ⟨ch,rfl⟩
  ·simp only[G,stepG,unwind,callDeferred,cq,GStep.after,Array.append_empty]
   rfl
  simp only[G,stepG,unwind,callDeferred,cq,GStep.after,Array.append_empty]
  rfl
theorem Bx(hC:∀main T,C main T→Closed P main T)(hT:C main T){b:Frame}{a:Act}{o:Oper}{t:Tmp}{k:List Item}{ρ:aX}{u:UM}(tj:b.kind= .deferred)(rQ:b.roundOf=none)
 (h1:o.dst=some t)(h2:o.op= .call ⟨.builtin .recover,#[],at_⟩)(h3:o.guard=none)(hu:MR ρ u fr.mode)
 (h:∀v' nK,VR ρ (anu u) v'∨(u= .ret∧v'= .nilIface)→(nK= .returning∨∃v,nK= .panicking [{v:=v,recovered:=true}])→T (G (aM b (a.put (some t) v') (.inRegion #[o] []::k)) ({fr with mode:=nK}::cs)) s):
 T (G (aM b a (.inRegion #[o] [0]::k)) (fr::cs)) s:=by
 have hw:Region.wanted o (yielded #[o] a.tmps)=true:=by unfold Region.wanted;rw[h3]
 have hex:∀aQ,execOp aQ o=pure .recover:=by
  intro aQ
  simp only[execOp,h2,resolve]
  rfl
 have mT:∀v,(aM b a (.inRegion #[o] [0]::k)).finish v=aM b (a.put (some t) v) (.inRegion #[o] []::k):=by
  intro v
  rw[gi]
  have:((#[o]:Array Oper)[0]?).bind (·.dst)=some t:=by simpa using h1
  rw[this]
 have iq:∀w,stepG P main (G (aM b a (.inRegion #[o] [0]::k)) (fr::cs)) w=stepG.apply P true (aM b a (.inRegion #[o] [0]::k)) (fr::cs) none (pure .recover) w:=by
  intro w
  have he:=lh b a (.inRegion #[o] [0]::k)
  simp only[aM] at he
  have ho:(#[o]:Array Oper)[0]?=some o:=by simp
  simp only[G,stepG,stepG.exec,aM,ho,Option.map_some,Option.getD_some,hw,if_true,stepG.oper,Frame.oper?,he,rQ,hex]
 rcases SM:fr.mode with _|_|ch
 ·rw[SM] at hu;cases hu
 ·rw[SM] at hu
  cases hu
  have:=h .nilIface .returning (.inr ⟨rfl,rfl⟩) (.inl rfl)
  rw[←mT] at this
  refine(hC main T hT).go rfl rfl (fun w=>?_) this
  rw[iq]
  have hfr: {fr with mode:=FrameMode.returning}=fr:=by rw[←SM]
  rw[hfr]
  simp only[stepG.apply,if_true]
  show GStep.after (seen P _ _) _=_
  simp[Sem.runT,pure,GStep.after,aM,tj,rQ,tryRecover,SM,G]
  exact tL P b.fn
 rw[SM] at hu
 cases hu
 rename_i v v' hv
 have:=h v' (.panicking [{v:=v',recovered:=true}]) (.inl hv) (.inr ⟨v',rfl⟩)
 rw[←mT] at this
 refine(hC main T hT).go rfl rfl (fun w=>?_) this
 rw[iq]
 simp only[stepG.apply,if_true]
 show GStep.after (seen P _ _) _=_
 simp[Sem.runT,pure,GStep.after,aM,tj,rQ,tryRecover,SM,G]
 exact tL P b.fn
end code
def jD:Code→List Code
 | .seq a b=>jD a++jD b
 |c=>[c]
def gp(K:Nat→St)(i:Nat)(s:St):Nat→St:=fun j=>if j=i then s else K j
theorem aG(K:Nat→St)(i:Nat)(s:St):gp K i s i=s:=by simp[gp]
theorem aK(K:Nat→St)(s:St)(h:j≠i):gp K i s j=K j:=by simp[gp,h]
structure Fit(L:Nat→Option Obj)(K:Nat→St)(w:World)(t:Trace):Prop where
 FO:∀b o,L b=some o→w.heap[b]?=some o
 ma:∀i b,(K i).jL b→L b=none
 kB:∀i,aU (K i) w
 sep:∀i j b,i≠j→(K i).jL b→¬(K j).knows b
 perm:∀i b,(K i).jL b→∀p x,touchAt t p=some x→blk x.loc=some b→Knows t i p
 sj:∀i b,(K i).ro b≠none→∀p x,touchAt t p=some x→blk x.loc=some b→x.write=true→Knows t i p
 old:∀p x b,touchAt t p=some x→blk x.loc=some b→b <w.heap.size
 clean:∀said,¬Race said t
 sync:∀p x b,touchAt t p=some x→x.kind≠ .plain→blk x.loc=some b→L b=none∧∀i,¬(K i).knows b
theorem lt_size{a:Array α}{x:α}(h:a[i]?=some x):i <a.size:=by
 rcases Nat.lt_or_ge i a.size with h'|h'
 ·exact h'
 rw[Array.getElem?_eq_none h'] at h;cases h
theorem bN{t:Trace}{x:Touch}(h:touchAt (t++u) p=some x):(p <t.size∧touchAt t p=some x)∨(t.size≤p∧∃op∈u,(t++u)[p]?=some op∧op.act.touch?=some x):=by
 rcases Nat.lt_or_ge p t.size with hp|hp
 ·exact .inl ⟨hp,by rw[←touchAt_old (u:=u) hp];exact h⟩
 obtain⟨op,ho,hx⟩:=touch_of h
 rcases getElem?_append_cases ho with ⟨h',_⟩| ⟨_,hm⟩
 ·omega
 exact .inr ⟨hp,op,hm,ho,hx⟩
theorem EU{es:Array Event}(h:∀e∈es,JF s n e){op:MemOp}(ho:op∈MemOp.ofEvents i fn pos es):
 op.g=i∧∀x,op.act.touch?=some x→x.kind= .plain∧∃b,blk x.loc=some b∧(n≤b∨s.jL b∨(x.write=false∧s.ro b≠none))∧∃e∈es,blk e.loc=some b:=by
 rw[ofEvents_eq] at ho
 obtain⟨e,he,rfl⟩:=Array.mem_map.1 ho
 refine⟨rfl,fun x hx=>?_⟩
 have hk:=h e he
 obtain⟨loc,wr,sy⟩:=e
 cases loc with
 |cell a=>
  obtain⟨h1,h2⟩:=hk
  simp only at h1 h2
  subst h1
  cases wr<;>(simp only[MemAct.ofEvent,MemAct.touch?,Option.some.injEq] at hx;subst hx;exact⟨rfl,_,rfl,h2,_,he,rfl⟩)
 |obj r=>
  obtain⟨h1,h2⟩:=hk
  simp only at h1 h2
  subst h1
  cases wr<;>(simp only[MemAct.ofEvent,MemAct.touch?,Option.some.injEq] at hx;subst hx;exact⟨rfl,_,rfl,h2,_,he,rfl⟩)
 |mark m=>
  cases m<;>simp only[JF,DG,Bool.false_eq_true] at hk<;>(cases hx)
 |_=>exact hk.elim
theorem DX{t:Trace}(hu:∀op∈u,op.g=i)(hp:t.size≤p){op:MemOp}(ho:(t++u)[p]?=some op):Knows (t++u) i p:=by
 rcases getElem?_append_cases ho with ⟨h',_⟩| ⟨_,hm⟩
 ·omega
 have:=knows_own ho
 rwa[hu op hm] at this
theorem Fit.own{L:Nat→Option Obj}{K:Nat→St}{w:World}{t:Trace}(h:Fit L K w t){es:Array Event}(ht:Trans (K i) w s' w' es)(fn:FuncId)(pos:String):
 Fit L (gp K i s') w' (t++MemOp.ofEvents i fn pos es):=by
 have hu:=fun op (ho:op∈MemOp.ofEvents i fn pos es)=>EU ht.wI ho
 have hg:∀op∈MemOp.ofEvents i fn pos es,op.g=i:=fun op ho=>(hu op ho).1
 have other:∀j b,j≠i→(K j).knows b→b <w.heap.size∧¬(K i).jL b:=fun j b hj hk=>by
  refine⟨?_,fun ho=>h.sep i j b (Ne.symm hj) ho hk⟩
  rcases hk with hk| ⟨o,hk⟩
  ·cases hr:(K j).ro b with
   |none=>exact absurd hr hk
   |some o=>exact(h.kB j).lt (.inl hr)
  exact(h.kB j).lt (.inr hk)
 have Zq:∀b o,L b=some o→b <w.heap.size:=fun b o hl=>lt_size (h.FO b o hl)
 refine⟨fun b o hl=>?_,fun j b ho=>?_,fun j=>?_,fun j k b Qh ho hk=>?_,fun j b ho p x hx hb=>?_,fun j b ho p x hx hb hw=>?_,fun p x b hx hb=>?_,fun said=>?_,fun p x b hx hk hb=>?_⟩
 ·rw[ht.frame b (Zq b o hl) (fun ho=>by have:=h.ma i b ho;rw[hl] at this;cases this)];exact h.FO b o hl
 ·by_cases hj:j=i
  ·subst hj
   rw[aG] at ho
   rcases ht.own b ho with h1|h1
   ·cases hl:L b with
    |none=>rfl
    |some o=>have:=Zq b o hl;omega
   exact h.ma j b h1
  rw[aK K s' hj] at ho;exact h.ma j b ho
 ·by_cases hj:j=i
  ·subst hj;rw[aG];exact ht.kB
  rw[aK K s' hj]
  have a:=h.kB j
  refine⟨fun b o hb=>?_,fun b o hb=>?_,a.nodup,a.apart⟩
  ·have:=other j b hj (.inl (by rw[hb];simp))
   rw[ht.frame b this.1 this.2];exact a.ro b o hb
  have:=other j b hj (.inr ⟨o,hb⟩)
  rw[ht.frame b this.1 this.2];exact a.rw b o hb
 ·by_cases hj:j=i
  ·subst hj
   rw[aG] at ho
   rw[aK K s' (Ne.symm Qh)] at hk
   have:=other k b (Ne.symm Qh) hk
   rcases ht.own b ho with h1|h1
   ·omega
   exact this.2 h1
  rw[aK K s' hj] at ho
  by_cases ky:k=i
  ·subst ky
   rw[aG] at hk
   have:=other j b hj (.inr ho)
   rcases hk with hk|hk
   ·rcases ht.NX b hk with h1|h1|h1
    ·omega
    ·exact h.sep j k b hj ho (.inl h1)
    exact this.2 h1
   rcases ht.own b hk with h1|h1
   ·omega
   exact this.2 h1
  rw[aK K s' ky] at hk
  exact h.sep j k b Qh ho hk
 ·rcases bN hx with ⟨hp,mz⟩| ⟨hp,op,hm,aC,zf⟩
  ·by_cases hj:j=i
   ·subst hj
    rw[aG] at ho
    rcases ht.own b ho with h1|h1
    ·exact absurd (h.old p x b mz hb) (by omega)
    exact(h.perm j b h1 p x mz hb).app _
   rw[aK K s' hj] at ho
   exact(h.perm j b ho p x mz hb).app _
  by_cases hj:j=i
  ·subst hj;exact DX hg hp aC
  rw[aK K s' hj] at ho
  obtain⟨_,b',mN,hc,e',yw,yY⟩:=(hu op hm).2 x zf
  obtain rfl:b'=b:=by rw[hb] at mN;exact(Option.some.inj mN).symm
  have:=other j b' hj (.inr ho)
  rcases hc with h1|h1|h1
  ·omega
  ·exact absurd h1 this.2
  exact absurd (.inl h1.2) (h.sep j i b' hj ho)
 ·rcases bN hx with ⟨hp,mz⟩| ⟨hp,op,hm,aC,zf⟩
  ·by_cases hj:j=i
   ·subst hj
    rw[aG] at ho
    rcases ht.NX b ho with h1|h1|h1
    ·exact absurd (h.old p x b mz hb) (by omega)
    ·exact(h.sj j b h1 p x mz hb hw).app _
    exact(h.perm j b h1 p x mz hb).app _
   rw[aK K s' hj] at ho
   exact(h.sj j b ho p x mz hb hw).app _
  by_cases hj:j=i
  ·subst hj;exact DX hg hp aC
  rw[aK K s' hj] at ho
  obtain⟨_,b',mN,hc,e',yw,yY⟩:=(hu op hm).2 x zf
  obtain rfl:b'=b:=by rw[hb] at mN;exact(Option.some.inj mN).symm
  have:=other j b' hj (.inl ho)
  rcases hc with h1|h1|h1
  ·omega
  ·exact absurd h1 this.2
  rw[h1.1] at hw;cases hw
 ·rcases bN hx with ⟨hp,mz⟩| ⟨hp,op,hm,aC,zf⟩
  ·exact Nat.lt_of_lt_of_le (h.old p x b mz hb) ht.size
  obtain⟨_,b',mN,hc,e',yw,yY⟩:=(hu op hm).2 x zf
  obtain rfl:b'=b:=by rw[hb] at mN;exact(Option.some.inj mN).symm
  exact ht.low e' yw b' yY
 case refine_9=>
  rcases bN hx with ⟨hp,mz⟩| ⟨hp,op,hm,aC,zf⟩
  ·have hs:=h.sync p x b mz hk hb
   refine⟨hs.1,fun j hj=>?_⟩
   by_cases e:j=i
   ·subst e
    rw[aG] at hj
    have cO:=h.old p x b mz hb
    rcases hj with hj|hj
    ·rcases ht.NX b hj with h1|h1|h1
     ·omega
     ·exact hs.2 j (.inl h1)
     exact hs.2 j (.inr h1)
    rcases ht.own b hj with h1|h1
    ·omega
    exact hs.2 j (.inr h1)
   rw[aK K s' e] at hj;exact hs.2 j hj
  exact absurd ((hu op hm).2 x zf).1 hk
 case refine_8=>
  refine noRace_append (h.clean said) hg fun p a ha op hm b hb hc=>?_
  obtain⟨hk,c,hbc,rP,_⟩:=(hu op hm).2 b hb
  have axM:blk a.loc=some c:=by rw[hc.1];exact hbc
  rcases rP with h1|h1|h1
  ·exact absurd (h.old p a c ha axM) (by omega)
  ·exact h.perm i c h1 p a ha axM
  refine h.sj i c h1.2 p a ha axM ?_
  rcases hc.2.2.1 with hw|hw
  ·exact hw
  rw[h1.1] at hw;cases hw
theorem Oj{said:Bool}{t:Trace}(h:¬Race said t)(hu:∀op∈u,op.act.touch?=none):¬Race said (t++u):=by
 rintro⟨i,j,JU,⟨a,b,ha,hb,hc⟩,n1,n2⟩
 obtain⟨y,hy,hyb⟩:=touch_of hb
 rcases getElem?_append_cases hy with ⟨hj,_⟩| ⟨_,hyu⟩
 ·have hi:i <t.size:=Nat.lt_trans JU hj
  exact h ⟨i,j,JU,⟨a,b,by rw[←act?_old (u:=u) hi];exact ha,by rw[←act?_old (u:=u) hj];exact hb,hc⟩,fun e=>n1 (hb_app u e),fun e=>n2 (hb_app u e)⟩
 rw[hu y hyu] at hyb;cases hyb
section
variable {L:Nat→Option Obj} {K:Nat→St} {w w':World} {t u:Trace}
theorem Fit.HZ(h:Fit L K w t)(hk:(K i).knows b):b <w.heap.size:=by
 rcases hk with hk| ⟨o,hk⟩
 ·cases hr:(K i).ro b with
  |none=>exact absurd hr hk
  |some o=>exact(h.kB i).lt (.inl hr)
 exact(h.kB i).lt (.inr hk)
theorem aU.congr(h:aU s w)(hf:∀b,s.knows b→w'.heap[b]?=w.heap[b]?):aU s w':=
 ⟨fun b o hb=>by rw[hf b (.inl (by rw[hb];simp))];exact h.ro b o hb,fun b o hb=>by rw[hf b (.inr ⟨o,hb⟩)];exact h.rw b o hb,h.nodup,h.apart⟩
theorem Fit.quiet(h:Fit L K w t)(B:Nat)(hB:∀j,¬(K j).knows B)(hBL:L B=none)(hs:w.heap.size≤w'.heap.size)(hf:∀b,b≠B→b <w.heap.size→w'.heap[b]?=w.heap[b]?)
 (hu:∀op∈u,op.act.touch?=none):Fit L K w' (t++u):=by
 have old:∀p x,touchAt (t++u) p=some x→touchAt t p=some x:=fun p x hx=>by
  rcases bN hx with ⟨_,h'⟩| ⟨_,op,hm,_,zf⟩
  ·exact h'
  rw[hu op hm] at zf;cases zf
 refine⟨fun b o hl=>?_,h.ma,fun i=>?_,h.sep,fun i b ho p x hx hb=>(h.perm i b ho p x (old p x hx) hb).app u,fun i b ho p x hx hb hw=>(h.sj i b ho p x (old p x hx) hb hw).app u,
  fun p x b hx hb=>Nat.lt_of_lt_of_le (h.old p x b (old p x hx) hb) hs,fun said=>Oj (h.clean said) hu,fun p x b hx hk hb=>h.sync p x b (old p x hx) hk hb⟩
 ·rw[hf b (fun e=>by rw[e,hBL] at hl;cases hl) (lt_size (h.FO b o hl))];exact h.FO b o hl
 exact(h.kB i).congr fun b hb=>hf b (fun e=>hB i (e▸hb)) (h.HZ hb)
theorem Fit.beside(h:Fit L K w t)(B i:Nat)(hB:∀j,¬(K j).knows B)(hBL:L B=none)(hBw:B <w.heap.size)(hs:w.heap.size≤w'.heap.size)(hf:∀b,b≠B→b <w.heap.size→w'.heap[b]?=w.heap[b]?)
 (hg:∀op∈u,op.g=i) (hu:∀op∈u,∀x,op.act.touch?=some x→blk x.loc=some B∧∀said p a,touchAt t p=some a→a.conflicts said x→Knows t i p):Fit L K w' (t++u):=by
 have old:∀b,b≠B→∀p x,touchAt (t++u) p=some x→blk x.loc=some b→touchAt t p=some x:=fun b dQ p x hx hb=>by
  rcases bN hx with ⟨_,h'⟩| ⟨_,op,hm,_,zf⟩
  ·exact h'
  have:=(hu op hm x zf).1
  rw[hb] at this;exact absurd (Option.some.inj this) dQ
 have ne:∀j b,(K j).knows b→b≠B:=fun j b hk e=>hB j (e▸hk)
 refine⟨fun b o hl=>?_,h.ma,fun i=>?_,h.sep,fun j b ho p x hx hb=>(h.perm j b ho p x (old b (ne j b (.inr ho)) p x hx hb) hb).app u,
  fun j b ho p x hx hb hw=>(h.sj j b ho p x (old b (ne j b (.inl ho)) p x hx hb) hb hw).app u,
  fun p x b hx hb=>?_,fun said=>noRace_append (h.clean said) hg fun p a ha op hm b hb hc=>(hu op hm b hb).2 said p a ha hc,fun p x b hx hk hb=>?_⟩
 ·rw[hf b (fun e=>by rw[e,hBL] at hl;cases hl) (lt_size (h.FO b o hl))];exact h.FO b o hl
 ·exact(h.kB i).congr fun b hb=>hf b (fun e=>hB i (e▸hb)) (h.HZ hb)
 ·by_cases e:b=B
  ·subst e;omega
  exact Nat.lt_of_lt_of_le (h.old p x b (old b e p x hx hb) hb) hs
 by_cases e:b=B
 ·subst e;exact⟨hBL,hB⟩
 exact h.sync p x b (old b e p x hx hb) hk hb
theorem St.le.jL(h:s.le s')(hb:s.jL b):s'.jL b:=by
 obtain⟨R,h1,_⟩:=h
 obtain⟨o,ho⟩:=hb
 exact⟨o,h1.mem_iff.2 (by simp[ho])⟩
theorem St.le.ro(h:s.le s')(hb:s.ro b≠none):s'.ro b≠none∨s'.jL b:=by
 obtain⟨R,h1,h2⟩:=h
 cases hr:s.ro b with
 |none=>exact absurd hr hb
 |some o=>
  rcases h2 b o hr with h3|h3
  ·exact .inl (by rw[h3];simp)
  exact .inr ⟨o,h1.mem_iff.2 (by simp[h3])⟩
theorem St.le.knows(h:s.le s')(hb:s.knows b):s'.knows b:=hb.elim (fun hr=>(h.ro hr).elim .inl .inr) fun ho=> .inr (h.jL ho)
theorem Fit.le{K':Nat→St}(h:Fit L K w t)(hK:∀i,(K' i).le (K i)):Fit L K' w t:=
 ⟨h.FO,fun i b ho=>h.ma i b ((hK i).jL ho),fun i=>(h.kB i).of_le (hK i),fun i j b JU ho hk=>h.sep i j b JU ((hK i).jL ho) ((hK j).knows hk),
  fun i b ho p x hx hb=>h.perm i b ((hK i).jL ho) p x hx hb,
  fun i b ho p x hx hb hw=>((hK i).ro ho).elim (fun hr=>h.sj i b hr p x hx hb hw) fun hr=>h.perm i b hr p x hx hb,h.old,h.clean,
  fun p x b hx hk hb=>⟨(h.sync p x b hx hk hb).1,fun i hi=>(h.sync p x b hx hk hb).2 i ((hK i).knows hi)⟩⟩
theorem Fit.hand(h:Fit L K w t)(JU:i≠j)(X Y:List (Nat×Obj))(hX:(K j).rw.Perm (X++Y))
 (hk:∀b o,(b,o)∈X→∀p x,touchAt t p=some x→blk x.loc=some b→Knows t i p):
 Fit L (gp (gp K j ⟨(K j).ro,Y⟩) i ⟨(K i).ro,X++(K i).rw⟩) w t:=by
 have jM:∀x,x∈X→x∈(K j).rw:=fun x hx=>hX.mem_iff.2 (by simp[hx])
 have aiz:∀x,x∈Y→x∈(K j).rw:=fun x hx=>hX.mem_iff.2 (by simp[hx])
 have mJ:(X.map (·.1)).Nodup∧(Y.map (·.1)).Nodup∧∀b o o',(b,o)∈X→(b,o')∈Y→False:=by
  have:=(hX.map (·.1)).nodup_iff.1 (h.kB j).nodup
  rw[List.map_append,List.nodup_append] at this
  exact⟨this.1,this.2.1,fun b o o' h1 h2=>this.2.2 b (List.mem_map.2 ⟨_,h1,rfl⟩) b (List.mem_map.2 ⟨_,h2,rfl⟩) rfl⟩
 have e1:gp (gp K j ⟨(K j).ro,Y⟩) i ⟨(K i).ro,X++(K i).rw⟩ i=⟨(K i).ro,X++(K i).rw⟩:=aG _ _ _
 have e2:gp (gp K j ⟨(K j).ro,Y⟩) i ⟨(K i).ro,X++(K i).rw⟩ j=⟨(K j).ro,Y⟩:=by rw[aK _ _ (Ne.symm JU),aG]
 have e3:∀k,k≠i→k≠j→gp (gp K j ⟨(K j).ro,Y⟩) i ⟨(K i).ro,X++(K i).rw⟩ k=K k:=fun k h1 h2=>by rw[aK _ _ h1,aK _ _ h2]
 have RD:∀b,(⟨(K i).ro,X++(K i).rw⟩:St).jL b→(∃o,(b,o)∈X)∨(K i).jL b:=fun b ⟨o,ho⟩=>(List.mem_append.1 ho).elim (fun h'=> .inl ⟨o,h'⟩) fun h'=> .inr ⟨o,h'⟩
 have Mu:∀b,(⟨(K j).ro,Y⟩:St).jL b→(K j).jL b∧¬ ∃o,(b,o)∈X:=fun b ⟨o,ho⟩=>⟨⟨o,aiz _ ho⟩,fun⟨o',h'⟩=>mJ.2.2 b o' o h' ho⟩
 have jX:∀b,(∃o,(b,o)∈X)→(K j).jL b:=fun b ⟨o,ho⟩=>⟨o,jM _ ho⟩
 have Oz:∀k b,k≠i→(gp (gp K j ⟨(K j).ro,Y⟩) i ⟨(K i).ro,X++(K i).rw⟩ k).knows b→(K k).knows b∧(k=j→¬ ∃o,(b,o)∈X):=fun k b ky hb=>by
  by_cases e:k=j
  ·subst e
   rw[e2] at hb
   rcases hb with hb|hb
   ·refine⟨.inl hb,fun _ ⟨o,ho⟩=>hb ((h.kB k).apart b o (jM _ ho))⟩
   exact⟨.inr (Mu b hb).1,fun _=>(Mu b hb).2⟩
  rw[e3 k ky e] at hb;exact⟨hb,fun e'=>absurd e' e⟩
 refine⟨h.FO,fun k b ho=>?_,fun k=>?_,fun k l b MU ho hb=>?_,fun k b ho p x hx hb=>?_,fun k b ho p x hx hb hw=>?_,h.old,h.clean,fun p x b hx ky hb=>⟨(h.sync p x b hx ky hb).1,fun k cv=>?_⟩⟩
 case refine_6=>
  have hs:=(h.sync p x b hx ky hb).2
  by_cases a:k=i
  ·subst a;rw[e1] at cv
   rcases cv with h'|h'
   ·exact hs k (.inl h')
   exact(RD b h').elim (fun h'=>hs j (.inr (jX b h'))) fun h'=>hs k (.inr h')
  exact hs k (Oz k b a cv).1
 ·by_cases a:k=i
  ·subst a;rw[e1] at ho
   exact(RD b ho).elim (fun h'=>h.ma j b (jX b h')) (h.ma k b)
  by_cases c:k=j
  ·subst c;rw[e2] at ho;exact h.ma k b (Mu b ho).1
  rw[e3 k a c] at ho;exact h.ma k b ho
 ·by_cases a:k=i
  ·subst a;rw[e1]
   refine⟨(h.kB k).ro,fun b o hb=>(List.mem_append.1 hb).elim (fun h'=>(h.kB j).rw b o (jM _ h')) ((h.kB k).rw b o),?_,fun b o hb=>?_⟩
   ·rw[List.map_append,List.nodup_append]
    refine⟨mJ.1,(h.kB k).nodup,?_⟩
    rintro b h1 _ h2 rfl
    obtain⟨⟨b1,o1⟩,m1,rfl⟩:=List.mem_map.1 h1
    obtain⟨⟨b2,o2⟩,m2,he⟩:=List.mem_map.1 h2
    simp only at he;subst he
    exact h.sep j k b2 (Ne.symm JU) (jX b2 ⟨o1,m1⟩) (.inr ⟨o2,m2⟩)
   rcases List.mem_append.1 hb with h'|h'
   ·cases hr:(K k).ro b with
    |none=>rfl
    |some y=>exact absurd (.inl (by rw[hr];simp)) (h.sep j k b (Ne.symm JU) (jX b ⟨o,h'⟩))
   exact(h.kB k).apart b o h'
  by_cases c:k=j
  ·subst c;rw[e2]
   exact⟨(h.kB k).ro,fun b o hb=>(h.kB k).rw b o (aiz _ hb),mJ.2.1,fun b o hb=>(h.kB k).apart b o (aiz _ hb)⟩
  rw[e3 k a c];exact h.kB k
 ·by_cases a:k=i
  ·subst a
   rw[e1] at ho
   have ky:=Oz l b (Ne.symm MU) hb
   rcases RD b ho with h'|h'
   ·by_cases c:l=j
    ·exact ky.2 c h'
    exact h.sep j l b (Ne.symm c) (jX b h') ky.1
   exact h.sep k l b MU h' ky.1
  have GI:(K k).jL b∧(k=j→¬ ∃o,(b,o)∈X):=by
   by_cases c:k=j
   ·subst c;rw[e2] at ho;exact⟨(Mu b ho).1,fun _=>(Mu b ho).2⟩
   rw[e3 k a c] at ho;exact⟨ho,fun e=>absurd e c⟩
  by_cases c:l=i
  ·subst c
   rw[e1] at hb
   rcases hb with hb|hb
   ·exact h.sep k l b MU GI.1 (.inl hb)
   rcases RD b hb with h'|h'
   ·by_cases d:k=j
    ·exact GI.2 d h'
    exact h.sep k j b d GI.1 (.inr (jX b h'))
   exact h.sep k l b MU GI.1 (.inr h')
  exact h.sep k l b MU GI.1 (Oz l b c hb).1
 ·by_cases a:k=i
  ·subst a;rw[e1] at ho
   exact(RD b ho).elim (fun⟨o,h'⟩=>hk b o h' p x hx hb) fun h'=>h.perm k b h' p x hx hb
  by_cases c:k=j
  ·subst c;rw[e2] at ho;exact h.perm k b (Mu b ho).1 p x hx hb
  rw[e3 k a c] at ho;exact h.perm k b ho p x hx hb
 by_cases a:k=i
 ·subst a;rw[e1] at ho;exact h.sj k b ho p x hx hb hw
 by_cases c:k=j
 ·subst c;rw[e2] at ho;exact h.sj k b ho p x hx hb hw
 rw[e3 k a c] at ho;exact h.sj k b ho p x hx hb hw
theorem Fit.share(h:Fit L K w t)(yt:i≠n)(s:St)(hrw:s.rw=[])(BY:∀b o,s.ro b=some o→(K i).ro b=some o)
 (hk:∀b,s.ro b≠none→∀p x,touchAt t p=some x→blk x.loc=some b→x.write=true→Knows t n p):Fit L (gp K n s) w t:=by
 have no:∀b,¬s.jL b:=fun b ⟨o,ho⟩=>by rw[hrw] at ho;cases ho
 have kn:∀b,s.ro b≠none→(K i).ro b≠none:=fun b hb=>by
  cases hr:s.ro b with
  |none=>exact absurd hr hb
  |some o=>rw[BY b o hr];simp
 refine⟨h.FO,fun k b ho=>?_,fun k=>?_,fun k l b MU ho hb=>?_,fun k b ho p x hx hb=>?_,fun k b ho p x hx hb hw=>?_,h.old,h.clean,fun p x b hx ky hb=>⟨(h.sync p x b hx ky hb).1,fun k cv=>?_⟩⟩
 case refine_6=>
  have hs:=(h.sync p x b hx ky hb).2
  by_cases a:k=n
  ·subst a;rw[aG] at cv;exact hs i (.inl (kn b (cv.resolve_right (no b))))
  rw[aK _ _ a] at cv;exact hs k cv
 ·by_cases a:k=n
  ·subst a;rw[aG] at ho;exact absurd ho (no b)
  rw[aK _ _ a] at ho;exact h.ma k b ho
 ·by_cases a:k=n
  ·subst a;rw[aG];exact⟨fun b o hb=>(h.kB i).ro b o (BY b o hb),fun b o hb=>absurd ⟨o,hb⟩ (no b),by rw[hrw];simp,fun b o hb=>absurd ⟨o,hb⟩ (no b)⟩
  rw[aK _ _ a];exact h.kB k
 ·by_cases a:k=n
  ·subst a;rw[aG] at ho;exact no b ho
  rw[aK _ _ a] at ho
  by_cases c:l=n
  ·subst c;rw[aG] at hb
   have hr:=kn b (hb.resolve_right (no b))
   by_cases d:k=i
   ·subst d
    obtain⟨o,ho⟩:=ho
    exact hr ((h.kB k).apart b o ho)
   exact h.sep k i b d ho (.inl hr)
  rw[aK _ _ c] at hb;exact h.sep k l b MU ho hb
 ·by_cases a:k=n
  ·subst a;rw[aG] at ho;exact absurd ho (no b)
  rw[aK _ _ a] at ho;exact h.perm k b ho p x hx hb
 by_cases a:k=n
 ·subst a;rw[aG] at ho;exact hk b ho p x hx hb hw
 rw[aK _ _ a] at ho;exact h.sj k b ho p x hx hb hw
theorem Fit.alone(h:Fit L K w t)(hK:∀j,j≠i→∀b,¬(K j).knows b)(s:St)(ha:aU s w)
 (yt:∀b,s.knows b→L b≠none∨(K i).knows b)(ky:∀b,s.knows b→∀p x,touchAt t p=some x→x.kind= .plain→blk x.loc=some b→Knows t i p):
 Fit (fun _=>none) (gp K i s) w t:=by
 have aE8:∀b,s.knows b→∀p x,touchAt t p=some x→blk x.loc=some b→x.kind= .plain:=fun b hb p x hx hxb=>by
  by_cases e:x.kind= .plain
  ·exact e
  have hs:=h.sync p x b hx e hxb
  exact((yt b hb).elim (fun h'=>h' hs.1) fun h'=>hs.2 i h').elim
 have hk:∀b,s.knows b→∀p x,touchAt t p=some x→blk x.loc=some b→Knows t i p:=fun b hb p x hx hxb=>ky b hb p x hx (aE8 b hb p x hx hxb) hxb
 refine⟨fun b o hl=>((by cases hl)),fun _ _ _=>rfl,fun k=>?_,fun k l b MU ho hb=>?_,fun k b ho p x hx hb=>?_,fun k b ho p x hx hb hw=>?_,h.old,h.clean,fun p x b hx hkd hb=>⟨rfl,fun k cv=>?_⟩⟩
 case refine_5=>
  by_cases a:k=i
  ·subst a;rw[aG] at cv;exact hkd (aE8 b cv p x hx hb)
  rw[aK _ _ a] at cv;exact hK k a b cv
 ·by_cases a:k=i
  ·subst a;rw[aG];exact ha
  rw[aK _ _ a];exact h.kB k
 ·by_cases a:k=i
  ·rw[aK _ _ (fun e=>MU (a.trans e.symm))] at hb;exact hK l (fun e=>MU (a.trans e.symm)) b hb
  rw[aK _ _ a] at ho;exact hK k a b (.inr ho)
 ·by_cases a:k=i
  ·subst a;rw[aG] at ho;exact hk b (.inr ho) p x hx hb
  rw[aK _ _ a] at ho;exact absurd (.inr ho) (hK k a b)
 by_cases a:k=i
 ·subst a;rw[aG] at ho;exact hk b (.inl ho) p x hx hb
 rw[aK _ _ a] at ho;exact absurd (.inl ho) (hK k a b)
end
inductive Tree:Type
 |leaf
 |node (f:World→Tree)
inductive Tree.Lt:Tree→Tree→Prop
 |mk (f:World→Tree) (w:World):Tree.Lt (f w) (.node f)
theorem Tree.wf:WellFounded Tree.Lt:=by
 refine⟨fun t=>?_⟩
 induction t with
 |leaf=>exact⟨_,fun y h=>(by cases h)⟩
 |node f ih=>exact⟨_,fun y h=>by cases h;exact ih _⟩
def pq(P:Program)(main:Bool)(Stop:Goroutine→St→Prop):Tree→Goroutine→St→Prop
 | .leaf,g,s=>Stop g s
 | .node f,g,s=>g.status= .running∧∀w,aU s w→∃g' w' es s',stepG P main g w= .go g' w' es∧g'.status= .running∧Trans s w s' w' es∧pq P main Stop (f w) g' s'
theorem St.le.trans{a b c:St}(h:a.le b)(k:b.le c):a.le c:=by
 obtain⟨R,h1,h2⟩:=h
 obtain⟨R',k1,k2⟩:=k
 refine⟨R++R',?_,fun x o hx=>?_⟩
 ·rw[←List.append_assoc];exact k1.trans (h1.append_right R')
 rcases h2 x o hx with h3|h3
 ·exact(k2 x o h3).imp id fun h'=>by simp[h']
 exact .inr (by simp[h3])
theorem Trans.le{w:World}{es:Array Event}(h:Trans s w s' w' es)(hl:iR.le s'):Trans s w iR w' es:=
 ⟨h.kB.of_le hl,h.size,h.frame,fun b hb=>h.own b (hl.jL hb),fun b hb=>(hl.ro hb).elim (h.NX b) fun ho=>(h.own b ho).imp id .inr,h.os,h.output,h.tape,h.wI,h.low⟩
def fo(P:Program)(main:Bool)(Stop:Goroutine→St→Prop)(g:Goroutine)(s:St):Prop:=∃tr iR,iR.le s∧pq P main Stop tr g iR
theorem ei(P:Program)(main:Bool)(Stop:Goroutine→St→Prop):Closed P main (fo P main Stop) where
 step:=fun g s hs h=>by
  have key:∀w,∃tr,aU s w→∃g' w' es s',stepG P main g w= .go g' w' es∧g'.status= .running∧Trans s w s' w' es∧pq P main Stop tr g' s':=fun w=>by
   by_cases ha:aU s w
   ·obtain⟨g',w',es,s',h1,h2,h3,tr,iR,hl,h4⟩:=h w ha
    exact⟨tr,fun _=>⟨g',w',es,iR,h1,h2,h3.le hl,h4⟩⟩
   exact⟨.leaf,fun v9=>absurd v9 ha⟩
  refine⟨.node fun w=>(key w).choose,s,St.le_refl s,hs,fun w ha=>(key w).choose_spec ha⟩
 mono:=fun g s s' hl ⟨tr,iR,h,ht⟩=>⟨tr,iR,h.trans hl,ht⟩
theorem fo.stop{Stop:Goroutine→St→Prop}(h:Stop g s):fo P main Stop g s:=⟨.leaf,s,St.le_refl s,h⟩
section
variable {α:Type}
inductive One(r:α→α→Prop):List α→List α→Prop
 |mk (a:List α) (x y:α) (b:List α):r y x→One r (a++y::b) (a++x::b)
theorem One.cons_inv{r:α→α→Prop}{x:α}{l m:List α}(h:One r m (x::l)):(∃y,m=y::l∧r y x)∨∃l',m=x::l'∧One r l' l:=by
 generalize hk:x::l=k at h
 obtain⟨a,u,v,b,hr⟩:=h
 cases a with
 |nil=>simp only[List.nil_append,List.cons.injEq] at hk;obtain⟨rfl,rfl⟩:=hk;exact .inl ⟨v,rfl,hr⟩
 |cons c a=>simp only[List.cons_append,List.cons.injEq] at hk;obtain⟨rfl,rfl⟩:=hk;exact .inr ⟨_,rfl,.mk a u v b hr⟩
theorem One.acc{r:α→α→Prop}:∀l:List α,(∀x∈l,Acc r x)→Acc (One r) l
 | [],_=>⟨_,fun m h=>by
  generalize hk:([]:List α)=k at h
  obtain⟨a,u,v,b,hr⟩:=h
  cases a<;>simp at hk⟩
 |x::l,h=>by
  have hl:=One.acc l fun y hy=>h y (List.mem_cons_of_mem _ hy)
  have hx:=h x (List.mem_cons_self ..)
  clear h
  induction hx generalizing l with
  |intro x hx ihx=>
   clear hx
   induction hl with
   |intro l hl ihl=>
    refine⟨_,fun m hm=>?_⟩
    rcases hm.cons_inv with ⟨y,rfl,hr⟩| ⟨l',rfl,hr⟩
    ·exact ihx y hr l ⟨_,hl⟩
    exact ihl l' hr
theorem One.wf{r:α→α→Prop}(h:WellFounded r):WellFounded (One r):=⟨fun l=>One.acc l fun x _=>h.apply x⟩
theorem One.set{r:α→α→Prop}{l:List α}{x y:α}(h:l[i]?=some x) (hr:r y x):One r (l.set i y) l:=by
 obtain⟨hi,rfl⟩:=List.getElem?_eq_some_iff.1 h
 have e1:l=l.take i++l[i]::l.drop (i+1):=by
  rw[List.getElem_cons_drop,List.take_append_drop]
 have e2:l.set i y=l.take i++y::l.drop (i+1):=by
  rw[List.set_eq_take_append_cons_drop,if_pos hi]
 rw[e2]
 conv=>rhs;rw[e1]
 exact .mk _ _ _ _ hr
end
open Go.ConcR (KK wgBlock WgAt stA smA rd wr)
abbrev said(m:Mark):Event:=Go.ConcR.mk m
def Pure(P:Program)(main:Bool)(Live:World→Prop)(Stop:Goroutine→Prop):Nat→Goroutine→Prop
 |0,g=>Stop g
 |n+1,g=>g.status= .running∧∃g',(∀w,Live w→stepG P main g w= .go g' w #[])∧Pure P main Live Stop n g'
structure eg(ι:Type) where
 P:Program
 ty:TypeId
 Wg:Nat
 Ch:Nat
 max:Nat
 z:Value
 os:Os
 out:Array (Nat×ByteArray)
 X5:ι→Value→List (Nat×Obj)→Prop
section
variable {ι:Type} (E:eg ι)
def eg.live(w:World):Prop:=∃st sm,WgAt E.ty E.Wg w st sm
def eg.pure(main:Bool)(Stop:Goroutine→Prop)(g:Goroutine):Prop:=∃n,Pure E.P main E.live Stop n g
def eg.D4(g:Goroutine):Prop:=g.status= .running∧mayWake E.P g=true∧∃g',(∀w,WgAt E.ty E.Wg w 0 0→stepG E.P false g w= .go g' (w.setCell (smA E.Wg) (.int .u32 1)) (semEvents (smA E.Wg)))∧∃q,QuitsD E.P q 1 g'
def eg.D3(g:Goroutine):Prop:=g.status= .running∧∃g',(∀w,WgAt E.ty E.Wg w 1 0→stepG E.P false g w= .go g' (w.setCell (stA E.Wg) (.int .u64 0)) #[wr (stA E.Wg)])∧E.pure false E.D4 g'
def eg.D2(g:Goroutine):Prop:=g.status= .running∧∃g',(∀w,WgAt E.ty E.Wg w 1 0→stepG E.P false g w= .go g' w #[rd (stA E.Wg)])∧E.pure false E.D3 g'
def eg.D1(g:Goroutine):Prop:=g.status= .running∧∀v wt:Nat,wt≤1→v <E.max→
 ∃g',(∀w,WgAt E.ty E.Wg w (((v+1:Nat):Int)*KK+(wt:Int)) 0→stepG E.P false g w= .go g' (w.setCell (stA E.Wg) (.int .u64 ((v:Int)*KK+(wt:Int)))) #[rd (stA E.Wg),wr (stA E.Wg)])∧
  ((v=0∧wt=1)→E.pure false E.D2 g')∧(¬(v=0∧wt=1)→∃q,QuitsD E.P q 1 g')
def eg.K1(g:Goroutine):Prop:=g.status= .running∧∃g',(∀w,stepG E.P false g w= .go g' w #[said .disable])∧E.pure false E.D1 g'
def eg.R0(g:Goroutine):Prop:=g.status= .running∧∃g',(∀w,stepG E.P false g w= .go g' w #[said (.releaseMerge (stA E.Wg))])∧E.pure false E.K1 g'
def eg.JG(g:Goroutine)(_:St):Prop:=E.pure false E.R0 g
def eg.La(o:ι)(g:Goroutine)(s:St):Prop:=g.status= .running∧∃q6 v zs X Y,s.rw.Perm (X++Y)∧E.X5 o v X∧
 (∀w,aU s w→stepG E.P false g w= .comm q6 #[scase E.Ch v zs] true .send w #[])∧∃tr iR,iR.le ⟨s.ro,Y⟩∧pq E.P false E.JG tr (Conc.served q6 undef) iR
def eg.K0(g:Goroutine)(_:St):Prop:=g.status= .running∧mayWake E.P g=true∧
 ∃g',(∀w s r tm,w.heap[E.Ch]?=some (.chan 0 #[] false s r tm)→stepG E.P false g w= .go g' {w with heap:=w.heap.setIfInBounds E.Ch (.chan 0 #[] true s r tm)} #[⟨.obj E.Ch,false,true⟩,⟨.obj E.Ch,true,true⟩])∧∃q,QuitsD E.P q 0 g'
def eg.Aq(s:St)(g:Goroutine):Prop:=g.status= .running∧∃g',(∀w,stepG E.P false g w= .go g' w #[said (.acquire (stA E.Wg))])∧∃tr iR,iR.le s∧pq E.P false E.K0 tr g' iR
def eg.Ke(s:St)(g:Goroutine):Prop:=g.status= .running∧∃g',(∀w,stepG E.P false g w= .go g' w #[said .enable])∧E.pure false (E.Aq s) g'
def eg.W4(s:St)(g:Goroutine):Prop:=g.status= .running∧∃g',(∀w,WgAt E.ty E.Wg w 0 0→stepG E.P false g w= .go g' w #[rd (stA E.Wg)])∧E.pure false (E.Ke s) g'
def eg.W3(s:St)(g:Goroutine):Prop:=g.status= .running∧g.offers=none∧(∀w st,WgAt E.ty E.Wg w st 0→stepG E.P false g w= .go {g with status:= .blocked} w #[])∧
 ∃g',(∀w,WgAt E.ty E.Wg w 0 1→stepG E.P false g w= .go g' (w.setCell (smA E.Wg) (.int .u32 0)) (semEvents (smA E.Wg)))∧E.pure false (E.W4 s) g'
def eg.Wr(s:St)(g:Goroutine):Prop:=g.status= .running∧∃g',(∀w,stepG E.P false g w= .go g' w #[said (.write (smA E.Wg))])∧E.pure false (E.W3 s) g'
def eg.W2(alE:Goroutine→Prop)(s:St)(vs:Nat)(g:Goroutine):Prop:=g.status= .running∧
 (∃g',(∀w,WgAt E.ty E.Wg w ((vs:Int)*KK) 0→stepG E.P false g w= .go g' (w.setCell (stA E.Wg) (.int .u64 ((vs:Int)*KK+1))) #[rd (stA E.Wg),wr (stA E.Wg)])∧E.pure false (E.Wr s) g')∧
 ∀v:Nat,v <vs→∃g',(∀w,WgAt E.ty E.Wg w ((v:Int)*KK) 0→stepG E.P false g w= .go g' w #[rd (stA E.Wg)])∧alE g'
def eg.W1(E:eg ι)(s:St):Nat→Goroutine→Prop
 |0,g=>g.status= .running∧∃g',(∀w,WgAt E.ty E.Wg w 0 0→stepG E.P false g w= .go g' w #[rd (stA E.Wg)])∧E.pure false (E.Ke s) g'
 |b+1,g=>g.status= .running∧(∃g',(∀w,WgAt E.ty E.Wg w 0 0→stepG E.P false g w= .go g' w #[rd (stA E.Wg)])∧E.pure false (E.Ke s) g')∧
  ∀v,1≤v→v≤b+1→∃g',(∀w,WgAt E.ty E.Wg w ((v:Int)*KK) 0→stepG E.P false g w= .go g' w #[rd (stA E.Wg)])∧E.pure false (E.W2 (E.pure false (E.W1 s b)) s v) g'
def eg.Kd(s:St)(g:Goroutine):Prop:=g.status= .running∧∃g',(∀w,stepG E.P false g w= .go g' w #[said .disable])∧E.pure false (E.W1 s E.max) g'
def eg.closes(s:St)(g:Goroutine):Prop:=E.pure false (E.Kd s) g
inductive WK where
 |r0|k1|d1|d2|d3|d4
inductive aw(ι:Type) where
 |leave (q d:Nat) (cur:Bool)
 |work (o:ι) (tr:Tree)
 |ij (o:ι)
 |back (tr:Tree)
 |st (k:WK) (n:Nat)
 |closer
def WK.stop:WK→Goroutine→Prop
 | .r0=>E.R0| .k1=>E.K1| .d1=>E.D1| .d2=>E.D2| .d3=>E.D3| .d4=>E.D4
def WK.deaf:WK→Nat
 | .r0| .k1=>0
 |_=>1
def WK.said:WK→Bool
 | .r0=>false
 |_=>true
def WK.N3:WK→Nat
 | .r0=>6| .k1=>5| .d1=>4| .d2=>3| .d3=>2| .d4=>1
inductive CK where
 |kd|w1 (b:Nat)|w2 (b vs:Nat)|wr|w3|blk|w4|ke|aq|run (tr:Tree)
def CK.deaf:CK→Nat
 | .kd| .aq| .run _=>0
 |_=>1
def eJ(t:Trace)(i:Nat):Prop:=∀p,t.g? p=some i→t.counts p→∃j,t.g? j=some 0∧HappensBefore t p j
def oA(t:Trace)(i:Nat)(s:St)(g:Goroutine):aw ι→Prop
 | .leave q d cur=>s=⟨fun _=>none,[]⟩∧QuitsD E.P q d g∧Deaf t i=d∧(cur=true→∃r,ConcN.RelBy (stA E.Wg) t i r)∧(cur=false→eJ t i)
 | .work o tr=>Deaf t i=0∧pq E.P false (E.La o) tr g s
 | .ij o=>Deaf t i=0∧∃wB q6 v zs X Y,g=parked q6 #[scase E.Ch v zs] .send∧s.rw.Perm (X++Y)∧E.X5 o v X∧wB=q6∧∃tr iR,iR.le ⟨s.ro,Y⟩∧pq E.P false E.JG tr (Conc.served q6 undef) iR
 | .back tr=>Deaf t i=0∧pq E.P false E.JG tr g s
 | .st k n=>s=⟨fun _=>none,[]⟩∧Deaf t i=k.deaf∧Pure E.P false E.live (k.stop E) n g∧(k.said=true→∃r,ConcN.RelBy (stA E.Wg) t i r)
 | .closer=>True
def CK.at(s:St)(g:Goroutine)(n:Nat):CK→Prop
 | .kd=>Pure E.P false E.live (E.Kd s) n g
 | .w1 b=>Pure E.P false E.live (E.W1 s b) n g
 | .w2 b vs=>Pure E.P false E.live (E.W2 (E.pure false (E.W1 s b)) s vs) n g
 | .wr=>Pure E.P false E.live (E.Wr s) n g
 | .w3=>∃m,n=m+1∧Pure E.P false E.live (E.W3 s) m g
 | .blk=>n=0∧∃wB,E.W3 s wB∧g={wB with status:= .blocked}
 | .w4=>Pure E.P false E.live (E.W4 s) n g
 | .ke=>Pure E.P false E.live (E.Ke s) n g
 | .aq=>Pure E.P false E.live (E.Aq s) n g
 | .run tr=>n=0∧pq E.P false E.K0 tr g s
end
section
variable {ι:Type} {E:eg ι} {t u:Trace} {i j:Nat} {s:St} {g:Goroutine}
theorem Pure.running{Live:World→Prop}(hS:∀g,Stop g→g.status= .running):∀ {n:Nat} {g:Goroutine},Pure P main Live Stop n g→g.status= .running
 |0,_,h=>hS _ h
 |_+1,_,h=>h.1
theorem eg.pure.running(hS:∀g,Stop g→g.status= .running)(h:E.pure main Stop g):g.status= .running:=Pure.running hS h.choose_spec
theorem WK.running:∀(k:WK) (g:Goroutine),k.stop E g→g.status= .running
 | .r0,_,h=>h.1
 | .k1,_,h=>h.1
 | .d1,_,h=>h.1
 | .d2,_,h=>h.1
 | .d3,_,h=>h.1
 | .d4,_,h=>h.1
theorem pq.running{Stop:Goroutine→St→Prop}(hS:∀g s,Stop g s→g.status= .running):∀ {tr:Tree} {g:Goroutine} {s:St},pq P main Stop tr g s→g.status= .running
 | .leaf,_,_,h=>hS _ _ h
 | .node _,_,_,h=>h.1
theorem eJ.other(h:eJ t j)(hu:∀op∈u,op.g≠j):eJ (t++u) j:=by
 intro p hp hc
 obtain⟨op,ho,hg⟩:=Option.map_eq_some_iff.1 hp
 rcases getElem?_append_cases ho with ⟨cO,_⟩| ⟨_,hm⟩
 ·obtain⟨q,h1,h2⟩:=h p (by rw[←g?_old (u:=u) cO];exact hp) ((counts_old cO).1 hc)
  have hq:q <t.size:=by
   obtain⟨o,ho,_⟩:=Option.map_eq_some_iff.1 h1
   exact lt_size_of_getElem? ho
  exact⟨q,by rw[g?_old hq];exact h1,hb_app u h2⟩
 exact absurd hg (hu op hm)
theorem RelBy.other{a:Addr}{r:Nat}(h:ConcN.RelBy a t j r)(hu:∀op∈u,op.g≠j):ConcN.RelBy a (t++u) j r:=by
 refine h.app fun p hp hg=>?_
 obtain⟨op,ho,hgo⟩:=Option.map_eq_some_iff.1 hg
 rcases getElem?_append_cases ho with ⟨cO,_⟩| ⟨_,hm⟩
 ·omega
 exact absurd hgo (hu op hm)
theorem iF(t:Trace){g:Nat}(u:Trace)(hu:∀op∈u,op.g≠g):Deaf (t++u) g=Deaf t g:=by
 obtain⟨l⟩:=u
 rw[Deaf_append]
 induction l generalizing t with
 |nil=>rfl
 |cons y l ih=>
  have hy:y.g≠g:=hu y (by simp)
  have e1:deafStep g (Deaf t g) y=Deaf t g:=by
   unfold deafStep
   split<;>simp[hy]
  rw[List.foldl_cons,e1]
  exact ih t (fun op aC=>hu op (by simp at aC ⊢;exact .inr aC))
theorem oA.other{r:aw ι}(h:oA E t j s g r)(hu:∀op∈u,op.g≠j):oA E (t++u) j s g r:=by
 have hd:=iF t u hu
 cases r with
 |leave q d cur=>exact⟨h.1,h.2.1,by rw[hd];exact h.2.2.1,fun hc=>let ⟨r,hr⟩:=h.2.2.2.1 hc;⟨r,RelBy.other hr hu⟩,fun hc=>(h.2.2.2.2 hc).other hu⟩
 |work o tr=>exact⟨by rw[hd];exact h.1,h.2⟩
 |ij o=>exact⟨by rw[hd];exact h.1,h.2⟩
 |back tr=>exact⟨by rw[hd];exact h.1,h.2⟩
 |st k n=>exact⟨h.1,by rw[hd];exact h.2.1,h.2.2.1,fun hc=>let ⟨r,hr⟩:=h.2.2.2 hc;⟨r,RelBy.other hr hu⟩⟩
 |closer=>trivial
theorem oA.running{r:aw ι}(h:oA E t j s g r)(h1:∀o,r≠ .ij o)(h2:r≠ .closer):g.status= .running∨g.status= .finished:=by
 cases r with
 |leave q d cur=>exact h.2.1.status
 |work o tr=>exact .inl (pq.running (fun _ _ x=>x.1) h.2)
 |ij o=>exact absurd rfl (h1 o)
 |back tr=>exact .inl (pq.running (fun _ _ x=>eg.pure.running (fun _ y=>y.1) x) h.2)
 |st k n=>exact .inl (Pure.running (WK.running k) h.2.2.1)
 |closer=>exact absurd rfl h2
theorem oA.woken{r:aw ι}(h:oA E t j s g r)(h2:r≠ .closer){a a':Goroutine}(ho:(∃o,r= .ij o)→∃sn rc tm,w'.heap[E.Ch]?=some (.chan 0 #[] false sn rc tm)):
 woken E.P a a' w' g=g:=by
 by_cases hb:∃o,r= .ij o
 ·obtain⟨sn,rc,tm,hc⟩:=ho hb
  obtain⟨o,rfl⟩:=hb
  obtain⟨_,wB,q6,v,zs,X,Y,rfl,_⟩:=h
  exact woken_send_open a a' hc
 have:=h.running (fun o e=>hb ⟨o,e⟩) h2
 unfold Go.Conc.woken
 split
 ·exact again_running _ this
 rfl
def X6(w w':World):Prop:=w'.os=w.os∧w'.output=w.output
structure Base(E:eg ι)(L:Nat→Option Obj)(K:Nat→St)(gs:Array Goroutine)(w:World)(t:Trace)(D:List (aw ι)):Prop where
 fit:Fit L K w t
 size:gs.size=D.length+1
 ok:∀i r,D[i]?=some r→∃g,gs[i+1]?=some g∧oA E t (i+1) (K (i+1)) g r
 far:∀i,gs.size≤i→∀b,¬(K i).knows b
 ops:∀op∈t,op.g <gs.size
 same:w.os=E.os∧w.output=E.out
theorem gJ{k:Nat}{x:Goroutine}(hki:k≠i)(hk:gs[k]?=some x):((gs.map (woken P g g' w')).setIfInBounds i g')[k]?=some (woken P g g' w' x):=by
 rw[Array.getElem?_setIfInBounds_ne (Ne.symm hki)];simp[hk]
theorem Base.step{L:Nat→Option Obj}{K:Nat→St}{w:World}{D:List (aw ι)}(h:Base E L K gs w t D){r':aw ι}(hi:i <D.length) 
 (hu:∀op∈u,op.g=i+1)(OQ:X6 w w')(n8:Fit L (gp K (i+1) s') w' (t++u))(hr:oA E (t++u) (i+1) s' g' r')
 (ho:∀(k:Nat) (o:ι),k≠i→D[k]?=some (.ij o)→∃sn rc tm,w'.heap[E.Ch]?=some (.chan 0 #[] false sn rc tm)):
 Base E L (gp K (i+1) s') ((gs.map (woken E.P g g' w')).setIfInBounds (i+1) g') w' (t++u) (D.set i r'):=by
 refine⟨n8,by simp[h.size],fun k r hk=>?_,fun k hk=>?_,fun op aC=>?_,⟨OQ.1.trans h.same.1,OQ.2.trans h.same.2⟩⟩
 ·by_cases e:k=i
  ·subst e
   have lD:r=r':=by simpa [List.getElem?_set,hi] using hk.symm
   subst lD
   exact⟨g',by simp[h.size,hi],by rw[aG];exact hr⟩
  rw[List.getElem?_set_ne (Ne.symm e)] at hk
  obtain⟨x,hx,fL⟩:=h.ok k r hk
  have dQ:k+1≠i+1:=by omega
  rw[aK K s' dQ]
  have acu:=fL.other (u:=u) fun op aC=>by rw[hu op aC];omega
  by_cases hc:r= .closer
  ·subst hc;exact⟨_,gJ dQ hx,trivial⟩
  refine⟨x,?_,acu⟩
  rw[gJ dQ hx,fL.woken hc fun⟨o,e'⟩=>ho k o e (e'▸hk)]
 ·rw[Array.size_setIfInBounds,Array.size_map] at hk
  rw[aK K s' (by have:=h.size;omega)]
  exact h.far k hk
 rw[Array.size_setIfInBounds,Array.size_map]
 rcases Array.mem_append.1 aC with h'|h'
 ·exact h.ops op h'
 rw[hu op h',h.size];omega
end
def aw.cnt:aw ι→Nat
 | .work .. | .ij _| .back _| .st .r0 _| .st .k1 _| .st .d1 _=>1
 |_=>0
def aw.c4:aw ι→Nat
 | .st .d2 _=>1
 |_=>0
def aw.c3:aw ι→Nat
 | .st .d3 _=>1
 |_=>0
def aw.c2:aw ι→Nat
 | .st .d4 _=>1
 |_=>0
def aw.Zc:aw ι→Option ι
 | .work o _| .ij o=>some o
 |_=>none
def aw.early:aw ι→Prop
 | .leave _ _ c=>c=false
 | .work .. | .ij _=>True
 |_=>False
def aw.cur:aw ι→Bool
 | .leave _ _ c=>c
 |_=>false
def aw.left:aw ι→Bool
 | .leave .. =>true
 |_=>false
def fM(f:aw ι→Nat)(D:List (aw ι)):Nat:=(D.map f).sum
theorem ko(f:aw ι→Nat){x y:aw ι}:∀ {D:List (aw ι)} {i:Nat},D[i]?=some x→fM f (D.set i y)+f x=fM f D+f y
 | [],i,h=>by simp at h
 |a::D,0,h=>by simp only[List.getElem?_cons_zero,Option.some.injEq] at h;subst h;simp[fM];omega
 |a::D,i+1,h=>by
  have:=ko f (y:=y) (D:=D) (i:=i) (by simpa using h)
  simp only[fM,List.set_cons_succ,List.map_cons,List.sum_cons] at this ⊢;omega
def CK.early:CK→Prop
 | .kd| .w1 _| .w2 .. | .wr=>True
 |_=>False
def CK.waits:CK→Prop
 | .wr| .w3| .blk=>True
 |_=>False
def CK.over:CK→Prop
 | .w4| .ke| .aq| .run _=>True
 |_=>False
inductive Md(mx:Nat):(n n4 n3 n2:Nat)→Option CK→Int→Int→Prop
 |start {n:Nat}:Md mx n 0 0 0 none ((n:Int)*KK) 0
 |kd {n:Nat}:Md mx n 0 0 0 (some .kd) ((n:Int)*KK) 0
 |w1 {n b:Nat}:n≤b→Md mx n 0 0 0 (some (.w1 b)) ((n:Int)*KK) 0
 |w2 {n b v:Nat}:n≤v→1≤v→v≤b+1→Md mx n 0 0 0 (some (.w2 b v)) ((n:Int)*KK) 0
 |reg {n:Nat} {c:CK}:c.waits→1≤n→Md mx n 0 0 0 (some c) ((n:Int)*KK+1) 0
 |l4 {c:CK}:c.waits→Md mx 0 1 0 0 (some c) 1 0
 |l3 {c:CK}:c.waits→Md mx 0 0 1 0 (some c) 1 0
 |l2 {c:CK}:c.waits→Md mx 0 0 0 1 (some c) 0 0
 |sema {c:CK}:c.waits→c≠ .blk→Md mx 0 0 0 0 (some c) 0 1
 |over {c:CK}:c.over→Md mx 0 0 0 0 (some c) 0 0
section
variable {ι:Type} (E:eg ι)
def AcqAll(t:Trace)(D:List (aw ι))(ic:Nat):Prop:=
 ∃q,t.act? q=some (.mark (.acquire (stA E.Wg)))∧t.g? q=some (ic+1)∧t.heard q∧∀(i:Nat) (r:aw ι),D[i]?=some r→r.cur=true→∃p,ConcN.RelBy (stA E.Wg) t (i+1) p∧p <q
def eg.At(x:Touch):Prop:=blk x.loc=some E.Wg∨blk x.loc=some E.Ch
abbrev Bf:=Option (Nat×CK×Nat)
def alN(K:Nat→St)(gs:Array Goroutine)(t:Trace)(D:List (aw ι)):Bf→Prop
 |none=>∀r∈D,r.early
 |some (ic,c,n)=>D[ic]?=some .closer∧(∀k,D[k]?=some .closer→k=ic)∧Deaf t (ic+1)=c.deaf∧(∃gc,gs[ic+1]?=some gc∧c.at E (K (ic+1)) gc n)∧((∃tr,c= .run tr)→AcqAll E t D ic)
def bah(t:Trace):Bf→Prop
 |none=>∀p x,touchAt t p=some x→blk x.loc=some E.Wg→x.kind= .said→Knows t 0 p
 |some (ic,c,_)=>c.early→∀p x,touchAt t p=some x→blk x.loc=some E.Wg→x.kind= .said→Knows t (ic+1) p
structure Sy(L:Nat→Option Obj)(K:Nat→St)(gs:Array Goroutine)(w:World)(t:Trace)(D:List (aw ι))(pend:Nat)(cl:Bf):Prop where
 kW:∀i,¬(K i).knows E.Wg
 kC:∀i,¬(K i).knows E.Ch
 lW:L E.Wg=none
 lC:L E.Ch=none
 ne:E.Wg≠E.Ch
 norel:∀a,NoRelease a t
 plain:∀i,(i=0∨∃k r,i=k+1∧D[k]?=some r∧r.left=false)→∀p x,touchAt t p=some x→E.At x→x.kind= .plain→Knows t i p
 said:bah E t cl
 cells:∃st sm,WgAt E.ty E.Wg w st sm∧Md E.max (fM aw.cnt D+pend) (fM aw.c4 D) (fM aw.c3 D) (fM aw.c2 D) (cl.map (·.2.1)) st sm
 DL:fM aw.cnt D+pend≤E.max
 chan:∃sn rc tm,w.heap[E.Ch]?=some (.chan 0 #[] false sn rc tm)
 bal:∀sn rc tm,w.heap[E.Ch]?=some (.chan 0 #[] false sn rc tm)→sn=rc
 Gf:alN E K gs t D cl
end
inductive A2:Bf→Bf→Prop
 |same (c:Bf):A2 c c
 |up (ic:Nat):A2 (some (ic,.blk,0)) (some (ic,.w3,1))
section
variable {ι:Type} {E:eg ι}
theorem CK.vu:∀ {c:CK},c.at E s g n→c≠ .blk→g.status= .running
 | .kd,h,_=>Pure.running (fun _ x=>x.1) h
 | .w1 b,h,_=>Pure.running (fun _ x=>by cases b<;>exact x.1) h
 | .w2 _ _,h,_=>Pure.running (fun _ x=>x.1) h
 | .wr,h,_=>Pure.running (fun _ x=>x.1) h
 | .w3,⟨_,_,h⟩,_=>Pure.running (fun _ x=>x.1) h
 | .blk,_,h=>absurd rfl h
 | .w4,h,_=>Pure.running (fun _ x=>x.1) h
 | .ke,h,_=>Pure.running (fun _ x=>x.1) h
 | .aq,h,_=>Pure.running (fun _ x=>x.1) h
 | .run _,⟨_,h⟩,_=>pq.running (fun _ _ x=>x.1) h
theorem CK.tries{c:CK}{gc:Goroutine}(h:c.at E s gc n)(a a':Goroutine)(w':World):
 ∃c' n',A2 (some (ic,c,n)) (some (ic,c',n'))∧c'.at E s (woken E.P a a' w' gc) n'∧(mayWake E.P a=true→(a'.status= .running∨a'.status= .finished)→c'≠ .blk)∧c'.deaf=c.deaf:=by
 by_cases hb:c= .blk
 ·subst hb
  obtain⟨rfl,wB,hg,rfl⟩:=h
  by_cases hw:(mayWake E.P a&&a'.status != .blocked&&a'.status != .waiting)=true
  ·refine⟨.w3,1,.up ic,⟨0,rfl,?_⟩,fun _ _=>by simp,rfl⟩
   have:woken E.P a a' w' {wB with status:= .blocked}=wB:=by
    have h1:=hg.1;have h2:=hg.2.1
    obtain⟨f,cs,stt,dy,of⟩:=wB
    simp only at h1 h2
    subst h1 h2
    simp[Go.Conc.woken,hw,Goroutine.again]
   rw[this];exact hg
  refine⟨.blk,0,.same _,⟨rfl,wB,hg,by simp[Go.Conc.woken,hw]⟩,fun h1 h2=>absurd ?_ hw,rfl⟩
  rcases h2 with h2|h2<;>simp[h1,h2]
 refine⟨c,n,.same _,?_,fun _ _=>hb,rfl⟩
 have:woken E.P a a' w' gc=gc:=by
  unfold Go.Conc.woken
  split
  ·exact again_running _ (.inl (CK.vu h hb))
  rfl
 rw[this];exact h
end
section
variable {ι:Type} {E:eg ι} {L:Nat→Option Obj} {K:Nat→St} {gs:Array Goroutine} {w w':World} {t u:Trace} {D:List (aw ι)} {pend:Nat} {cl:Bf}
theorem AcqAll.step{r r':aw ι}(h:AcqAll E t D ic)(hi:D[i]?=some r) (hu:∀op∈u,op.g=i+1) (Ir:r'.cur=true→r.cur=true)
 (iO:r'.cur=true→∀p,ConcN.RelBy (stA E.Wg) t (i+1) p→ConcN.RelBy (stA E.Wg) (t++u) (i+1) p):AcqAll E (t++u) (D.set i r') ic:=by
 obtain⟨q,h1,h2,h3,h4⟩:=h
 have hq:=lt_of_act? h1
 refine⟨q,by rw[act?_old hq];exact h1,by rw[g?_old hq];exact h2,(heard_old hq).2 h3,fun k x hk hc=>?_⟩
 by_cases e:k=i
 ·subst e
  have cO:=(List.getElem?_eq_some_iff.1 hi).1
  have:r'=x:=by simpa [List.getElem?_set,cO] using hk
  subst this
  obtain⟨p,hp,ZY⟩:=h4 k r hi (Ir hc)
  exact⟨p,iO hc p hp,ZY⟩
 rw[List.getElem?_set_ne (Ne.symm e)] at hk
 obtain⟨p,hp,ZY⟩:=h4 k x hk hc
 exact⟨p,RelBy.other hp (fun op aC=>by rw[hu op aC];omega),ZY⟩
theorem UN(lH:∀op∈u,∀x,op.act.touch?=some x→E.At x→x.kind= .atomic){x:Touch}(hx:touchAt (t++u) p=some x)(hb:E.At x)(hk:x.kind≠ .atomic):
 touchAt t p=some x:=by
 rcases bN hx with ⟨_,h'⟩| ⟨_,op,hm,_,zf⟩
 ·exact h'
 exact absurd (lH op hm x zf hb) hk
theorem Sy.step(h:Sy E L K gs w t D pend cl)(uA:gs.size=D.length+1){r r':aw ι}(hi:D[i]?=some r) (Fc:r≠ .closer) (WI:r'≠ .closer)
 (hu:∀op∈u,op.g=i+1) (cu:¬s'.knows E.Wg) (mI:¬s'.knows E.Ch) (wH:w'.heap[E.Ch]?=w.heap[E.Ch]?)
 (lH:∀op∈u,∀x,op.act.touch?=some x→E.At x→x.kind= .atomic) (iV:∀op∈u,∀a,op.act≠ .mark (.release a))
 (zi:r'.left=false→r.left=false) (AM:r.early→r'.early) (Ir:(∃ic tr n,cl=some (ic,.run tr,n))→r'.cur=true→r.cur=true)
 (iO:r.cur=true→∀p,ConcN.RelBy (stA E.Wg) t (i+1) p→ConcN.RelBy (stA E.Wg) (t++u) (i+1) p)
 (SL:fM aw.cnt (D.set i r')≤fM aw.cnt D)
 (od:∀cl',A2 cl cl'→(mayWake E.P g=true→(g'.status= .running∨g'.status= .finished)→∀ic n,cl'≠some (ic,.blk,n))→
  ∃st sm,WgAt E.ty E.Wg w' st sm∧Md E.max (fM aw.cnt (D.set i r')+pend) (fM aw.c4 (D.set i r')) (fM aw.c3 (D.set i r')) (fM aw.c2 (D.set i r')) (cl'.map (·.2.1)) st sm):
 ∃cl',A2 cl cl'∧Sy E L (gp K (i+1) s') ((gs.map (woken E.P g g' w')).setIfInBounds (i+1) g') w' (t++u) (D.set i r') pend cl':=by
 have cO:=(List.getElem?_eq_some_iff.1 hi).1
 have pU:∀ {k x},(D.set i r')[k]?=some x→(k=i∧x=r')∨(k≠i∧D[k]?=some x):=fun {k x} hk=>by
  by_cases e:k=i
  ·subst e
   exact .inl ⟨rfl,by simpa [List.getElem?_set,cO] using hk.symm⟩
  rw[List.getElem?_set_ne (Ne.symm e)] at hk;exact .inr ⟨e,hk⟩
 have JV:∀b,¬s'.knows b→(∀j,¬(K j).knows b)→∀j,¬(gp K (i+1) s' j).knows b:=fun b h1 h2 j=>by
  by_cases e:j=i+1
  ·subst e;rw[aG];exact h1
  rw[aK _ _ e];exact h2 j
 have AN:∀ic,ic≠i→Deaf (t++u) (ic+1)=Deaf t (ic+1):=fun ic dQ=>iF t u fun op aC=>by rw[hu op aC];omega
 obtain⟨cl',FX,aVm,jN⟩:∃cl',A2 cl cl'∧(mayWake E.P g=true→(g'.status= .running∨g'.status= .finished)→∀ic n,cl'≠some (ic,.blk,n))∧
  alN E (gp K (i+1) s') ((gs.map (woken E.P g g' w')).setIfInBounds (i+1) g') (t++u) (D.set i r') cl':=by
  have hc:=h.Gf
  match cl,hc,Ir with
  |none,hc,_=>
   refine⟨none,.same _,fun _ _ _ _=>by simp,fun x hx=>?_⟩
   obtain⟨k,hk⟩:=List.getElem?_of_mem hx
   rcases pU hk with ⟨_,rfl⟩| ⟨_,ky⟩
   ·exact AM (hc r (List.mem_of_getElem? hi))
   exact hc x (List.mem_of_getElem? ky)
  |some (ic,c,n),⟨h1,h2,h3,⟨gc,hg,qD⟩,h5⟩,Ir=>
   have dQ:ic≠i:=fun e=>by subst e;rw[hi] at h1;exact Fc (Option.some.inj h1)
   obtain⟨c',n',hw,ayH,hm,hdc⟩:=CK.tries (ic:=ic) qD g g' w'
   refine⟨some (ic,c',n'),hw,fun a b ic' n'' e=>hm a b (by cases e;rfl),by rw[List.getElem?_set_ne (Ne.symm dQ)];exact h1,fun k hk=>?_,by rw[AN ic dQ,hdc];exact h3,⟨_,gJ (by omega) hg,by rw[aK _ _ (by omega)];exact ayH⟩,fun⟨tr,htr⟩=>?_⟩
   ·rcases pU hk with ⟨_,e⟩| ⟨_,ky⟩
    ·exact absurd e.symm WI
    exact h2 k ky
   subst htr
   cases hw with
   |same=>
    have Uz:=Ir ⟨_,_,_,rfl⟩
    exact(h5 ⟨tr,rfl⟩).step hi hu Uz fun hc p hp=>iO (Uz hc) p hp
 refine⟨cl',FX,⟨JV _ cu h.kW,JV _ mI h.kC,h.lW,h.lC,h.ne,fun a=>(h.norel a).app fun op aC=>iV op aC a,fun j hj p x hx hb hk=>?_,?_,od cl' FX aVm,Nat.le_trans (Nat.add_le_add_right SL _) h.DL,?_,fun sn rc tm hc=>h.bal sn rc tm (by rw[←wH];exact hc),jN⟩⟩
 ·refine(h.plain j ?_ p x (UN lH hx hb (by rw[hk];simp)) hb hk).app u
  rcases hj with hj| ⟨k,y,rfl,ky,hl⟩
  ·exact .inl hj
  rcases pU ky with ⟨rfl,rfl⟩| ⟨_,ax9⟩
  ·exact .inr ⟨_,r,rfl,hi,zi hl⟩
  exact .inr ⟨k,y,rfl,ax9,hl⟩
 ·have hs:=h.said
  match cl,cl',FX,hs with
  |none,_,.same _,hs=>exact fun p x hx hb hk=>(hs p x (UN lH hx (.inl hb) (by rw[hk];simp)) hb hk).app u
  |some (ic,c,n),_,.same _,hs=>exact fun he p x hx hb hk=>(hs he p x (UN lH hx (.inl hb) (by rw[hk];simp)) hb hk).app u
  |_,_,.up ic,_=>exact fun he=>he.elim
 obtain⟨sn,rc,tm,hc⟩:=h.chan
 exact⟨sn,rc,tm,by rw[wH];exact hc⟩
end
def aw.mu:aw ι→Nat×Tree×Nat
 | .closer=>(10,.leaf,0)
 | .work _ tr=>(9,tr,0)
 | .ij _=>(8,.leaf,0)
 | .back tr=>(7,tr,0)
 | .st k n=>(k.N3,.leaf,n)
 | .leave q _ _=>(0,.leaf,q)
abbrev Gj:Nat×Tree×Nat→Nat×Tree×Nat→Prop:=Prod.Lex (· < ·) (Prod.Lex Tree.Lt (· < ·))
theorem Gj.wf:WellFounded Gj:=(Prod.lex ⟨_,Nat.lt_wfRel.wf⟩ (Prod.lex ⟨_,Tree.wf⟩ ⟨_,Nat.lt_wfRel.wf⟩)).wf
def vv(a b:aw ι):Prop:=Gj a.mu b.mu
theorem vv.wf:WellFounded (vv (ι:=ι)):=InvImage.wf aw.mu Gj.wf
theorem gA{a b:Nat×Tree×Nat}(h:a.1 <b.1):Gj a b:=by
 obtain⟨a1,a2⟩:=a;obtain⟨b1,b2⟩:=b
 exact Prod.Lex.left _ _ h
theorem HO{a b:Tree}{x y:Nat}(h:Tree.Lt a b):Gj (n,a,x) (n,b,y):=Prod.Lex.right _ (Prod.Lex.left _ _ h)
theorem GA{a:Tree}{x y:Nat}(h:x <y):Gj (n,a,x) (n,a,y):=Prod.Lex.right _ (Prod.Lex.right _ h)
section
variable {ι:Type} {E:eg ι}
def jv(E:eg ι)(e:Event):Prop:=e=said .disable∨e=said .enable∨e=said (.releaseMerge (stA E.Wg))∨e=said (.acquire (stA E.Wg))∨∃a wr,e=⟨.cell a,wr,true⟩∧a.block=E.Wg
theorem jv.ops{es:Array Event}(h:∀e∈es,jv E e)(i:Nat)(fn:FuncId)(pos:String):∀op∈MemOp.ofEvents i fn pos es,
 op.g=i∧(∀a,op.act≠ .mark (.release a))∧∀x,op.act.touch?=some x→blk x.loc=some E.Wg∧x.kind= .atomic:=by
 intro op aC
 rw[ofEvents_eq] at aC
 obtain⟨e,he,rfl⟩:=Array.mem_map.1 aC
 rcases h e he with rfl|rfl|rfl|rfl| ⟨a,wr,rfl,ha⟩
 ·exact⟨rfl,fun a=>by simp[said,Go.ConcR.mk,MemAct.ofEvent],fun x hx=>by cases hx⟩
 ·exact⟨rfl,fun a=>by simp[said,Go.ConcR.mk,MemAct.ofEvent],fun x hx=>by cases hx⟩
 ·exact⟨rfl,fun a=>by simp[said,Go.ConcR.mk,MemAct.ofEvent],fun x hx=>by cases hx⟩
 ·exact⟨rfl,fun a=>by simp[said,Go.ConcR.mk,MemAct.ofEvent],fun x hx=>by cases hx⟩
 refine⟨rfl,fun a=>by cases wr<;>simp[MemAct.ofEvent],fun x hx=>?_⟩
 cases wr<;>(simp only[MemAct.ofEvent,MemAct.touch?,Option.some.injEq] at hx;subst hx;exact⟨by simp[blk,ha],rfl⟩)
theorem Mx{es:Array Event}(h:∀e∈es,Event.mute e=true):∀op∈MemOp.ofEvents i fn pos es,op.act.touch?=none:=by
 intro op aC
 rw[ofEvents_eq] at aC
 obtain⟨e,he,rfl⟩:=Array.mem_map.1 aC
 have:=h e he
 obtain⟨loc,wr,sy⟩:=e
 cases loc with
 |mark m=>cases m<;>first|rfl| (simp[Event.mute] at this)
 |_=>simp[Event.mute] at this
theorem R6{es:Array Event}(h:∀e∈es,Event.mute e=true)(a:Addr):∀op∈MemOp.ofEvents i fn pos es,op.act≠ .mark (.release a):=by
 intro op aC
 rw[ofEvents_eq] at aC
 obtain⟨e,he,rfl⟩:=Array.mem_map.1 aC
 have:=h e he
 obtain⟨loc,wr,sy⟩:=e
 cases loc with
 |mark m=>cases m<;>first| (simp[MemAct.ofEvent];done)| (simp[Event.mute] at this)
 |_=>simp[Event.mute] at this
variable {L:Nat→Option Obj} {K:Nat→St} {gs:Array Goroutine} {w w':World} {t:Trace} {D:List (aw ι)} {pend d0:Nat} {cl:Bf} {main:Goroutine} {sl:Option (Nat×Nat)}
structure Inv(E:eg ι)(L:Nat→Option Obj)(K:Nat→St)(gs:Array Goroutine)(w:World)(t:Trace)(D:List (aw ι))(pend:Nat)(cl:Bf)(main:Goroutine)(d0:Nat):Prop where
 base:Base E L K gs w t D
 sy:Sy E L K gs w t D pend cl
 main:gs[0]?=some main
 deaf:Deaf t 0=d0
def iv(E:eg ι)(main:Goroutine):Prop:=main.status= .running∨∃m z,main=parked m #[rcase E.Ch z] (.recv true)
theorem iv.woken{main:Goroutine}(h:iv E main)(a a':Goroutine)(hc:w'.heap[E.Ch]?=some (.chan 0 #[] false sn rc tm)):woken E.P a a' w' main=main:=by
 rcases h with h| ⟨m,z,rfl⟩
 ·unfold Go.Conc.woken
  split
  ·exact again_running _ (.inl h)
  rfl
 exact woken_recv_open a a' hc
def k9(D:List (aw ι)):List ι:=D.filterMap aw.Zc
theorem HE{r r':aw ι}(ho:r'.Zc=r.Zc):∀ {D:List (aw ι)} {i:Nat},D[i]?=some r→k9 (D.set i r')=k9 D
 | [],i,h=>by simp at h
 |a::D,0,h=>by simp only[List.getElem?_cons_zero,Option.some.injEq] at h;subst h;simp[k9,List.filterMap_cons,ho]
 |a::D,i+1,h=>by
  have:=HE ho (D:=D) (i:=i) (by simpa using h)
  simp only[k9,List.set_cons_succ,List.filterMap_cons] at this ⊢
  rw[this]
def rI(E:eg ι)(L:Nat→Option Obj)(K:Nat→St)(D:List (aw ι))(pend:Nat)(cl:Bf)(main:Goroutine)(d0:Nat)(m:Machine)(sl:Option (Nat×Nat))(t:Trace)(i:Nat):Prop:=
 ∃K' lM w' u D' cl',runT E.P m i=(.next (crowd lM w' sl),u)∧Inv E L K' lM w' (t++u) D' pend cl' main d0∧K' 0=K 0∧k9 D'=k9 D∧One vv D' D∧(cl=none→cl'=none)∧(cl≠none→cl'≠none)∧(∀o,aw.ij o∈D'→aw.ij o∈D∨main.status= .running)
theorem Inv.go'(h:Inv E L K gs w t D pend cl main d0)(hm:iv E main){r r':aw ι}(hi:D[i]?=some r) (Fc:r≠ .closer) (WI:r'≠ .closer)
 (hg:gs[i+1]?=some g) (hu:∀op∈u,op.g=i+1)
 (cq:runT E.P (crowd gs w sl) (i+1)=(.next (crowd ((gs.map (woken E.P g g' w')).setIfInBounds (i+1) g') w' sl),u)) (OQ:X6 w w')
 (cu:¬s'.knows E.Wg) (mI:¬s'.knows E.Ch) (wH:w'.heap[E.Ch]?=w.heap[E.Ch]?)
 (n8:Fit L (gp K (i+1) s') w' (t++u)) (hr:oA E (t++u) (i+1) s' g' r')
 (lH:∀op∈u,∀x,op.act.touch?=some x→E.At x→x.kind= .atomic)
 (iV:∀op∈u,∀a,op.act≠ .mark (.release a))
 (zi:r'.left=false→r.left=false) (AM:r.early→r'.early) (Ir:(∃ic tr n,cl=some (ic,.run tr,n))→r'.cur=true→r.cur=true)
 (iO:r.cur=true→∀p,ConcN.RelBy (stA E.Wg) t (i+1) p→ConcN.RelBy (stA E.Wg) (t++u) (i+1) p)
 (KH:r'.cnt≤r.cnt) (aim:r'.Zc=r.Zc) (Ut:vv r' r)
 (od:∀cl',A2 cl cl'→(mayWake E.P g=true→(g'.status= .running∨g'.status= .finished)→∀ic n,cl'≠some (ic,.blk,n))→
  ∃st sm,WgAt E.ty E.Wg w' st sm∧Md E.max (fM aw.cnt (D.set i r')+pend) (fM aw.c4 (D.set i r')) (fM aw.c3 (D.set i r')) (fM aw.c2 (D.set i r')) (cl'.map (·.2.1)) st sm)
 (hsb:(∃o,r'= .ij o)→main.status= .running:=by rintro⟨o,e⟩;cases e):
 rI E L K D pend cl main d0 (crowd gs w sl) sl t (i+1):=by
 have cO:=(List.getElem?_eq_some_iff.1 hi).1
 obtain⟨sn,rc,tm,hc⟩:=h.sy.chan
 have ue:w'.heap[E.Ch]?=some (.chan 0 #[] false sn rc tm):=by rw[wH];exact hc
 have aae:=h.base.step (g:=g) cO hu OQ n8 hr fun _ _ _ _=>⟨sn,rc,tm,ue⟩
 have SL:fM aw.cnt (D.set i r')≤fM aw.cnt D:=by have:=ko aw.cnt (y:=r') hi;omega
 obtain⟨cl',FX,hsy⟩:=h.sy.step h.base.size hi Fc WI hu cu mI wH lH iV zi AM Ir iO SL od
 refine⟨_,_,w',_,_,cl',cq,⟨aae,hsy,?_,?_⟩,aK _ _ (by omega),HE aim hi,One.set hi Ut,fun e=>?_,fun e=>?_,fun o ho=>?_⟩
 ·rw[gJ (by omega) h.main,hm.woken _ _ ue]
 ·rw[iF _ _ fun op aC=>by rw[hu op aC];omega];exact h.deaf
 ·subst e;cases FX;rfl
 ·cases FX with
  |same=>exact e
  |up ic=>simp
 rcases List.mem_or_eq_of_mem_set ho with h'|h'
 ·exact .inl h'
 exact .inr (hsb ⟨o,h'.symm⟩)
theorem Inv.go(h:Inv E L K gs w t D pend cl main d0)(hm:iv E main){r r':aw ι}{es:Array Event}(hi:D[i]?=some r) (Fc:r≠ .closer) (WI:r'≠ .closer)
 (hg:gs[i+1]?=some g) (hgo:stepG E.P false g w= .go g' w' es) (OQ:X6 w w')
 (cu:¬s'.knows E.Wg) (mI:¬s'.knows E.Ch) (wH:w'.heap[E.Ch]?=w.heap[E.Ch]?)
 (n8:Fit L (gp K (i+1) s') w' (t++MemOp.ofEvents (i+1) g.frame.fn g.frame.place es)) (hr:oA E (t++MemOp.ofEvents (i+1) g.frame.fn g.frame.place es) (i+1) s' g' r')
 (lH:∀op∈MemOp.ofEvents (i+1) g.frame.fn g.frame.place es,∀x,op.act.touch?=some x→E.At x→x.kind= .atomic)
 (iV:∀op∈MemOp.ofEvents (i+1) g.frame.fn g.frame.place es,∀a,op.act≠ .mark (.release a))
 (zi:r'.left=false→r.left=false) (AM:r.early→r'.early) (Ir:(∃ic tr n,cl=some (ic,.run tr,n))→r'.cur=true→r.cur=true)
 (iO:r.cur=true→∀p,ConcN.RelBy (stA E.Wg) t (i+1) p→ConcN.RelBy (stA E.Wg) (t++MemOp.ofEvents (i+1) g.frame.fn g.frame.place es) (i+1) p)
 (KH:r'.cnt≤r.cnt) (aim:r'.Zc=r.Zc) (Ut:vv r' r)
 (od:∀cl',A2 cl cl'→(mayWake E.P g=true→(g'.status= .running∨g'.status= .finished)→∀ic n,cl'≠some (ic,.blk,n))→
  ∃st sm,WgAt E.ty E.Wg w' st sm∧Md E.max (fM aw.cnt (D.set i r')+pend) (fM aw.c4 (D.set i r')) (fM aw.c3 (D.set i r')) (fM aw.c2 (D.set i r')) (cl'.map (·.2.1)) st sm)
 (hsb:(∃o,r'= .ij o)→main.status= .running:=by rintro⟨o,e⟩;cases e):
 rI E L K D pend cl main d0 (crowd gs w sl) sl t (i+1):=
 h.go' hm hi Fc WI hg (fun op aC=>Go.ConcR.g_of_ofEvents op aC) (runT_crowd_go (P:=E.P) (sl:=sl) (i:=i+1) hg (by simpa using hgo)) OQ cu mI wH n8 hr lH iV zi AM Ir iO KH aim Ut od hsb
end
section
variable {ι:Type} {E:eg ι} {L:Nat→Option Obj} {K:Nat→St} {gs:Array Goroutine} {w w':World} {t u:Trace} {D:List (aw ι)} {pend d0:Nat} {cl:Bf} {main:Goroutine} {sl:Option (Nat×Nat)}
 {i:Nat} {g g':Goroutine} {es:Array Event}
theorem mG(K:Nat→St)(i:Nat):gp K i (K i)=K:=by
 funext j
 by_cases e:j=i
 ·subst e;rw[aG]
 rw[aK _ _ e]
theorem Md.atz{a c:Nat}{cl cl':Bf}(h:Md mx n a b c (cl.map (·.2.1)) st sm)(hw:A2 cl cl'):Md mx n a b c (cl'.map (·.2.1)) st sm:=by
 cases hw with
 |same=>exact h
 |up ic=>
  simp only[Option.map_some] at h ⊢
  cases h with
  |reg _ h2=>exact .reg trivial h2
  |l4 _=>exact .l4 trivial
  |l3 _=>exact .l3 trivial
  |l2 _=>exact .l2 trivial
  |sema _ h2=>exact absurd rfl h2
  |over h1=>exact h1.elim
theorem Inv.ry(h:Inv E L K gs w t D pend cl main d0){r r':aw ι}(hi:D[i]?=some r) (hw:w'.heap[E.Wg]?=w.heap[E.Wg]?) (h1:r'.cnt=r.cnt) (h4:r'.c4=r.c4) (h3:r'.c3=r.c3) (h2:r'.c2=r.c2):
 ∀cl',A2 cl cl'→∃st sm,WgAt E.ty E.Wg w' st sm∧Md E.max (fM aw.cnt (D.set i r')+pend) (fM aw.c4 (D.set i r')) (fM aw.c3 (D.set i r')) (fM aw.c2 (D.set i r')) (cl'.map (·.2.1)) st sm:=by
 intro cl' FX
 obtain⟨st,sm,ha,hm⟩:=h.sy.cells
 have e1:=ko aw.cnt (y:=r') hi
 have e4:=ko aw.c4 (y:=r') hi
 have e3:=ko aw.c3 (y:=r') hi
 have e2:=ko aw.c2 (y:=r') hi
 rw[show fM aw.cnt (D.set i r')=fM aw.cnt D by omega,show fM aw.c4 (D.set i r')=fM aw.c4 D by omega,show fM aw.c3 (D.set i r')=fM aw.c3 D by omega,show fM aw.c2 (D.set i r')=fM aw.c2 D by omega]
 exact⟨st,sm,by unfold WgAt;rw[hw];exact ha,hm.atz FX⟩
theorem eJ.quiet(h:eJ t j)(hu:∀op∈u,op.act.touch?=none):eJ (t++u) j:=by
 intro p hp hc
 obtain⟨op,ho,hg⟩:=Option.map_eq_some_iff.1 hp
 rcases getElem?_append_cases ho with ⟨cO,_⟩| ⟨_,hm⟩
 ·obtain⟨q,h1,h2⟩:=h p (by rw[←g?_old (u:=u) cO];exact hp) ((counts_old cO).1 hc)
  have hq:q <t.size:=by
   obtain⟨o,ho,_⟩:=Option.map_eq_some_iff.1 h1
   exact lt_size_of_getElem? ho
  exact⟨q,by rw[g?_old hq];exact h1,hb_app u h2⟩
 obtain⟨x,hx,_⟩:=hc
 obtain⟨o',GI,mz⟩:=touch_of hx
 rw[ho] at GI;cases GI
 rw[hu op hm] at mz;cases mz
theorem VY{e:Event}(h:Event.mute e=true):(MemAct.ofEvent e).touch?=none:=by
 obtain⟨loc,wr,sy⟩:=e
 cases loc with
 |mark m=>cases m<;>first|rfl| (simp[Event.mute] at h)
 |_=>simp[Event.mute] at h
theorem Inv.leave(h:Inv E L K gs w t D pend cl main d0)(hm:iv E main){q d:Nat}{cur:Bool}(hi:D[i]?=some (.leave q d cur)) (hg:gs[i+1]?=some g) (hs:g.status= .running):
 rI E L K D pend cl main d0 (crowd gs w sl) sl t (i+1):=by
 obtain⟨fG,dz,fL⟩:=h.base.ok i _ hi
 obtain rfl:fG=g:=by rw[hg] at dz;exact(Option.some.inj dz).symm
 obtain⟨hK,hq,hd,hc,hk⟩:=fL
 cases q with
 |zero=>have:=hq.1;rw[hs] at this;cases this
 |succ q=>
  rcases hq with ⟨h1,_⟩| ⟨_,g',es,Ut,cg,GH⟩
  ·rw[hs] at h1;cases h1
  have hu:=Mx (i:=i+1) (fn:=fG.frame.fn) (pos:=fG.frame.place) Ut
  have hrb:∀p,ConcN.RelBy (stA E.Wg) t (i+1) p→ConcN.RelBy (stA E.Wg) (t++MemOp.ofEvents (i+1) fG.frame.fn fG.frame.place es) (i+1) p:=fun p hp=>
   ConcN.RelBy.appOwn hp _ _ _ fun j e he=> .inl (VY (Ut e (Array.mem_of_getElem? he)))
  refine h.go hm (r':= .leave q (deafBehind d es) cur) (s':=K (i+1)) (w':=w) hi (by simp) (by simp) hg (cg w) ⟨rfl,rfl⟩ (h.sy.kW _) (h.sy.kC _) rfl ?_ ?_ (fun op aC x hx=>by rw[hu op aC] at hx;cases hx) (fun op aC a=>R6 Ut a op aC)
   (fun e=>e) (fun e=>e) (fun _ e=>e) (fun _ p hp=>hrb p hp) (Nat.le_refl _) rfl (GA (Nat.lt_succ_self q)) fun cl' hw _=>h.ry (r':= .leave q (deafBehind d es) cur) hi rfl rfl rfl rfl rfl cl' hw
  ·rw[mG]
   exact h.base.fit.quiet E.Wg h.sy.kW h.sy.lW (Nat.le_refl _) (fun _ _ _=>rfl) hu
  refine⟨hK,GH,?_,fun e=>let ⟨r,hr⟩:=hc e;⟨r,hrb r hr⟩,fun e=>(hk e).quiet hu⟩
  rw[Deaf_own,hd]
theorem Sy.BE(h:Sy E L K gs w t D pend cl)(ht:Trans (K j) w s' w' es)(fn:FuncId)(pos:String):
 ¬s'.knows E.Wg∧¬s'.knows E.Ch∧w'.heap[E.Wg]?=w.heap[E.Wg]?∧w'.heap[E.Ch]?=w.heap[E.Ch]?∧
 (∀op∈MemOp.ofEvents j fn pos es,∀x,op.act.touch?=some x→¬E.At x)∧(∀op∈MemOp.ofEvents j fn pos es,∀a,op.act≠ .mark (.release a)):=by
 obtain⟨st,sm,ha,_⟩:=h.cells
 obtain⟨sn,rc,tm,hc⟩:=h.chan
 have hW:E.Wg <w.heap.size:=lt_size ha
 have hC:E.Ch <w.heap.size:=lt_size hc
 have kn:∀b,b <w.heap.size→¬(K j).knows b→¬s'.knows b:=fun b hb hk ky=>by
  rcases ky with h'|h'
  ·rcases ht.NX b h' with h1|h1|h1
   ·omega
   ·exact hk (.inl h1)
   exact hk (.inr h1)
  rcases ht.own b h' with h1|h1
  ·omega
  exact hk (.inr h1)
 refine⟨kn _ hW (h.kW j),kn _ hC (h.kC j),ht.frame _ hW fun ho=>h.kW j (.inr ho),ht.frame _ hC fun ho=>h.kC j (.inr ho),fun op aC x hx hb=>?_,fun op aC a e=>?_⟩
 ·obtain⟨_,b,mN,rP,_⟩:=(EU ht.wI aC).2 x hx
  rcases hb with hb|hb
  ·obtain rfl:b=E.Wg:=by rw[hb] at mN;exact(Option.some.inj mN).symm
   rcases rP with h1|h1|h1
   ·omega
   ·exact h.kW j (.inr h1)
   exact h.kW j (.inl h1.2)
  obtain rfl:b=E.Ch:=by rw[hb] at mN;exact(Option.some.inj mN).symm
  rcases rP with h1|h1|h1
  ·omega
  ·exact h.kC j (.inr h1)
  exact h.kC j (.inl h1.2)
 rw[ofEvents_eq] at aC
 obtain⟨e',he,rfl⟩:=Array.mem_map.1 aC
 have hl:=Go.ConcR.loc_of_ofEvent e
 have:=ht.wI e' he
 unfold JF at this
 rw[hl] at this
 simp[DG] at this
theorem zn:∀(es:List Event) (d:Nat),(∀e∈es,JF s n e)→es.foldl (fun d e=>match e.loc with| .mark .disable=>d+1| .mark .enable=>d-1|_=>d) d=d
 | [],_,_=>rfl
 |e::es,d,h=>by
  have he:=h e (by simp)
  have:(match e.loc with| .mark .disable=>d+1| .mark .enable=>d-1|_=>d)=d:=by
   unfold JF at he
   split<;>simp_all[DG]
  rw[List.foldl_cons,this]
  exact zn es d fun x hx=>h x (by simp[hx])
theorem Trans.deaf(ht:Trans s w s' w' es)(d:Nat):deafBehind d es=d:=by
 obtain⟨l⟩:=es
 rw[deafBehind,List.foldl_toArray']
 ·exact zn l d fun e he=>ht.wI e (by simpa using he)
 simp
theorem Inv.work(h:Inv E L K gs w t D pend cl main d0)(hm:iv E main){o:ι}{f:World→Tree}(hi:D[i]?=some (.work o (.node f))) (hg:gs[i+1]?=some g):
 rI E L K D pend cl main d0 (crowd gs w sl) sl t (i+1):=by
 obtain⟨fG,dz,fL⟩:=h.base.ok i _ hi
 obtain rfl:fG=g:=by rw[hg] at dz;exact(Option.some.inj dz).symm
 obtain⟨hd,hs,iq⟩:=fL
 obtain⟨g',w',es,s',cg,cq,ht,htr⟩:=iq w (h.base.fit.kB _)
 obtain⟨k1,k2,k3,k4,k5,k6⟩:=h.sy.BE ht fG.frame.fn fG.frame.place
 refine h.go hm (r':= .work o (f w)) hi (by simp) (by simp) hg cg ⟨ht.os,ht.output⟩ k1 k2 k4 (h.base.fit.own ht _ _) ⟨?_,htr⟩ (fun op aC x hx hb=>absurd hb (k5 op aC x hx)) k6
  (fun _=>rfl) (fun e=>e) (fun _ e=>e) (fun e=>(by cases e)) (Nat.le_refl _) rfl (HO (.mk f w)) fun cl' hw _=>h.ry (r':= .work o (f w)) hi k3 rfl rfl rfl rfl cl' hw
 rw[Deaf_own,ht.deaf];exact hd
theorem Inv.back(h:Inv E L K gs w t D pend cl main d0)(hm:iv E main){f:World→Tree}(hi:D[i]?=some (.back (.node f))) (hg:gs[i+1]?=some g):
 rI E L K D pend cl main d0 (crowd gs w sl) sl t (i+1):=by
 obtain⟨fG,dz,fL⟩:=h.base.ok i _ hi
 obtain rfl:fG=g:=by rw[hg] at dz;exact(Option.some.inj dz).symm
 obtain⟨hd,hs,iq⟩:=fL
 obtain⟨g',w',es,s',cg,cq,ht,htr⟩:=iq w (h.base.fit.kB _)
 obtain⟨k1,k2,k3,k4,k5,k6⟩:=h.sy.BE ht fG.frame.fn fG.frame.place
 refine h.go hm (r':= .back (f w)) hi (by simp) (by simp) hg cg ⟨ht.os,ht.output⟩ k1 k2 k4 (h.base.fit.own ht _ _) ⟨?_,htr⟩ (fun op aC x hx hb=>absurd hb (k5 op aC x hx)) k6
  (fun _=>rfl) (fun e=>e) (fun _ e=>e) (fun e=>(by cases e)) (Nat.le_refl _) rfl (HO (.mk f w)) fun cl' hw _=>h.ry (r':= .back (f w)) hi k3 rfl rfl rfl rfl cl' hw
 rw[Deaf_own,ht.deaf];exact hd
theorem Inv.auz(h:Inv E L K gs w t D pend cl main d0)(hm:iv E main){k:WK}(hi:D[i]?=some (.st k (n+1))) (hg:gs[i+1]?=some g):
 rI E L K D pend cl main d0 (crowd gs w sl) sl t (i+1):=by
 obtain⟨fG,dz,fL⟩:=h.base.ok i _ hi
 obtain rfl:fG=g:=by rw[hg] at dz;exact(Option.some.inj dz).symm
 obtain⟨hK,hd,⟨hs,g',cg,hp⟩,ZW⟩:=fL
 obtain⟨st,sm,ha,_⟩:=h.sy.cells
 have e0:MemOp.ofEvents (i+1) fG.frame.fn fG.frame.place #[]= #[]:=rfl
 refine h.go hm (r':= .st k n) (s':=K (i+1)) hi (by simp) (by simp) hg (cg w ⟨st,sm,ha⟩) ⟨rfl,rfl⟩ (h.sy.kW _) (h.sy.kC _) rfl ?_ ?_ (by rw[e0];simp) (by rw[e0];simp)
  (fun _=>rfl) (fun e=>e) (fun _ e=>e) (fun e=>(by cases e)) (by cases k<;>exact Nat.le_refl _) rfl (GA (Nat.lt_succ_self n)) fun cl' hw _=>h.ry (r':= .st k n) hi rfl (by cases k<;>rfl) (by cases k<;>rfl) (by cases k<;>rfl) (by cases k<;>rfl) cl' hw
 ·rw[mG,e0,Array.append_empty];exact h.base.fit
 rw[e0,Array.append_empty];exact⟨hK,hd,hp,ZW⟩
end
theorem Md.d1{a c:Nat}{o:Option CK}(h:Md mx n a b c o st sm)(hn:1≤n)(ho:o≠none):
 ∃v wt:Nat,v+1=n∧wt≤1∧st=((v+1:Nat):Int)*KK+(wt:Int)∧sm=0∧a=0∧b=0∧c=0∧
  ((v=0∧wt=1)→Md mx v 1 0 0 o ((v:Int)*KK+(wt:Int)) 0)∧(¬(v=0∧wt=1)→Md mx v 0 0 0 o ((v:Int)*KK+(wt:Int)) 0):=by
 cases h with
 |start=>exact absurd rfl ho
 |kd=>exact⟨n-1,0,by omega,by omega,by rw[show n-1+1=n by omega];simp,rfl,rfl,rfl,rfl,fun h=>by omega,fun _=>by simpa using .kd⟩
 |w1 h1=>exact⟨n-1,0,by omega,by omega,by rw[show n-1+1=n by omega];simp,rfl,rfl,rfl,rfl,fun h=>by omega,fun _=>by simpa using .w1 (by omega)⟩
 |w2 h1 h2 h3=>exact⟨n-1,0,by omega,by omega,by rw[show n-1+1=n by omega];simp,rfl,rfl,rfl,rfl,fun h=>by omega,fun _=>by simpa using .w2 (by omega) h2 h3⟩
 |reg h1 h2=>
  refine⟨n-1,1,by omega,by omega,by rw[show n-1+1=n by omega];simp,rfl,rfl,rfl,rfl,fun h=>?_,fun h=>?_⟩
  ·rw[h.1];simpa using .l4 h1
  exact .reg h1 (by omega)
 |l4 _=>omega
 |l3 _=>omega
 |l2 _=>omega
 |sema _ _=>omega
 |over _=>omega
theorem Md.d2{a c:Nat}{o:Option CK}(h:Md mx n a b c o st sm)(hn:1≤a):st=1∧sm=0∧n=0∧a=1∧b=0∧c=0∧Md mx 0 0 1 0 o 1 0:=by
 cases h with
 |l4 h1=>exact⟨rfl,rfl,rfl,rfl,rfl,rfl,.l3 h1⟩
 |_=>omega
theorem Md.d3{a c:Nat}{o:Option CK}(h:Md mx n a b c o st sm)(hn:1≤b):st=1∧sm=0∧n=0∧a=0∧b=1∧c=0∧Md mx 0 0 0 1 o 0 0:=by
 cases h with
 |l3 h1=>exact⟨rfl,rfl,rfl,rfl,rfl,rfl,.l2 h1⟩
 |_=>omega
theorem Md.d4{a c:Nat}{o:Option CK}(h:Md mx n a b c o st sm)(hn:1≤c):st=0∧sm=0∧n=0∧a=0∧b=0∧c=1∧(o≠some .blk→Md mx 0 0 0 0 o 0 1):=by
 cases h with
 |l2 h1=>exact⟨rfl,rfl,rfl,rfl,rfl,rfl,fun h'=> .sema h1 fun e=>h' (by rw[e])⟩
 |_=>omega
theorem Md.run{a c:Nat}{o:Option CK}(h:Md mx n a b c o st sm){k:CK}(ho:o=some k)(hk:k.over):n=0∧a=0∧b=0∧c=0∧st=0∧sm=0:=by
 have nw:¬k.waits:=by cases k<;>simp_all[CK.over,CK.waits]
 cases h with
 |start=>cases ho
 |kd=>cases ho;exact hk.elim
 |w1 _=>cases ho;exact hk.elim
 |w2 _ _ _=>cases ho;exact hk.elim
 |reg h1 _=>cases ho;exact absurd h1 nw
 |l4 h1=>cases ho;exact absurd h1 nw
 |l3 h1=>cases ho;exact absurd h1 nw
 |l2 h1=>cases ho;exact absurd h1 nw
 |sema h1 _=>cases ho;exact absurd h1 nw
 |over _=>exact⟨rfl,rfl,rfl,rfl,rfl,rfl⟩
section
variable {ι:Type} {E:eg ι} {L:Nat→Option Obj} {K:Nat→St} {gs:Array Goroutine} {w w':World} {t u:Trace} {D:List (aw ι)} {pend d0:Nat} {cl:Bf} {main:Goroutine} {sl:Option (Nat×Nat)}
 {i:Nat} {g g':Goroutine} {es:Array Event}
structure eV(E:eg ι)(w w':World):Prop where
 size:w'.heap.size=w.heap.size
 block:∀b,b≠E.Wg→w'.heap[b]?=w.heap[b]?
 same:X6 w w'
theorem eV.refl(w:World):eV E w w:=⟨rfl,fun _ _=>rfl,rfl,rfl⟩
theorem eV.set(w:World)(k:Nat)(v:Value):eV E w (w.setCell ⟨E.Wg,k,none⟩ v):=
 ⟨by simp[World.setCell],fun b hb=>by simp[World.setCell,Array.getElem?_modify,Ne.symm hb],rfl,rfl⟩
theorem Sy.Cf(h:Sy E L K gs w t D pend cl)(hf:Fit L K w t)(hj:j=0∨∃k r,j=k+1∧D[k]?=some r∧r.left=false) (hw:eV E w w') (AK:∀e∈es,jv E e) (fn:FuncId) (pos:String):
 Fit L K w' (t++MemOp.ofEvents j fn pos es):=by
 have ho:=jv.ops AK j fn pos
 obtain⟨st,sm,ha,_⟩:=h.cells
 refine hf.beside E.Wg j h.kW h.lW (lt_size ha) (Nat.le_of_eq hw.size.symm) (fun b hb _=>hw.block b hb) (fun op aC=>(ho op aC).1) fun op aC x hx=>?_
 obtain⟨h1,h2⟩:=(ho op aC).2.2 x hx
 refine⟨h1,fun sd p a v9 hc=>h.plain j hj p a v9 (.inl (by rw[hc.1];exact h1)) ?_⟩
 rcases hc.2.2.2 with h3|h3|h3
 ·exact h3
 ·rw[h2] at h3;cases h3
 rw[h2] at h3;cases h3.2.2
theorem Inv.Ae(h:Inv E L K gs w t D pend cl main d0)(hm:iv E main){k:WK}{r':aw ι}(hi:D[i]?=some (.st k 0)) (hg:gs[i+1]?=some g) (hgo:stepG E.P false g w= .go g' w' es)
 (hw:eV E w w') (AK:∀e∈es,jv E e) (WI:r'≠ .closer) (hr:oA E (t++MemOp.ofEvents (i+1) g.frame.fn g.frame.place es) (i+1) (K (i+1)) g' r')
 (Ir:(∃ic tr n,cl=some (ic,.run tr,n))→r'.cur=true→False)
 (KH:r'.cnt≤(aw.st (ι:=ι) k 0).cnt) (aim:r'.Zc=none) (Ut:vv r' (.st k 0))
  (mM:Md E.max (fM aw.cnt D+pend) (fM aw.c4 D) (fM aw.c3 D) (fM aw.c2 D) (cl.map (·.2.1)) st sm)
 (od:∀cl':Bf,cl'≠none→Md E.max (fM aw.cnt D+pend) (fM aw.c4 D) (fM aw.c3 D) (fM aw.c2 D) (cl'.map (·.2.1)) st sm→
  (mayWake E.P g=true→(g'.status= .running∨g'.status= .finished)→∀ic n,cl'≠some (ic,.blk,n))→
  ∃st sm,WgAt E.ty E.Wg w' st sm∧Md E.max (fM aw.cnt (D.set i r')+pend) (fM aw.c4 (D.set i r')) (fM aw.c3 (D.set i r')) (fM aw.c2 (D.set i r')) (cl'.map (·.2.1)) st sm)
 (hsb:(∃o,r'= .ij o)→main.status= .running:=by rintro⟨o,e⟩;cases e):
 rI E L K D pend cl main d0 (crowd gs w sl) sl t (i+1):=by
 have ho:=jv.ops AK (i+1) g.frame.fn g.frame.place
 have iY:cl≠none:=fun e=>by
  have:=h.sy.Gf
  subst e
  exact this _ (List.mem_of_getElem? hi)
 refine h.go hm (r':=r') (s':=K (i+1)) hi (by simp) WI hg hgo hw.same (h.sy.kW _) (h.sy.kC _) (hw.block _ (Ne.symm h.sy.ne)) ?_ hr (fun op aC x hx _=>((ho op aC).2.2 x hx).2) (fun op aC=>(ho op aC).2.1)
  (fun _=>rfl) (fun e=>e.elim) (fun e e'=>(Ir e e').elim) (fun e=>(by cases e)) KH (by rw[aim];rfl) Ut (fun cl' FX hb=>?_) hsb
 ·rw[mG]
  exact h.sy.Cf h.base.fit (.inr ⟨i,_,rfl,hi,rfl⟩) hw AK _ _
 refine od cl' ?_ (mM.atz FX) hb
 cases FX with
 |same=>exact iY
 |up ic=>simp
theorem V1{cl:Bf}(h:cl≠none):cl.map (·.2.1)≠none:=by cases cl<;>simp_all
theorem aoh{cl:Bf}(h:∀ic n,cl≠some (ic,.blk,n)):cl.map (·.2.1)≠some .blk:=by
 match cl with
 |none=>simp
 |some (ic,c,n)=>intro e;simp only[Option.map_some,Option.some.injEq] at e;subst e;exact h ic n rfl
theorem NM{st4 st3 st2:Nat}{o:Option CK}{r r':aw ι}(hi:D[i]?=some r)
 (e1:n+r.cnt=fM aw.cnt D+pend+r'.cnt) (e4:st4+r.c4=fM aw.c4 D+r'.c4) (e3:st3+r.c3=fM aw.c3 D+r'.c3) (e2:st2+r.c2=fM aw.c2 D+r'.c2) (h:Md mx n st4 st3 st2 o st sm):
 Md mx (fM aw.cnt (D.set i r')+pend) (fM aw.c4 (D.set i r')) (fM aw.c3 (D.set i r')) (fM aw.c2 (D.set i r')) o st sm:=by
 have f1:=ko aw.cnt (y:=r') hi
 have f4:=ko aw.c4 (y:=r') hi
 have f3:=ko aw.c3 (y:=r') hi
 have f2:=ko aw.c2 (y:=r') hi
 rw[show fM aw.cnt (D.set i r')+pend=n by omega,show fM aw.c4 (D.set i r')=st4 by omega,show fM aw.c3 (D.set i r')=st3 by omega,show fM aw.c2 (D.set i r')=st2 by omega]
 exact h
theorem u4(f:aw ι→Nat){r:aw ι}(hi:D[i]?=some r):f r≤fM f D:=by
 have:=ko f (y:=aw.closer) hi
 have h0:=ko f (D:=D.set i .closer) (i:=i) (x:= .closer) (y:=r) (by rw[List.getElem?_set_self (List.getElem?_eq_some_iff.1 hi).1])
 rw[List.set_set,show D.set i r=D from by obtain⟨hl,rfl⟩:=List.getElem?_eq_some_iff.1 hi;simp] at h0
 have key:∀(D:List (aw ι)) (i:Nat) (r:aw ι),D[i]?=some r→f r≤fM f D:=by
  intro D
  induction D with
  |nil=>intro i r h;simp at h
  |cons a D ih=>
   intro i r h
   cases i with
   |zero=>simp only[List.getElem?_cons_zero,Option.some.injEq] at h;subst h;simp[fM]
   |succ i=>have:=ih i r (by simpa using h);simp only[fM,List.map_cons,List.sum_cons] at this ⊢;omega
 exact key D i r hi
theorem oD(k:Nat)(b:Bool):jv E ⟨.cell ⟨E.Wg,k,none⟩,b,true⟩:= .inr (.inr (.inr (.inr ⟨_,_,rfl,rfl⟩)))
theorem Inv.r0(h:Inv E L K gs w t D pend cl main d0)(hm:iv E main)(hi:D[i]?=some (.st .r0 0)) (hg:gs[i+1]?=some g):rI E L K D pend cl main d0 (crowd gs w sl) sl t (i+1):=by
 obtain⟨fG,dz,fL⟩:=h.base.ok i _ hi
 obtain rfl:fG=g:=by rw[hg] at dz;exact(Option.some.inj dz).symm
 obtain⟨hK,hd,⟨hs,g',cg,n,hp⟩,_⟩:=fL
 obtain⟨st,sm,ha,mM⟩:=h.sy.cells
 refine h.Ae hm (r':= .st .k1 n) hi hg (cg w) (eV.refl w) (by intro e he;simp at he;subst he;exact .inr (.inr (.inl rfl))) (by simp) ?_ (fun _ e=>(by cases e)) (Nat.le_refl _) rfl (gA (by simp[aw.mu,WK.N3])) mM fun cl' hc Ee _=>?_
 ·refine⟨hK,?_,hp,fun _=>⟨_,ConcN.RelBy.new hd _ _⟩⟩
  rw[Deaf_own,hd];rfl
 exact⟨st,sm,ha,NM hi rfl rfl rfl rfl Ee⟩
theorem Inv.k1(h:Inv E L K gs w t D pend cl main d0)(hm:iv E main)(hi:D[i]?=some (.st .k1 0)) (hg:gs[i+1]?=some g):rI E L K D pend cl main d0 (crowd gs w sl) sl t (i+1):=by
 obtain⟨fG,dz,fL⟩:=h.base.ok i _ hi
 obtain rfl:fG=g:=by rw[hg] at dz;exact(Option.some.inj dz).symm
 obtain⟨hK,hd,⟨hs,g',cg,n,hp⟩,Qf⟩:=fL
 obtain⟨p,iV⟩:=Qf rfl
 obtain⟨st,sm,ha,mM⟩:=h.sy.cells
 refine h.Ae hm (r':= .st .d1 n) hi hg (cg w) (eV.refl w) (by intro e he;simp at he;subst he;exact .inl rfl) (by simp) ?_ (fun _ e=>(by cases e)) (Nat.le_refl _) rfl (gA (by simp[aw.mu,WK.N3])) mM fun cl' hc Ee _=>?_
 ·refine⟨hK,?_,hp,fun _=>⟨p,ConcN.RelBy.appOwn iV _ _ _ fun j e he=> .inl ?_⟩⟩
  ·rw[Deaf_own,hd];rfl
  have:=Array.mem_of_getElem? he;simp at this;subst this;rfl
 exact⟨st,sm,ha,NM hi rfl rfl rfl rfl Ee⟩
theorem Inv.d1(h:Inv E L K gs w t D pend cl main d0)(hm:iv E main)(hi:D[i]?=some (.st .d1 0)) (hg:gs[i+1]?=some g):rI E L K D pend cl main d0 (crowd gs w sl) sl t (i+1):=by
 obtain⟨fG,dz,fL⟩:=h.base.ok i _ hi
 obtain rfl:fG=g:=by rw[hg] at dz;exact(Option.some.inj dz).symm
 obtain⟨hK,hd,aGm,Qf⟩:=fL
 obtain⟨p,iV⟩:=Qf rfl
 obtain⟨st,sm,ha,mM⟩:=h.sy.cells
 have iY:cl≠none:=fun e=>by
  have:=h.sy.Gf
  subst e
  exact this _ (List.mem_of_getElem? hi)
 have hn:1≤fM aw.cnt D+pend:=Nat.le_trans (u4 aw.cnt hi) (Nat.le_add_right _ _)
 obtain⟨v,wt,hv,hwt,rfl,rfl,ea,eb,ec,_,_⟩:=mM.d1 hn (V1 iY)
 have KC:=h.sy.DL
 obtain⟨hs,dk⟩:=aGm
 obtain⟨g',cg,SO,OY⟩:=dk v wt hwt (by omega)
 have asb:ConcN.RelBy (stA E.Wg) (t++MemOp.ofEvents (i+1) fG.frame.fn fG.frame.place #[rd (stA E.Wg),wr (stA E.Wg)]) (i+1) p:=by
  refine ConcN.RelBy.appOwn iV _ _ _ fun j e he=> .inr ?_
  have GN:Deaf t (i+1)=1:=hd
  match j,he with
  |0,he=>simp at he;subst he;exact⟨⟨_,_,rfl⟩,by simp[deafBehind,GN]⟩
  |1,he=>simp at he;subst he;exact⟨⟨_,_,rfl⟩,by simp[deafBehind,GN,rd]⟩
  |j+2,he=>simp at he
 have AN:Deaf (t++MemOp.ofEvents (i+1) fG.frame.fn fG.frame.place #[rd (stA E.Wg),wr (stA E.Wg)]) (i+1)=1:=by rw[Deaf_own,hd];rfl
 have AK:∀e∈ #[rd (stA E.Wg),wr (stA E.Wg)],jv E e:=by intro e he;simp at he;rcases he with rfl|rfl<;>exact oD 0 _
 have cq:¬ ∃ic tr n,cl=some (ic,CK.run tr,n):=fun⟨ic,tr,n,e⟩=>by
  have:=mM.run (k:= .run tr) (by rw[e];rfl) trivial
  omega
 by_cases hb:v=0∧wt=1
 ·obtain⟨n,hp⟩:=SO hb
  refine h.Ae hm (r':= .st .d2 n) hi hg (cg w ha) (eV.set w 0 _) AK (by simp) ⟨hK,AN,hp,fun _=>⟨p,asb⟩⟩ (fun _ e=>(by cases e)) (Nat.zero_le _) rfl (gA (by simp[aw.mu,WK.N3])) mM fun cl' hc Ee _=>?_
  obtain⟨v',wt',hv',aT5,est,_,_,_,_,h1,_⟩:=Ee.d1 hn (V1 hc)
  have:v'=v:=by omega
  subst this
  have:wt'=wt:=by omega
  subst this
  exact⟨_,_,Go.ConcR.WgAt.setSt ha _,NM hi (by simp[aw.cnt];omega) (by simp[aw.c4];omega) (by simp[aw.c3];omega) (by simp[aw.c2];omega) (h1 hb)⟩
 obtain⟨q,hq⟩:=OY hb
 refine h.Ae hm (r':= .leave q 1 true) hi hg (cg w ha) (eV.set w 0 _) AK (by simp) ⟨hK,hq,AN,fun _=>⟨p,asb⟩,fun e=>(by cases e)⟩ (fun e _=>cq e) (Nat.zero_le _) rfl (gA (by simp[aw.mu,WK.N3])) mM fun cl' hc Ee _=>?_
 obtain⟨v',wt',hv',aT5,est,_,_,_,_,_,h1⟩:=Ee.d1 hn (V1 hc)
 have:v'=v:=by omega
 subst this
 have:wt'=wt:=by omega
 subst this
 exact⟨_,_,Go.ConcR.WgAt.setSt ha _,NM hi (by simp[aw.cnt];omega) (by simp[aw.c4];omega) (by simp[aw.c3];omega) (by simp[aw.c2];omega) (h1 hb)⟩
theorem Inv.d2(h:Inv E L K gs w t D pend cl main d0)(hm:iv E main)(hi:D[i]?=some (.st .d2 0)) (hg:gs[i+1]?=some g):rI E L K D pend cl main d0 (crowd gs w sl) sl t (i+1):=by
 obtain⟨fG,dz,fL⟩:=h.base.ok i _ hi
 obtain rfl:fG=g:=by rw[hg] at dz;exact(Option.some.inj dz).symm
 obtain⟨hK,hd,⟨hs,g',cg,n,hp⟩,Qf⟩:=fL
 obtain⟨p,iV⟩:=Qf rfl
 obtain⟨st,sm,ha,mM⟩:=h.sy.cells
 have hn:1≤fM aw.c4 D:=u4 aw.c4 hi
 obtain⟨rfl,rfl,e1,e4,e3,e2,_⟩:=mM.d2 hn
 refine h.Ae hm (r':= .st .d3 n) hi hg (cg w ha) (eV.refl w) (by intro e he;simp at he;subst he;exact oD 0 _) (by simp) ?_ (fun _ e=>(by cases e)) (Nat.le_refl _) rfl (gA (by simp[aw.mu,WK.N3])) mM fun cl' hc Ee _=>?_
 ·refine⟨hK,?_,hp,fun _=>⟨p,ConcN.RelBy.appOwn iV _ _ _ fun j e he=> .inr ?_⟩⟩
  ·rw[Deaf_own,hd];rfl
  have GN:Deaf t (i+1)=1:=hd
  match j,he with
  |0,he=>simp at he;subst he;exact⟨⟨_,_,rfl⟩,by simp[deafBehind,GN]⟩
  |j+1,he=>simp at he
 exact⟨_,_,ha,NM hi (by simp[aw.cnt];omega) (by simp[aw.c4];omega) (by simp[aw.c3];omega) (by simp[aw.c2];omega) (Ee.d2 hn).2.2.2.2.2.2⟩
theorem Inv.d3(h:Inv E L K gs w t D pend cl main d0)(hm:iv E main)(hi:D[i]?=some (.st .d3 0)) (hg:gs[i+1]?=some g):rI E L K D pend cl main d0 (crowd gs w sl) sl t (i+1):=by
 obtain⟨fG,dz,fL⟩:=h.base.ok i _ hi
 obtain rfl:fG=g:=by rw[hg] at dz;exact(Option.some.inj dz).symm
 obtain⟨hK,hd,⟨hs,g',cg,n,hp⟩,Qf⟩:=fL
 obtain⟨p,iV⟩:=Qf rfl
 obtain⟨st,sm,ha,mM⟩:=h.sy.cells
 have hn:1≤fM aw.c3 D:=u4 aw.c3 hi
 obtain⟨rfl,rfl,e1,e4,e3,e2,_⟩:=mM.d3 hn
 refine h.Ae hm (r':= .st .d4 n) hi hg (cg w ha) (eV.set w 0 _) (by intro e he;simp at he;subst he;exact oD 0 _) (by simp) ?_ (fun _ e=>(by cases e)) (Nat.le_refl _) rfl (gA (by simp[aw.mu,WK.N3])) mM fun cl' hc Ee _=>?_
 ·refine⟨hK,?_,hp,fun _=>⟨p,ConcN.RelBy.appOwn iV _ _ _ fun j e he=> .inr ?_⟩⟩
  ·rw[Deaf_own,hd];rfl
  have GN:Deaf t (i+1)=1:=hd
  match j,he with
  |0,he=>simp at he;subst he;exact⟨⟨_,_,rfl⟩,by simp[deafBehind,GN]⟩
  |j+1,he=>simp at he
 exact⟨_,_,Go.ConcR.WgAt.setSt ha _,NM hi (by simp[aw.cnt];omega) (by simp[aw.c4];omega) (by simp[aw.c3];omega) (by simp[aw.c2];omega) (Ee.d3 hn).2.2.2.2.2.2⟩
theorem Inv.d4(h:Inv E L K gs w t D pend cl main d0)(hm:iv E main)(hi:D[i]?=some (.st .d4 0)) (hg:gs[i+1]?=some g):rI E L K D pend cl main d0 (crowd gs w sl) sl t (i+1):=by
 obtain⟨fG,dz,fL⟩:=h.base.ok i _ hi
 obtain rfl:fG=g:=by rw[hg] at dz;exact(Option.some.inj dz).symm
 obtain⟨hK,hd,⟨hs,hmw,g',cg,q,hq⟩,Qf⟩:=fL
 obtain⟨p,iV⟩:=Qf rfl
 obtain⟨st,sm,ha,mM⟩:=h.sy.cells
 have hn:1≤fM aw.c2 D:=u4 aw.c2 hi
 obtain⟨rfl,rfl,e1,e4,e3,e2,_⟩:=mM.d4 hn
 have GN:Deaf t (i+1)=1:=hd
 have cq:¬ ∃ic tr n,cl=some (ic,CK.run tr,n):=fun⟨ic,tr,n,e⟩=>by
  have:=mM.run (k:= .run tr) (by rw[e];rfl) trivial
  omega
 refine h.Ae hm (r':= .leave q 1 true) hi hg (cg w ha) (eV.set w 1 _) (by
  intro e he;simp[semEvents] at he
  rcases he with rfl|rfl|rfl|rfl
  ·exact .inl rfl
  ·exact oD 1 _
  ·exact oD 1 _
  exact .inr (.inl rfl)) (by simp) ?_ (fun e _=>cq e) (Nat.le_refl _) rfl (gA (by simp[aw.mu,WK.N3])) mM fun cl' hc Ee hb=>?_
 ·refine⟨hK,hq,?_,fun _=>⟨p,ConcN.RelBy.appOwn iV _ _ _ fun j e he=>?_⟩,fun e=>(by cases e)⟩
  ·rw[Deaf_own,hd];rfl
  match j,he with
  |0,he=>simp[semEvents] at he;subst he;exact .inl rfl
  |1,he=>simp[semEvents] at he;subst he;exact .inr ⟨⟨_,_,rfl⟩,by simp[deafBehind,GN,semEvents]⟩
  |2,he=>simp[semEvents] at he;subst he;exact .inr ⟨⟨_,_,rfl⟩,by simp[deafBehind,GN,semEvents]⟩
  |3,he=>simp[semEvents] at he;subst he;exact .inl rfl
  |j+4,he=>simp[semEvents] at he
 exact⟨_,_,Go.ConcR.WgAt.setSm ha _,NM hi (by simp[aw.cnt];omega) (by simp[aw.c4];omega) (by simp[aw.c3];omega) (by simp[aw.c2];omega) ((Ee.d4 hn).2.2.2.2.2.2 (aoh (hb hmw hq.status)))⟩
end
def CK.phi(mx:Nat):CK→Nat
 | .kd=>2*mx+9
 | .w1 b=>2*b+8
 | .w2 b _=>2*b+9
 | .wr=>7
 | .w3| .blk=>6
 | .w4=>5
 | .ke=>4
 | .aq=>3
 | .run _=>2
def CK.tree:CK→Tree
 | .run tr=>tr
 |_=> .leaf
def nQ(mx:Nat):Bf→Nat×Tree×Nat
 |none=>(0,.leaf,0)
 |some (_,c,n)=>(c.phi mx,c.tree,n)
section
variable {ι:Type} {E:eg ι} {L:Nat→Option Obj} {K:Nat→St} {gs:Array Goroutine} {w w':World} {t u:Trace} {D:List (aw ι)} {pend d0:Nat} {main:Goroutine} {sl:Option (Nat×Nat)}
 {ic:Nat} {g g':Goroutine} {es:Array Event} {c:CK} {n:Nat}
def Uf(E:eg ι)(L:Nat→Option Obj)(K:Nat→St)(D:List (aw ι))(pend:Nat)(ic:Nat)(c:CK)(n:Nat)(main:Goroutine)(d0:Nat)(m:Machine)(sl:Option (Nat×Nat))(t:Trace):Prop:=
 ∃K' lM w' u c' n',runT E.P m (ic+1)=(.next (crowd lM w' sl),u)∧Inv E L K' lM w' (t++u) D pend (some (ic,c',n')) main d0∧K' 0=K 0∧Gj (nQ E.max (some (ic,c',n'))) (nQ E.max (some (ic,c,n)))
theorem Inv.goC(h:Inv E L K gs w t D pend (some (ic,c,n)) main d0)(hm:iv E main){c':CK} 
 (hg:gs[ic+1]?=some g) (hgo:stepG E.P false g w= .go g' w' es) (OQ:X6 w w')
 (cu:¬s'.knows E.Wg) (mI:¬s'.knows E.Ch) (wH:w'.heap[E.Ch]?=w.heap[E.Ch]?)
 (n8:Fit L (gp K (ic+1) s') w' (t++MemOp.ofEvents (ic+1) g.frame.fn g.frame.place es))
 (lH:∀op∈MemOp.ofEvents (ic+1) g.frame.fn g.frame.place es,∀x,op.act.touch?=some x→E.At x→x.kind≠ .plain)
 (ZW:c'.early→c.early∧∀op∈MemOp.ofEvents (ic+1) g.frame.fn g.frame.place es,∀x,op.act.touch?=some x→blk x.loc=some E.Wg→x.kind≠ .said)
 (iV:∀op∈MemOp.ofEvents (ic+1) g.frame.fn g.frame.place es,∀a,op.act≠ .mark (.release a))
 (od:∃st sm,WgAt E.ty E.Wg w' st sm∧Md E.max (fM aw.cnt D+pend) (fM aw.c4 D) (fM aw.c3 D) (fM aw.c2 D) (some c') st sm)
 (AN:deafBehind c.deaf es=c'.deaf) (qD:c'.at E s' g' n') (WX:(∃tr,c'= .run tr)→AcqAll E (t++MemOp.ofEvents (ic+1) g.frame.fn g.frame.place es) D ic)
 (Ut:Gj (nQ E.max (some (ic,c',n'))) (nQ E.max (some (ic,c,n)))):
 Uf E L K D pend ic c n main d0 (crowd gs w sl) sl t:=by
 have hu:∀op∈MemOp.ofEvents (ic+1) g.frame.fn g.frame.place es,op.g=ic+1:=fun op aC=>Go.ConcR.g_of_ofEvents op aC
 obtain⟨h1,h2,h3,⟨gc,GL,bkP⟩,h5⟩:=h.sy.Gf
 have cO:=(List.getElem?_eq_some_iff.1 h1).1
 obtain⟨sn,rc,tm,hc⟩:=h.sy.chan
 have ue:w'.heap[E.Ch]?=some (.chan 0 #[] false sn rc tm):=by rw[wH];exact hc
 have eD:D.set ic aw.closer=D:=by obtain⟨hl,e⟩:=List.getElem?_eq_some_iff.1 h1;rw[←e];simp
 have aae:=h.base.step (g:=g) (g':=g') (r':= .closer) cO hu OQ n8 trivial fun _ _ _ _=>⟨sn,rc,tm,ue⟩
 rw[eD] at aae
 have cq:=runT_crowd_go (P:=E.P) (sl:=sl) (i:=ic+1) hg (by simpa using hgo)
 have JV:∀b,¬s'.knows b→(∀j,¬(K j).knows b)→∀j,¬(gp K (ic+1) s' j).knows b:=fun b h1 h2 j=>by
  by_cases e:j=ic+1
  ·subst e;rw[aG];exact h1
  rw[aK _ _ e];exact h2 j
 have old:∀p x,touchAt (t++MemOp.ofEvents (ic+1) g.frame.fn g.frame.place es) p=some x→E.At x→x.kind= .plain→touchAt t p=some x:=fun p x hx hb hk=>by
  rcases bN hx with ⟨_,h'⟩| ⟨_,op,hm,_,zf⟩
  ·exact h'
  exact absurd hk (lH op hm x zf hb)
 refine⟨_,_,w',_,c',n',cq,⟨aae,⟨JV _ cu h.sy.kW,JV _ mI h.sy.kC,h.sy.lW,h.sy.lC,h.sy.ne,fun a=>(h.sy.norel a).app fun op aC=>iV op aC a,fun j hj p x hx hb hk=>(h.sy.plain j hj p x (old p x hx hb hk) hb hk).app _,fun he p x hx hb hk=>?_,od,h.sy.DL,⟨sn,rc,tm,ue⟩,fun sn rc tm hc=>h.sy.bal sn rc tm (by rw[←wH];exact hc),
  ⟨h1,h2,by rw[Deaf_own,h3];exact AN,⟨g',by simp[h.base.size,cO],by rw[aG];exact qD⟩,WX⟩⟩,?_,?_⟩,aK _ _ (by omega),Ut⟩
 ·rcases bN hx with ⟨_,h'⟩| ⟨_,op,hm,_,zf⟩
  ·exact(h.sy.said (ZW he).1 p x h' hb hk).app _
  exact absurd hk ((ZW he).2 op hm x zf hb)
 ·rw[gJ (by omega) h.main,hm.woken _ _ ue]
 rw[iF _ _ fun op aC=>by rw[hu op aC];omega];exact h.deaf
theorem Inv.zb(h:Inv E L K gs w t D pend (some (ic,c,n)) main d0)(hm:iv E main){c':CK} 
 (hg:gs[ic+1]?=some g) (hgo:stepG E.P false g w= .go g' w' es) (hw:eV E w w') (AK:∀e∈es,jv E e) (AM:c'.early→c.early)
 (od:∃st sm,WgAt E.ty E.Wg w' st sm∧Md E.max (fM aw.cnt D+pend) (fM aw.c4 D) (fM aw.c3 D) (fM aw.c2 D) (some c') st sm)
 (AN:deafBehind c.deaf es=c'.deaf) (qD:c'.at E (K (ic+1)) g' n') (WX:(∃tr,c'= .run tr)→AcqAll E (t++MemOp.ofEvents (ic+1) g.frame.fn g.frame.place es) D ic)
 (Ut:Gj (nQ E.max (some (ic,c',n'))) (nQ E.max (some (ic,c,n)))):
 Uf E L K D pend ic c n main d0 (crowd gs w sl) sl t:=by
 have ho:=jv.ops AK (ic+1) g.frame.fn g.frame.place
 refine h.goC hm hg hgo hw.same (h.sy.kW _) (h.sy.kC _) (hw.block _ (Ne.symm h.sy.ne)) ?_ (fun op aC x hx _=>by rw[((ho op aC).2.2 x hx).2];simp) (fun e=>⟨AM e,fun op aC x hx _=>by rw[((ho op aC).2.2 x hx).2];simp⟩)
  (fun op aC=>(ho op aC).2.1) od AN qD WX Ut
 rw[mG]
 exact h.sy.Cf h.base.fit (.inr ⟨ic,_,rfl,h.sy.Gf.1,rfl⟩) hw AK _ _
theorem Inv.E4(h:Inv E L K gs w t D pend (some (ic,c,n)) main d0)(hm:iv E main)(hg:gs[ic+1]?=some g) (MS:∀tr,c≠ .run tr)
 (cg:∀w,E.live w→stepG E.P false g w= .go g' w #[]) (qD:c.at E (K (ic+1)) g' n') (hn:n' <n):Uf E L K D pend ic c n main d0 (crowd gs w sl) sl t:=by
 obtain⟨st,sm,ha,mM⟩:=h.sy.cells
 exact h.zb hm hg (cg w ⟨st,sm,ha⟩) (eV.refl w) (by simp) (fun e=>e) ⟨st,sm,ha,mM⟩ rfl qD (fun⟨tr,e⟩=>absurd e (MS tr)) (GA hn)
theorem Md.zero{a c:Nat}{k:CK}(h:Md mx n a b c (some k) st sm)(hk:k= .kd∨(∃b,k= .w1 b)∨∃b v,k= .w2 b v):st=(n:Int)*KK∧sm=0∧a=0∧b=0∧c=0∧(∀b,k= .w1 b→n≤b)∧∀b v,k= .w2 b v→n≤v∧1≤v∧v≤b+1:=by
 have nw:¬k.waits∧¬k.over:=by rcases hk with rfl| ⟨_,rfl⟩| ⟨_,_,rfl⟩<;>exact⟨id,id⟩
 cases h with
 |kd=>exact⟨rfl,rfl,rfl,rfl,rfl,(fun _ e=>(by cases e)),(fun _ _ e=>(by cases e))⟩
 |w1 h1=>exact⟨rfl,rfl,rfl,rfl,rfl,(fun _ e=>by cases e;exact h1),(fun _ _ e=>(by cases e))⟩
 |w2 h1 h2 h3=>exact⟨rfl,rfl,rfl,rfl,rfl,(fun _ e=>(by cases e)),(fun _ _ e=>by cases e;exact⟨h1,h2,h3⟩)⟩
 |reg h1 _=>exact absurd h1 nw.1
 |l4 h1=>exact absurd h1 nw.1
 |l3 h1=>exact absurd h1 nw.1
 |l2 h1=>exact absurd h1 nw.1
 |sema h1 _=>exact absurd h1 nw.1
 |over h1=>exact absurd h1 nw.2
theorem Md.waiting{a c:Nat}{k k':CK}(h:Md mx n a b c (some k) st sm)(hk:k.waits)(ky:k'.waits)(hb:k'≠ .blk∨sm=0):Md mx n a b c (some k') st sm:=by
 cases h with
 |kd=>exact hk.elim
 |w1 _=>exact hk.elim
 |w2 _ _ _=>exact hk.elim
 |reg _ h2=>exact .reg ky h2
 |l4 _=>exact .l4 ky
 |l3 _=>exact .l3 ky
 |l2 _=>exact .l2 ky
 |sema _ _=>exact .sema ky (hb.resolve_right (by decide))
 |over h1=>cases k<;>first|exact hk.elim|exact h1.elim
theorem Md.up{a c:Nat}{k:CK}(h:Md mx n a b c (some k) st sm)(hk:k.waits):(∃x,x=st∧sm=0)∨(st=0∧sm=1∧n=0∧a=0∧b=0∧c=0):=by
 cases h with
 |kd=>exact hk.elim
 |w1 _=>exact hk.elim
 |w2 _ _ _=>exact hk.elim
 |reg _ _=>exact .inl ⟨_,rfl,rfl⟩
 |l4 _=>exact .inl ⟨_,rfl,rfl⟩
 |l3 _=>exact .inl ⟨_,rfl,rfl⟩
 |l2 _=>exact .inl ⟨_,rfl,rfl⟩
 |sema _ _=>exact .inr ⟨rfl,rfl,rfl,rfl,rfl,rfl⟩
 |over h1=>cases k<;>first|exact hk.elim|exact h1.elim
theorem abx:(∀e∈ #[said .disable],jv E e)∧(∀e∈ #[said .enable],jv E e)∧(∀e∈ #[said (.acquire (stA E.Wg))],jv E e)∧(∀e∈ #[rd (stA E.Wg)],jv E e)∧(∀e∈ #[rd (stA E.Wg),wr (stA E.Wg)],jv E e)∧(∀e∈semEvents (smA E.Wg),jv E e):=by
 refine⟨?_,?_,?_,?_,?_,?_⟩
 ·intro e he;simp at he;subst he;exact .inl rfl
 ·intro e he;simp at he;subst he;exact .inr (.inl rfl)
 ·intro e he;simp at he;subst he;exact .inr (.inr (.inr (.inl rfl)))
 ·intro e he;simp at he;subst he;exact oD 0 _
 ·intro e he;simp at he;rcases he with rfl|rfl<;>exact oD 0 _
 intro e he;simp[semEvents] at he
 rcases he with rfl|rfl|rfl|rfl
 ·exact .inl rfl
 ·exact oD 1 _
 ·exact oD 1 _
 exact .inr (.inl rfl)
end
section
variable {ι:Type} {E:eg ι} {L:Nat→Option Obj} {K:Nat→St} {gs:Array Goroutine} {w w':World} {t u:Trace} {D:List (aw ι)} {pend d0:Nat} {main:Goroutine} {sl:Option (Nat×Nat)}
 {ic:Nat} {g g':Goroutine} {es:Array Event} {c:CK} {n:Nat}
theorem Inv.closer(h:Inv E L K gs w t D pend (some (ic,c,n)) main d0)(hm:iv E main)(hg:gs[ic+1]?=some g) (hs:g.status= .running) (MS:c≠ .run .leaf):
 Uf E L K D pend ic c n main d0 (crowd gs w sl) sl t:=by
 obtain⟨_,_,AN,⟨gc,GL,qD⟩,WX⟩:=h.sy.Gf
 obtain rfl:gc=g:=by rw[hg] at GL;exact(Option.some.inj GL).symm
 obtain⟨st,sm,ha,mM⟩:=h.sy.cells
 obtain⟨s1,s2,s3,s4,s5,s6⟩:=abx (E:=E)
 cases c with
 |kd=>
  cases n with
  |succ n=>obtain⟨_,g',cg,hp⟩:=qD;exact h.E4 hm hg (by simp) cg hp (Nat.lt_succ_self n)
  |zero=>
   obtain⟨_,g',cg,n',hp⟩:=qD
   obtain⟨rfl,rfl,e4,e3,e2,_⟩:=mM.zero (.inl rfl)
   refine h.zb hm (c':= .w1 E.max) hg (cg w) (eV.refl w) s1 (fun _=>trivial) ⟨_,_,ha,?_⟩ rfl hp (fun⟨_,e⟩=>(by cases e)) (gA (by simp[nQ,CK.phi]))
   rw[e4,e3,e2];exact .w1 h.sy.DL
 |w1 b=>
  cases n with
  |succ n=>
   have:∃g',(∀w,E.live w→stepG E.P false gc w= .go g' w #[])∧Pure E.P false E.live (E.W1 (K (ic+1)) b) n g':=qD.2
   obtain⟨g',cg,hp⟩:=this
   exact h.E4 hm hg (by simp) cg hp (Nat.lt_succ_self n)
  |zero=>
   obtain⟨rfl,rfl,e4,e3,e2,hb,_⟩:=mM.zero (.inr (.inl ⟨b,rfl⟩))
   have hle:=hb b rfl
   rw[e4,e3,e2] at mM
   have out:(∃g',(∀w,WgAt E.ty E.Wg w 0 0→stepG E.P false gc w= .go g' w #[rd (stA E.Wg)])∧E.pure false (E.Ke (K (ic+1))) g')→fM aw.cnt D+pend=0→Uf E L K D pend ic (.w1 b) 0 main d0 (crowd gs w sl) sl t:=by
    rintro⟨g',cg,n',hp⟩ h0
    rw[h0] at ha
    have v9:WgAt E.ty E.Wg w 0 0:=by simpa using ha
    refine h.zb hm (c':= .ke) hg (cg w v9) (eV.refl w) s4 (fun e=>e.elim) ⟨_,_,v9,?_⟩ rfl hp (fun⟨_,e⟩=>(by cases e)) (gA (by simp[nQ,CK.phi]))
    rw[e4,e3,e2,h0];exact .over trivial
   cases b with
   |zero=>exact out qD.2 (by omega)
   |succ b=>
    obtain⟨_,h0,hv⟩:=qD
    by_cases hz:fM aw.cnt D+pend=0
    ·exact out h0 hz
    obtain⟨g',cg,n',hp⟩:=hv (fM aw.cnt D+pend) (by omega) hle
    refine h.zb hm (c':= .w2 b (fM aw.cnt D+pend)) hg (cg w ha) (eV.refl w) s4 (fun _=>trivial) ⟨_,_,ha,?_⟩ rfl hp (fun⟨_,e⟩=>(by cases e)) (gA (by simp only[nQ,CK.phi];omega))
    rw[e4,e3,e2];exact .w2 (Nat.le_refl _) (by omega) hle
 |w2 b v=>
  cases n with
  |succ n=>obtain⟨_,g',cg,hp⟩:=qD;exact h.E4 hm hg (by simp) cg hp (Nat.lt_succ_self n)
  |zero=>
   obtain⟨rfl,rfl,e4,e3,e2,_,hb⟩:=mM.zero (.inr (.inr ⟨b,v,rfl⟩))
   obtain⟨h1,h2,h3⟩:=hb b v rfl
   obtain⟨_,⟨fG,aUv,n1,hp1⟩,aG5⟩:=qD
   by_cases hv:fM aw.cnt D+pend=v
   ·rw[hv] at ha
    refine h.zb hm (c':= .wr) hg (aUv w ha) (eV.set w 0 _) s5 (fun _=>trivial) ⟨_,_,Go.ConcR.WgAt.setSt ha _,?_⟩ rfl hp1 (fun⟨_,e⟩=>(by cases e)) (gA (by simp only[nQ,CK.phi];omega))
    rw[e4,e3,e2,hv];exact .reg trivial h2
   obtain⟨q6,aUu,n2,Us⟩:=aG5 (fM aw.cnt D+pend) (by omega)
   refine h.zb hm (c':= .w1 b) hg (aUu w ha) (eV.refl w) s4 (fun _=>trivial) ⟨_,_,ha,?_⟩ rfl Us (fun⟨_,e⟩=>(by cases e)) (gA (by simp only[nQ,CK.phi];omega))
   rw[e4,e3,e2];exact .w1 (by omega)
 |wr=>
  cases n with
  |succ n=>obtain⟨_,g',cg,hp⟩:=qD;exact h.E4 hm hg (by simp) cg hp (Nat.lt_succ_self n)
  |zero=>
   obtain⟨_,g',cg,n',hp⟩:=qD
   have e1:MemOp.ofEvents (ic+1) gc.frame.fn gc.frame.place #[said (.write (smA E.Wg))]= #[{g:=ic+1,fn:=gc.frame.fn,pos:=gc.frame.place,act:= .mark (.write (smA E.Wg))}]:=by rw[ofEvents_eq];simp[said,Go.ConcR.ofEvent_mk]
   refine h.goC hm (c':= .w3) (n':=n'+1) (s':=K (ic+1)) hg (cg w) ⟨rfl,rfl⟩ (h.sy.kW _) (h.sy.kC _) rfl ?_ (fun op aC x hx _=>?_) (fun e=>e.elim) (fun op aC=>?_)
    ⟨_,_,ha,mM.waiting trivial trivial (.inl (by simp))⟩ rfl ⟨n',rfl,hp⟩ (fun⟨_,e⟩=>(by cases e)) (gA (by simp[nQ,CK.phi]))
   ·rw[mG,e1]
    refine h.base.fit.beside E.Wg (ic+1) h.sy.kW h.sy.lW (lt_size ha) (Nat.le_refl _) (fun _ _ _=>rfl) (by simp) fun op aC x hx=>?_
    simp only[List.mem_toArray,List.mem_singleton] at aC
    subst aC
    simp only[MemAct.touch?,Option.some.injEq] at hx
    subst hx
    refine⟨rfl,fun sd p a v9 hc=>?_⟩
    have hl:blk a.loc=some E.Wg:=by rw[hc.1];rfl
    rcases hc.2.2.2 with h3|h3|h3
    ·exact h.sy.plain _ (.inr ⟨ic,_,rfl,h.sy.Gf.1,rfl⟩) p a v9 (.inl hl) h3
    ·cases h3
    exact h.sy.said trivial p a v9 hl h3.2.1
   ·rw[e1] at aC
    simp only[List.mem_toArray,List.mem_singleton] at aC
    subst aC
    simp only[MemAct.touch?,Option.some.injEq] at hx
    subst hx
    simp
   rw[e1] at aC
   simp only[List.mem_toArray,List.mem_singleton] at aC
   subst aC
   simp
 |w3=>
  obtain⟨m,rfl,hp⟩:=qD
  cases m with
  |succ m=>obtain⟨_,g',cg,hp⟩:=hp;exact h.E4 hm hg (by simp) cg ⟨m,rfl,hp⟩ (Nat.lt_succ_self _)
  |zero=>
   have hp0:E.W3 (K (ic+1)) gc:=hp
   obtain⟨h1,h2,hb,g',cg,n',hp⟩:=hp
   rcases mM.up trivial with ⟨_,rfl,rfl⟩| ⟨rfl,rfl,e1,e4,e3,e2⟩
   ·refine h.zb hm (c':= .blk) (n':=0) hg (hb w _ ha) (eV.refl w) (by simp) (fun e=>e.elim) ⟨_,_,ha,mM.waiting trivial trivial (.inr rfl)⟩ rfl ⟨rfl,gc,hp0,rfl⟩ (fun⟨_,e⟩=>(by cases e)) (GA (Nat.lt_succ_self 0))
   refine h.zb hm (c':= .w4) hg (cg w ha) (eV.set w 1 _) s6 (fun e=>e.elim) ⟨_,_,Go.ConcR.WgAt.setSm ha _,?_⟩ rfl hp (fun⟨_,e⟩=>(by cases e)) (gA (by simp[nQ,CK.phi]))
   rw[e1,e4,e3,e2];exact .over trivial
 |blk=>
  obtain⟨_,wB,_,e⟩:=qD
  rw[e] at hs;cases hs
 |w4=>
  obtain⟨e1,e4,e3,e2,rfl,rfl⟩:=mM.run rfl trivial
  cases n with
  |succ n=>obtain⟨_,g',cg,hp⟩:=qD;exact h.E4 hm hg (by simp) cg hp (Nat.lt_succ_self n)
  |zero=>
   obtain⟨_,g',cg,n',hp⟩:=qD
   refine h.zb hm (c':= .ke) hg (cg w ha) (eV.refl w) s4 (fun e=>e.elim) ⟨_,_,ha,?_⟩ rfl hp (fun⟨_,e⟩=>(by cases e)) (gA (by simp[nQ,CK.phi]))
   rw[e1,e4,e3,e2];exact .over trivial
 |ke=>
  obtain⟨e1,e4,e3,e2,rfl,rfl⟩:=mM.run rfl trivial
  cases n with
  |succ n=>obtain⟨_,g',cg,hp⟩:=qD;exact h.E4 hm hg (by simp) cg hp (Nat.lt_succ_self n)
  |zero=>
   obtain⟨_,g',cg,n',hp⟩:=qD
   refine h.zb hm (c':= .aq) hg (cg w) (eV.refl w) s2 (fun e=>e.elim) ⟨_,_,ha,?_⟩ rfl hp (fun⟨_,e⟩=>(by cases e)) (gA (by simp[nQ,CK.phi]))
   rw[e1,e4,e3,e2];exact .over trivial
 |aq=>
  obtain⟨e1,e4,e3,e2,rfl,rfl⟩:=mM.run rfl trivial
  cases n with
  |succ n=>obtain⟨_,g',cg,hp⟩:=qD;exact h.E4 hm hg (by simp) cg hp (Nat.lt_succ_self n)
  |zero=>
   obtain⟨_,g',cg,tr,iR,hle,hp⟩:=qD
   have q1:MemOp.ofEvents (ic+1) gc.frame.fn gc.frame.place #[said (.acquire (stA E.Wg))]= #[{g:=ic+1,fn:=gc.frame.fn,pos:=gc.frame.place,act:= .mark (.acquire (stA E.Wg))}]:=by rw[ofEvents_eq];simp[said,Go.ConcR.ofEvent_mk]
   have hy:(t++ #[({g:=ic+1,fn:=gc.frame.fn,pos:=gc.frame.place,act:= .mark (.acquire (stA E.Wg))}:MemOp)])[t.size]?=some {g:=ic+1,fn:=gc.frame.fn,pos:=gc.frame.place,act:= .mark (.acquire (stA E.Wg))}:=by simp
   refine h.goC hm (c':= .run tr) (n':=0) (s':=iR) hg (cg w) ⟨rfl,rfl⟩ (fun hk=>h.sy.kW _ (hle.knows hk)) (fun hk=>h.sy.kC _ (hle.knows hk)) rfl ?_
    (fun op aC x hx _=>by rw[((jv.ops s3 _ _ _ op aC).2.2 x hx).2];simp) (fun e=>e.elim) (fun op aC=>(jv.ops s3 _ _ _ op aC).2.1) ⟨_,_,ha,?_⟩ rfl ⟨rfl,hp⟩ (fun _=>?_) (gA (by simp[nQ,CK.phi]))
   ·refine(h.sy.Cf h.base.fit (.inr ⟨ic,_,rfl,h.sy.Gf.1,rfl⟩) (eV.refl w) s3 _ _).le fun j=>?_
    by_cases e:j=ic+1
    ·subst e;rw[aG];exact hle
    rw[aK _ _ e];exact St.le_refl _
   ·rw[e1,e4,e3,e2];exact .over trivial
   rw[q1]
   refine⟨t.size,by rw[act?_of hy],by simp[Trace.g?],⟨ic+1,by simp[Trace.g?],by rw[deaf_old (Nat.le_refl _)];exact AN⟩,fun i r hi hc=>?_⟩
   obtain⟨x,hx,fL⟩:=h.base.ok i r hi
   cases r with
   |leave q d cur=>
    obtain⟨p,hp⟩:=fL.2.2.2.1 hc
    have dQ:i≠ic:=fun e=>by subst e;rw[h.sy.Gf.1] at hi;cases hi
    refine⟨p,RelBy.other hp (fun op aC=>by simp at aC;subst aC;simp;omega),lt_of_act? hp.act⟩
   |_=>cases hc
 |run tr=>
  obtain⟨e1,e4,e3,e2,rfl,rfl⟩:=mM.run rfl trivial
  obtain⟨rfl,hp⟩:=qD
  cases tr with
  |leaf=>exact absurd rfl MS
  |node f=>
   obtain⟨_,iq⟩:=hp
   obtain⟨g',w',es,s',cg,cq,ht,htr⟩:=iq w (h.base.fit.kB _)
   obtain⟨k1,k2,k3,k4,k5,k6⟩:=h.sy.BE ht gc.frame.fn gc.frame.place
   refine h.goC hm (c':= .run (f w)) (n':=0) hg cg ⟨ht.os,ht.output⟩ k1 k2 k4 (h.base.fit.own ht _ _) (fun op aC x hx hb=>absurd hb (k5 op aC x hx)) (fun e=>e.elim) k6
    ⟨0,0,by unfold WgAt;rw[k3];exact ha,by rw[e1,e4,e3,e2];exact .over trivial⟩ (ht.deaf _) ⟨rfl,htr⟩ (fun _=>?_) (HO (.mk f w))
   have:=(WX ⟨_,rfl⟩).step (r:= .closer) (r':= .closer) h.sy.Gf.1 (u:=MemOp.ofEvents (ic+1) gc.frame.fn gc.frame.place es) (fun op aC=>Go.ConcR.g_of_ofEvents op aC) (fun e=>e) (fun e=>(by cases e))
   rwa[show D.set ic aw.closer=D from by obtain⟨hl,e⟩:=List.getElem?_eq_some_iff.1 h.sy.Gf.1;rw[←e];simp] at this
end
section
variable {ι:Type} {E:eg ι} {L:Nat→Option Obj} {K:Nat→St} {gs:Array Goroutine} {w w':World} {t u:Trace} {D:List (aw ι)} {pend d0:Nat} {cl:Bf} {main:Goroutine} {sl:Option (Nat×Nat)}
 {i:Nat} {g g':Goroutine} {es:Array Event}
theorem Kq(h:g.offers=none)(r:Nat)(send:Bool):offersAt g r send=[]:=by
 unfold offersAt
 split
 ·rename_i h';rw[h] at h';cases h'
 rfl
theorem su(h:g.status= .running∨g.status= .finished)(r:Nat)(send:Bool):offersAt g r send=[]:=
 offersAt_of_not_blocked (by rcases h with h|h<;>rw[h]<;>simp) r send
theorem Inv.offers(h:Inv E L K gs w t D pend cl main d0){x:Goroutine}(hj:gs[j+1]?=some x):
 (∃o q6 v zs,D[j]?=some (.ij o)∧x=parked q6 #[scase E.Ch v zs] .send)∨∀r send,offersAt x r send=[]:=by
 have cO:j <D.length:=by have:=lt_size hj;have:=h.base.size;omega
 have hD:D[j]?=some D[j]:=List.getElem?_eq_getElem cO
 obtain⟨y,hy,fL⟩:=h.base.ok j _ hD
 obtain rfl:y=x:=by rw[hj] at hy;exact(Option.some.inj hy).symm
 by_cases hb:∃o,D[j]= .ij o
 ·obtain⟨o,e⟩:=hb
  rw[e] at fL
  obtain⟨_,wB,q6,v,zs,X,Y,rfl,_⟩:=fL
  exact .inl ⟨o,q6,v,zs,by rw[hD,e],rfl⟩
 right
 by_cases hc:D[j]= .closer
 ·have jN:=h.sy.Gf
  match cl,jN with
  |none,jN=>
   have:=jN D[j] (List.mem_of_getElem? hD)
   rw[hc] at this
   exact this.elim
  |some (ic,c,n),⟨_,h2,_,⟨gc,GL,qD⟩,_⟩=>
   have e:=h2 j (by rw[hD,hc])
   subst e
   obtain rfl:gc=y:=by rw[hj] at GL;exact(Option.some.inj GL).symm
   intro r send
   by_cases ai7:c= .blk
   ·subst ai7
    obtain⟨_,wB,ass,e⟩:=qD
    exact Kq (by rw[e];exact ass.2.1) r send
   exact su (.inl (CK.vu qD ai7)) r send
 exact su (fL.running (fun o e=>hb ⟨o,e⟩) hc)
theorem Inv.abv(h:Inv E L K gs w t D pend cl main d0)(hm:main.status= .running){o:ι}(hi:D[i]?=some (.work o .leaf)) (hg:gs[i+1]?=some g):
 rI E L K D pend cl main d0 (crowd gs w sl) sl t (i+1):=by
 obtain⟨fG,dz,fL⟩:=h.base.ok i _ hi
 obtain rfl:fG=g:=by rw[hg] at dz;exact(Option.some.inj dz).symm
 obtain⟨hd,hs,q6,v,zs,X,Y,hXY,oT,cg,vZ⟩:=fL
 obtain⟨sn,rc,tm,hc⟩:=h.sy.chan
 have JQ:partners (gs.setIfInBounds (i+1) ph) E.Ch false=[]:=partners_nil fun j x hx=>by
  rcases getElem?_stand gs _ _ _ hx with ⟨_,rfl⟩| ⟨_,mz⟩
  ·exact offersAt_ph _ _
  cases j with
  |zero=>
   have:x=main:=by rw[h.main] at mz;exact(Option.some.inj mz).symm
   subst this
   exact su (.inl hm) _ _
  |succ j=>
   rcases h.offers mz with ⟨o',g',v',zs',_,rfl⟩|hn
   ·exact offersAt_parked_send' _ _ _ _ _ _
   exact hn _ _
 have cq:=crowd_waits (sl:=sl) hg (by simpa using cg w (h.base.fit.kB _)) (fun cc rP=>by
  simp only[List.mem_toArray,List.mem_singleton] at rP
  subst rP
  exact ways_send_none hc (Nat.le_refl 0) JQ)
 have e0:MemOp.ofEvents (i+1) fG.frame.fn fG.frame.place #[]= #[]:=rfl
 rw[e0] at cq
 have ew:gs.map (woken E.P fG (parked q6 #[scase E.Ch v zs] .send) w)=gs:=by
  have:woken E.P fG (parked q6 #[scase E.Ch v zs] .send) w=id:=by funext x;simp[Go.Conc.woken,parked]
  rw[this,Array.map_id]
 refine h.go' (.inl hm) (r':= .ij o) (s':=K (i+1)) (w':=w) (g':=parked q6 #[scase E.Ch v zs] .send) (u:= #[]) hi (by simp) (by simp) hg (by simp) (by rw[ew];exact cq) ⟨rfl,rfl⟩ (h.sy.kW _) (h.sy.kC _) rfl ?_ ?_ (by simp) (by simp)
  (fun _=>rfl) (fun e=>e) (fun _ e=>e) (fun e=>(by cases e)) (Nat.le_refl _) rfl (gA (by simp[aw.mu])) (fun cl' hw _=>h.ry (r':= .ij o) hi rfl rfl rfl rfl rfl cl' hw) fun _=>hm
 ·rw[mG,Array.append_empty];exact h.base.fit
 rw[Array.append_empty];exact⟨hd,q6,q6,v,zs,X,Y,rfl,hXY,oT,rfl,vZ⟩
theorem Inv.norm(h:Inv E L K gs w t D pend cl main d0)(hi:D[i]?=some (.back .leaf)):
 ∃n,Inv E L (gp K (i+1) ⟨fun _=>none,[]⟩) gs w t (D.set i (.st .r0 n)) pend cl main d0∧k9 (D.set i (.st .r0 n))=k9 D∧One vv (D.set i (.st .r0 n)) D:=by
 obtain⟨g,hg,hd,n,hp⟩:=h.base.ok i _ hi
 have cO:=(List.getElem?_eq_some_iff.1 hi).1
 have pU:∀ {k x},(D.set i (aw.st .r0 n))[k]?=some x→(k=i∧x= .st .r0 n)∨(k≠i∧D[k]?=some x):=fun {k x} hk=>by
  by_cases e:k=i
  ·subst e
   exact .inl ⟨rfl,by simpa [List.getElem?_set,cO] using hk.symm⟩
  rw[List.getElem?_set_ne (Ne.symm e)] at hk;exact .inr ⟨e,hk⟩
 have hle:∀j,(gp K (i+1) ⟨fun _=>none,[]⟩ j).le (K j):=fun j=>by
  by_cases e:j=i+1
  ·subst e;rw[aG];exact⟨(K (i+1)).rw,by simp,fun b o hb=>(by cases hb)⟩
  rw[aK _ _ e];exact St.le_refl _
 have iY:cl≠none:=fun e=>by
  have:=h.sy.Gf
  subst e
  exact this _ (List.mem_of_getElem? hi)
 refine⟨n,⟨⟨h.base.fit.le hle,by simp[h.base.size],fun k r hk=>?_,fun k hk b hb=>h.base.far k hk b ((hle k).knows hb),h.base.ops,h.base.same⟩,
  ⟨fun j hj=>h.sy.kW j ((hle j).knows hj),fun j hj=>h.sy.kC j ((hle j).knows hj),h.sy.lW,h.sy.lC,h.sy.ne,h.sy.norel,fun j hj=>h.sy.plain j ?_,h.sy.said,?_,?_,h.sy.chan,h.sy.bal,?_⟩,h.main,h.deaf⟩,HE (r:= .back .leaf) (r':= .st .r0 n) rfl hi,One.set hi (gA (by simp[aw.mu,WK.N3]))⟩
 ·rcases pU hk with ⟨rfl,rfl⟩| ⟨dQ,ky⟩
  ·exact⟨g,hg,by rw[aG],hd,hp,fun e=>(by cases e)⟩
  rw[aK _ _ (by omega)];exact h.base.ok k r ky
 ·rcases hj with hj| ⟨k,r,rfl,hk,hl⟩
  ·exact .inl hj
  rcases pU hk with ⟨rfl,rfl⟩| ⟨_,ky⟩
  ·exact .inr ⟨_,_,rfl,hi,rfl⟩
  exact .inr ⟨k,r,rfl,ky,hl⟩
 ·obtain⟨st,sm,ha,mM⟩:=h.sy.cells
  exact⟨st,sm,ha,NM hi rfl rfl rfl rfl mM⟩
 ·have:=ko aw.cnt (y:=aw.st .r0 n) hi
  have e:(aw.st (ι:=ι) .r0 n).cnt=(aw.back (ι:=ι) .leaf).cnt:=rfl
  have:=h.sy.DL
  omega
 have jN:=h.sy.Gf
 match cl,jN,iY with
 |some (ic,c,m),⟨h1,h2,h3,⟨gc,GL,qD⟩,h5⟩,_=>
  have dQ:ic≠i:=fun e=>by subst e;rw[hi] at h1;cases h1
  refine⟨by rw[List.getElem?_set_ne (Ne.symm dQ)];exact h1,fun k hk=>?_,h3,⟨gc,GL,by rw[aK _ _ (by omega)];exact qD⟩,fun hr=>?_⟩
  ·rcases pU hk with ⟨_,e⟩| ⟨_,ky⟩
   ·cases e
   exact h2 k ky
  have:=(h5 hr).step (u:= #[]) (r':= .st .r0 n) hi (by simp) (fun e=>(by cases e)) (fun e=>(by cases e))
  rwa[Array.append_empty] at this
end
section
variable {ι:Type} {E:eg ι} {L:Nat→Option Obj} {K:Nat→St} {gs lM:Array Goroutine} {w w':World} {t u:Trace} {D:List (aw ι)} {pend d0:Nat} {cl:Bf} {main main':Goroutine} {sl:Option (Nat×Nat)}
 {i:Nat} {g g':Goroutine} {es:Array Event}
theorem gG(t:Trace)(g:Nat)(u:Trace)(hu:∀op∈u,∀m,op.act≠ .mark m):Deaf (t++u) g=Deaf t g:=by
 obtain⟨l⟩:=u
 rw[Deaf_append]
 induction l generalizing t with
 |nil=>rfl
 |cons y l ih=>
  have hy:=hu y (by simp)
  have e1:deafStep g (Deaf t g) y=Deaf t g:=by
   unfold deafStep
   split
   ·rename_i e;exact absurd e (hy _)
   ·rename_i e;exact absurd e (hy _)
   rfl
  rw[List.foldl_cons,e1]
  exact ih t (fun op aC=>hu op (by simp at aC ⊢;exact .inr aC))
theorem DE{o:ι}{r':aw ι}(ho:r'.Zc=none):∀ {D:List (aw ι)} {i:Nat} {r:aw ι},D[i]?=some r→r.Zc=some o→∃a b,k9 D=a++o::b∧k9 (D.set i r')=a++b
 | [],i,r,h,_=>by simp at h
 |x::D,0,r,h,hr=>by
  simp only[List.getElem?_cons_zero,Option.some.injEq] at h;subst h
  exact⟨[],k9 D,by simp[k9,hr],by simp[k9,ho]⟩
 |x::D,i+1,r,h,hr=>by
  obtain⟨a,b,h1,h2⟩:=DE ho (D:=D) (i:=i) (by simpa using h) hr
  cases hx:x.Zc with
  |none=>exact⟨a,b,by simp only[k9,List.filterMap_cons,hx] at h1 ⊢;exact h1,by simp only[k9,List.set_cons_succ,List.filterMap_cons,hx] at h2 ⊢;exact h2⟩
  |some y=>exact⟨y::a,b,by simp only[k9,List.filterMap_cons,hx] at h1 ⊢;rw[h1];rfl,by simp only[k9,List.set_cons_succ,List.filterMap_cons,hx] at h2 ⊢;rw[h2];rfl⟩
theorem Inv.meet(h:Inv E L K gs w t D pend cl main 0)(iY:cl≠none){r:aw ι}{o:ι}{X Y:List (Nat×Obj)}{tr:Tree}{gw:Goroutine}(hi:D[i]?=some r) (hr:r= .work o .leaf∨r= .ij o)
 (hd:Deaf t (i+1)=0) (hXY:(K (i+1)).rw.Perm (X++Y)) (hle:iR.le ⟨(K (i+1)).ro,Y⟩) (hb:pq E.P false E.JG tr gw iR)
 (uA:lM.size=gs.size) (h0:lM[0]?=some main') (hw1:lM[i+1]?=some gw) (hgs:∀k,k≠0→k≠i+1→lM[k]?=gs[k]?)
  (hc:w.heap[E.Ch]?=some (.chan 0 #[] false sn rc tm)) (ue:w'.heap[E.Ch]?=some (.chan 0 #[] false (sn+1) (rc+1) tm)) (td:w'.heap.size=w.heap.size) (hwb:∀b,b≠E.Ch→w'.heap[b]?=w.heap[b]?) (OQ:X6 w w')
 {a0 a1 a2 a3:MemOp} (e0:a0.g=i+1∧a0.act= .send E.Ch sn) (e1:a1.g=0∧a1.act= .recv E.Ch rc 0) (e2:a2.g=i+1∧a2.act= .sendDone E.Ch sn) (e3:a3.g=0∧a3.act= .recvDone E.Ch rc):
 Inv E L (gp (gp K (i+1) iR) 0 ⟨(K 0).ro,X++(K 0).rw⟩) lM w' (t++ #[a0,a1,a2,a3]) (D.set i (.back tr)) pend cl main' 0:=by
 have cO:=(List.getElem?_eq_some_iff.1 hi).1
 have ayC:=h.sy.bal _ _ _ hc
 subst ayC
 have pU:∀ {k x},(D.set i (aw.back tr))[k]?=some x→(k=i∧x= .back tr)∨(k≠i∧D[k]?=some x):=fun {k x} hk=>by
  by_cases e:k=i
  ·subst e
   exact .inl ⟨rfl,by simpa [List.getElem?_set,cO] using hk.symm⟩
  rw[List.getElem?_set_ne (Ne.symm e)] at hk;exact .inr ⟨e,hk⟩
 have hu:∀op∈ #[a0,a1,a2,a3],op.g=i+1∨op.g=0:=by intro op aC;simp at aC;rcases aC with rfl|rfl|rfl|rfl<;>simp[e0.1,e1.1,e2.1,e3.1]
 have hq:∀op∈ #[a0,a1,a2,a3],op.act.touch?=none:=by intro op aC;simp at aC;rcases aC with rfl|rfl|rfl|rfl<;>simp[e0.2,e1.2,e2.2,e3.2,MemAct.touch?]
 have SN:∀op∈ #[a0,a1,a2,a3],∀m,op.act≠ .mark m:=by intro op aC;simp at aC;rcases aC with rfl|rfl|rfl|rfl<;>simp[e0.2,e1.2,e2.2,e3.2]
 have AN:∀k,Deaf (t++ #[a0,a1,a2,a3]) k=Deaf t k:=fun k=>gG t k _ SN
 have p0:(t++ #[a0,a1,a2,a3])[t.size]?=some a0:=by simp
 have p3:(t++ #[a0,a1,a2,a3])[t.size+3]?=some a3:=by simp
 have hear:∀k (hk:k≤3) (op:MemOp),(t++ #[a0,a1,a2,a3])[t.size+k]?=some op→op.g=i+1∨op.g=0→Deaf t (i+1)=0→Deaf t 0=0→(t++ #[a0,a1,a2,a3]).heard (t.size+k):=by
  intro k hk op ho hg h1 h2
  refine⟨op.g,by simp only[Trace.g?,ho,Option.map_some],?_⟩
  have key:∀k,k≤3→∀q,Deaf t q=0→(t++ #[a0,a1,a2,a3]).deaf q (t.size+k)=0:=by
   intro k
   induction k with
   |zero=>intro _ q hq;rw[Nat.add_zero,deaf_old (Nat.le_refl _)];exact hq
   |succ k ih=>
    intro hk q GH
    have cO:t.size+k <(t++ #[a0,a1,a2,a3]).size:=by simp;omega
    have hm:(t++ #[a0,a1,a2,a3])[t.size+k]?=some (t++ #[a0,a1,a2,a3])[t.size+k]:=Array.getElem?_eq_getElem cO
    have yt:(t++ #[a0,a1,a2,a3])[t.size+k]∈ #[a0,a1,a2,a3]:=by
     rcases getElem?_append_cases hm with ⟨h',_⟩| ⟨_,h'⟩
     ·omega
     exact h'
    rw[show t.size+(k+1)=t.size+k+1 by omega,deaf_succ hm,ih (by omega) q GH]
    have hn:=SN _ yt
    unfold deafStep
    split
    ·rename_i e;exact absurd e (hn _)
    ·rename_i e;exact absurd e (hn _)
    rfl
  rcases hg with hg|hg<;>rw[hg]
  ·exact key k hk _ h1
  exact key k hk _ h2
 have ac3:HappensBefore (t++ #[a0,a1,a2,a3]) t.size (t.size+3):=
  .single (.inr ⟨.handOver (c:=E.Ch) (k:=sn) (by rw[act?_of p0,e0.2]) (by rw[act?_of p3,e3.2]),hear 0 (by omega) a0 p0 (.inl e0.1) hd h.deaf,hear 3 (by omega) a3 p3 (.inr e3.1) hd h.deaf⟩)
 have aY2:Fit L K w' (t++ #[a0,a1,a2,a3]):=h.base.fit.quiet E.Ch h.sy.kC h.sy.lC (Nat.le_of_eq td.symm) (fun b hb _=>hwb b hb) hq
 have jm:∀b o,(b,o)∈X→(K (i+1)).jL b:=fun b o hm=>⟨o,hXY.mem_iff.2 (by simp[hm])⟩
 have aY1:=aY2.hand (i:=0) (j:=i+1) (by omega) X Y hXY fun b o hm p x hx hxb=>by
  rcases bN hx with ⟨hp,mz⟩| ⟨_,op,OZ,_,zf⟩
  ·have k1:=h.base.fit.perm (i+1) b (jm b o hm) p x mz hxb
   exact⟨t.size+3,a3,p3,e3.1,.inr ((k1.hb_new (Nat.le_refl _) p0 e0.1).trans ac3)⟩
  rw[hq op OZ] at zf;cases zf
 have aY0:Fit L (gp (gp K (i+1) iR) 0 ⟨(K 0).ro,X++(K 0).rw⟩) w' (t++ #[a0,a1,a2,a3]):=aY1.le fun j=>by
  by_cases e:j=0
  ·subst e;rw[aG,aG];exact St.le_refl _
  rw[aK _ _ e,aK _ _ e]
  by_cases e':j=i+1
  ·subst e';rw[aG,aG];exact hle
  rw[aK _ _ e',aK _ _ e'];exact St.le_refl _
 have JV:∀b,(∀j,¬(K j).knows b)→∀j,¬(gp (gp K (i+1) iR) 0 ⟨(K 0).ro,X++(K 0).rw⟩ j).knows b:=fun b hb j hk=>by
  by_cases e:j=0
  ·subst e;rw[aG] at hk
   rcases hk with hk| ⟨o,ho⟩
   ·exact hb 0 (.inl hk)
   rcases List.mem_append.1 ho with h'|h'
   ·exact hb (i+1) (.inr (jm b o h'))
   exact hb 0 (.inr ⟨o,h'⟩)
  rw[aK _ _ e] at hk
  by_cases e':j=i+1
  ·subst e';rw[aG] at hk
   rcases hle.knows hk with hk| ⟨o,ho⟩
   ·exact hb (i+1) (.inl hk)
   exact hb (i+1) (.inr ⟨o,hXY.mem_iff.2 (by simp[ho])⟩)
  rw[aK _ _ e'] at hk;exact hb j hk
 have KH:r.cnt=1∧r.c4=0∧r.c3=0∧r.c2=0:=by rcases hr with rfl|rfl<;>exact⟨rfl,rfl,rfl,rfl⟩
 refine⟨⟨aY0,by rw[uA];simp[h.base.size],fun k x hk=>?_,fun k hk b hb=>?_,fun op aC=>?_,⟨OQ.1.trans h.base.same.1,OQ.2.trans h.base.same.2⟩⟩,
  ⟨JV _ h.sy.kW,JV _ h.sy.kC,h.sy.lW,h.sy.lC,h.sy.ne,fun a=>(h.sy.norel a).app fun op aC=>SN op aC _,fun j hj p x hx hxb hk=>?_,?_,?_,?_,⟨_,_,_,ue⟩,fun a b c hx=>?_,?_⟩,h0,by rw[AN];exact h.deaf⟩
 ·rcases pU hk with ⟨rfl,rfl⟩| ⟨dQ,ky⟩
  ·exact⟨gw,hw1,by rw[AN];exact hd,by rw[aK _ _ (by omega),aG];exact hb⟩
  obtain⟨y,hy,fL⟩:=h.base.ok k x ky
  refine⟨y,by rw[hgs (k+1) (by omega) (by omega)];exact hy,?_⟩
  rw[aK _ _ (by omega),aK _ _ (by omega)]
  exact fL.other fun op aC=>by rcases hu op aC with e|e<;>rw[e]<;>omega
 ·rw[uA] at hk
  have:=h.base.size
  rw[aK _ _ (by omega),aK _ _ (by omega)] at hb
  exact h.base.far k hk b hb
 ·rw[uA]
  rcases Array.mem_append.1 aC with h'|h'
  ·exact h.base.ops op h'
  rcases hu op h' with e|e<;>rw[e,h.base.size]<;>omega
 ·rcases bN hx with ⟨_,mz⟩| ⟨_,op,OZ,_,zf⟩
  ·refine(h.sy.plain j ?_ p x mz hxb hk).app _
   rcases hj with hj| ⟨k,y,rfl,ky,hl⟩
   ·exact .inl hj
   rcases pU ky with ⟨rfl,rfl⟩| ⟨_,ax9⟩
   ·exact .inr ⟨_,r,rfl,hi,by rcases hr with rfl|rfl<;>rfl⟩
   exact .inr ⟨k,y,rfl,ax9,hl⟩
  rw[hq op OZ] at zf;cases zf
 ·have hs:=h.sy.said
  match cl,hs,iY with
  |some (ic,c,n),hs,_=>
   intro he p x hx hxb hk
   rcases bN hx with ⟨_,mz⟩| ⟨_,op,OZ,_,zf⟩
   ·exact(hs he p x mz hxb hk).app _
   rw[hq op OZ] at zf;cases zf
 ·obtain⟨st,sm,ha,mM⟩:=h.sy.cells
  refine⟨st,sm,by unfold WgAt;rw[hwb _ h.sy.ne];exact ha,NM hi ?_ ?_ ?_ ?_ mM⟩
  ·rw[KH.1];rfl
  ·rw[KH.2.1];rfl
  ·rw[KH.2.2.1];rfl
  rw[KH.2.2.2];rfl
 ·have:=ko aw.cnt (y:=aw.back tr) hi
  have e:(aw.back (ι:=ι) tr).cnt=1:=rfl
  have:=h.sy.DL
  omega
 ·rw[ue] at hx
  simp only[Option.some.injEq,Obj.chan.injEq] at hx
  omega
 have jN:=h.sy.Gf
 obtain⟨st,sm,ha,mM⟩:=h.sy.cells
 have aGC:1≤fM aw.cnt D:=by have:=u4 aw.cnt hi;rw[KH.1] at this;exact this
 match cl,jN,iY,mM with
 |some (ic,c,m),⟨h1,h2,h3,⟨gc,GL,qD⟩,h5⟩,_,mM=>
  have dQ:ic≠i:=fun e=>by subst e;rw[hi] at h1;rcases hr with rfl|rfl<;>cases h1
  refine⟨by rw[List.getElem?_set_ne (Ne.symm dQ)];exact h1,fun k hk=>?_,by rw[AN];exact h3,⟨gc,by rw[hgs _ (by omega) (by omega)];exact GL,by rw[aK _ _ (by omega),aK _ _ (by omega)];exact qD⟩,fun⟨tr',e⟩=>?_⟩
  ·rcases pU hk with ⟨_,e⟩| ⟨_,ky⟩
   ·cases e
   exact h2 k ky
  subst e
  have:=(mM.run rfl trivial).1
  omega
end
end Go.L
