/- Part 1 of the proof. -/
import Derived.Calls
import Derived.Conc.Own
import Derived.IntWalk
import Derived.Laws.Sem
set_option maxRecDepth 100000
set_option linter.all false
namespace Go.L
open Go
variable {α β ι:Type} {l z vs z':List Value} {P:Program} {R:List (Nat×Obj)} {Pl:List (Nat×Value)} {b o n i id sz j cap iu vz dep:Nat} {x y:Operand} {t T':TypeId} {f:Operand→Value} {args:Array Value} {xs:Array Operand} {X rest:List Nat} {o':Obj} {r main xH:Bool} {w' adV:World} {cs:List Frame} {d:Tmp}
structure St where
 ro:Nat→Option Obj
 rw:List (Nat×Obj)
variable {E:Halt→St→Prop} {s s' QK aeO aeN:St} {T:Goroutine→St→Prop}
def St.has(s:St)(b:Nat)(o:Obj):Prop:=s.ro b=some o∨(b,o)∈s.rw
def St.jh(s:St)(b:Nat):Prop:=∃o,(b,o)∈s.rw
def St.knows(s:St)(b:Nat):Prop:=s.ro b≠none∨s.jh b
structure aS(s:St)(w:World):Prop where
 ro:∀b o,s.ro b=some o→w.heap[b]?=some o
 rw:∀b o,(b,o)∈s.rw→w.heap[b]?=some o
 nodup:(s.rw.map (·.1)).Nodup
 apart:∀b o,(b,o)∈s.rw→s.ro b=none
theorem aS.has{w:World}(h:aS s w){o:Obj}(hb:s.has b o):w.heap[b]?=some o:=
 hb.elim (h.ro b o) (h.rw b o)
theorem aS.lt{w:World}(h:aS s w){o:Obj}(hb:s.has b o):b <w.heap.size:=by
 have:=h.has hb
 rcases Nat.lt_or_ge b w.heap.size with hl|hl
 ·exact hl
 simp[Array.getElem?_eq_none hl] at this
def CX:Mark→Bool
 | .acquire _| .release _| .releaseMerge _| .disable| .enable| .read _| .write _=>false
 |_=>true
def Jz(s:St)(n:Nat)(e:Event):Prop:=
 match e.loc with
 | .cell a=>e.sync=false∧(n≤a.block∨s.jh a.block∨(e.write=false∧s.ro a.block≠none))
 | .obj r=>e.sync=false∧(n≤r∨s.jh r∨(e.write=false∧s.ro r≠none))
 | .mark m=>CX m=true
 |_=>False
def blk:Loc→Option Nat
 | .cell a=>some a.block
 | .obj r=>some r
 |_=>none
structure Trans(s:St)(w:World)(s':St)(w':World)(es:Array Event):Prop where
 jP:aS s' w'
 size:w.heap.size≤w'.heap.size
 frame:∀b,b <w.heap.size→¬s.jh b→w'.heap[b]?=w.heap[b]?
 own:∀b,s'.jh b→w.heap.size≤b∨s.jh b
 NI:∀b,s'.ro b≠none→w.heap.size≤b∨s.ro b≠none∨s.jh b
 os:w'.os=w.os
 output:w'.output=w.output
 tape:w'.tape=w.tape
 vX:∀e∈es,Jz s w.heap.size e
 low:∀e∈es,∀b,blk e.loc=some b→b <w'.heap.size
theorem Trans.refl{w:World}(h:aS s w):Trans s w s w #[] where
 jP:=h
 size:=Nat.le_refl _
 frame:=fun _ _ _=>rfl
 own:=fun _ h=> .inr h
 NI:=fun _ h=> .inr (.inl h)
 os:=rfl
 output:=rfl
 tape:=rfl
 vX:=by simp
 low:=by simp
theorem Trans.trans{aBK aBJ:World}{akb aka:Array Event}(h:Trans QK adV aeO aBK akb)(k:Trans aeO aBK aeN aBJ aka):
 Trans QK adV aeN aBJ (akb++aka) where
 jP:=k.jP
 size:=Nat.le_trans h.size k.size
 frame:=fun b hb hn=>by
  rw[k.frame b (Nat.lt_of_lt_of_le hb h.size) (fun ho=>by rcases h.own b ho with h1|h1;omega;exact hn h1),h.frame b hb hn]
 own:=fun b hb=>by
  rcases k.own b hb with h1|h1
  ·exact .inl (Nat.le_trans h.size h1)
  exact h.own b h1
 NI:=fun b hb=>by
  rcases k.NI b hb with h1|h1|h1
  ·exact .inl (Nat.le_trans h.size h1)
  ·exact h.NI b h1
  rcases h.own b h1 with h2|h2
  ·exact .inl h2
  exact .inr (.inr h2)
 os:=k.os.trans h.os
 output:=k.output.trans h.output
 tape:=k.tape.trans h.tape
 low:=fun e he b hb=>by
  rcases Array.mem_append.1 he with he|he
  ·exact Nat.lt_of_lt_of_le (h.low e he b hb) k.size
  exact k.low e he b hb
 vX:=fun e he=>by
  rcases Array.mem_append.1 he with he|he
  ·exact h.vX e he
  have:=k.vX e he
  unfold Jz at*
  split at this
  ·rename_i a _
   refine⟨this.1,?_⟩
   rcases this.2 with h1|h1|h1
   ·exact .inl (Nat.le_trans h.size h1)
   ·rcases h.own _ h1 with h2|h2
    ·exact .inl h2
    exact .inr (.inl h2)
   rcases h.NI _ h1.2 with h2|h2|h2
   ·exact .inl h2
   ·exact .inr (.inr ⟨h1.1,h2⟩)
   exact .inr (.inl h2)
  ·rename_i r _
   refine⟨this.1,?_⟩
   rcases this.2 with h1|h1|h1
   ·exact .inl (Nat.le_trans h.size h1)
   ·rcases h.own _ h1 with h2|h2
    ·exact .inl h2
    exact .inr (.inl h2)
   rcases h.NI _ h1.2 with h2|h2|h2
   ·exact .inl h2
   ·exact .inr (.inr ⟨h1.1,h2⟩)
   exact .inr (.inl h2)
  ·exact this
  exact this
def single:Value→Bool
 | .agg _| .tuple _=>false
 |_=>true
def Obj.xX:Obj→Bool
 | .cells .. =>true
 |_=>false
def Obj.shapeOf:Obj→Option (TypeId×Nat)
 | .cells c t _=>some (t,c.size)
 |_=>none
def Obj.frozenAt(a:Addr):Obj→Bool
 | .cells _ _ (lo,hi)=>lo≤a.off&&a.off <hi
 |_=>false
def Obj.S8(a:Addr)(n:Nat):Obj→Obj
 | .cells c elem (lo,hi)=> .cells c elem (if lo==hi then (a.off,a.off+n) else (min lo a.off,max hi (a.off+n)))
 |o=>o
def bS(P:Program):Sem α→St→(α→St→Prop)→(Halt→St→Prop)→Prop
 | .pure a,s,Q,_=>Q a s
 | .load m a k,s,Q,E=>m= .plain∧a.spot=none∧∃c t fz v,s.has a.block (.cells c t fz)∧c[a.off]?=some v∧bS P (k v) s Q E
 | .store m a v k,s,Q,E=>m= .plain∧a.spot=none∧single v=true∧∃L c t fz R,s.rw=L++(a.block,.cells c t fz)::R∧a.off <c.size∧
  (fz.1≤a.off&&a.off <fz.2)=false∧bS P k ⟨s.ro,L++(a.block,.cells (c.setIfInBounds a.off v) t fz)::R⟩ Q E
 | .new o k,s,Q,E=>∀b,¬s.knows b→bS P (k b) ⟨s.ro,(b,o)::s.rw⟩ Q E
 | .shape r k,s,Q,E=>∃o,s.has r o∧bS P (k (Obj.shapeOf o)) s Q E
 | .freeze a n k,s,Q,E=>if n=0 then bS P k s Q E else
  ∃L o R,s.rw=L++(a.block,o)::R∧bS P k ⟨s.ro,L++(a.block,Obj.S8 a n o)::R⟩ Q E
 | .frozen a k,s,Q,E=>∃o,s.has a.block o∧bS P (k (Obj.frozenAt a o)) s Q E
 | .getObj r k,s,Q,E=>∃o,s.has r o∧Obj.xX o=false∧o.isChan=false∧bS P (k o) s Q E
 | .setObj r o k,s,Q,E=>o.isChan=false∧∃L o' R,s.rw=L++(r,o')::R∧Obj.xX o'=false∧bS P k ⟨s.ro,L++(r,o)::R⟩ Q E
 | .choose q k,s,Q,E=>if q.forced then bS P (k 0) s Q E else ∀n,bS P (k (q.cut n)) s Q E
 | .sys _ _,_,_,_=>False
 | .program k,s,Q,E=>bS P (k P) s Q E
 | .mark m k,s,Q,E=>CX m=true∧bS P k s Q E
 | .halt h,s,_,E=>E h s
theorem QA(x:Sem α)(f:α→Sem β)(s:St)(Q:β→St→Prop)(E:Halt→St→Prop)
 (h:bS P x s (fun a s'=>bS P (f a) s' Q E) E):bS P (x.bind f) s Q E:=by
 induction x generalizing s with
 |pure a=>exact h
 |load m a k ih=>obtain⟨h1,h2,c,t,fz,v,h3,h4,h5⟩:=h;exact⟨h1,h2,c,t,fz,v,h3,h4,ih _ _ h5⟩
 |store m a v k ih=>obtain⟨h1,h2,h3,L,c,t,fz,R,h4,h5,h6,h7⟩:=h;exact⟨h1,h2,h3,L,c,t,fz,R,h4,h5,h6,ih _ h7⟩
 |new o k ih=>exact fun b hb=>ih _ _ (h b hb)
 |shape r k ih=>obtain⟨o,h1,h2⟩:=h;exact⟨o,h1,ih _ _ h2⟩
 |freeze a n k ih=>
  simp only[Sem.bind,bS] at h ⊢
  split
  ·rename_i hn;rw[if_pos hn] at h;exact ih _ h
  rename_i hn;rw[if_neg hn] at h;obtain⟨L,o,R,h1,h2⟩:=h;exact⟨L,o,R,h1,ih _ h2⟩
 |frozen a k ih=>obtain⟨o,h1,h2⟩:=h;exact⟨o,h1,ih _ _ h2⟩
 |getObj r k ih=>obtain⟨o,h1,h2,h3,h4⟩:=h;exact⟨o,h1,h2,h3,ih _ _ h4⟩
 |setObj r o k ih=>obtain⟨h1,L,o',R,h2,h3,h4⟩:=h;exact⟨h1,L,o',R,h2,h3,ih _ h4⟩
 |choose q k ih=>
  simp only[Sem.bind,bS] at h ⊢
  split
  ·rename_i hn;rw[if_pos hn] at h;exact ih _ _ h
  rename_i hn;rw[if_neg hn] at h;exact fun n=>ih _ _ (h n)
 |sys c k ih=>exact h.elim
 |program k ih=>exact ih _ _ h
 |mark m k ih=>exact⟨h.1,ih _ h.2⟩
 |halt hh=>exact h
theorem v9(x:Sem α)(s:St)(Q Q':α→St→Prop)(E E':Halt→St→Prop)
 (hq:∀a s,Q a s→Q' a s)(he:∀a s,E a s→E' a s)(h:bS P x s Q E):bS P x s Q' E':=by
 induction x generalizing s with
 |pure a=>exact hq _ _ h
 |load m a k ih=>obtain⟨h1,h2,c,t,fz,v,h3,h4,h5⟩:=h;exact⟨h1,h2,c,t,fz,v,h3,h4,ih _ _ h5⟩
 |store m a v k ih=>obtain⟨h1,h2,h3,L,c,t,fz,R,h4,h5,h6,h7⟩:=h;exact⟨h1,h2,h3,L,c,t,fz,R,h4,h5,h6,ih _ h7⟩
 |new o k ih=>exact fun b hb=>ih _ _ (h b hb)
 |shape r k ih=>obtain⟨o,h1,h2⟩:=h;exact⟨o,h1,ih _ _ h2⟩
 |freeze a n k ih=>
  simp only[bS] at h ⊢
  split
  ·rename_i hn;rw[if_pos hn] at h;exact ih _ h
  rename_i hn;rw[if_neg hn] at h;obtain⟨L,o,R,h1,h2⟩:=h;exact⟨L,o,R,h1,ih _ h2⟩
 |frozen a k ih=>obtain⟨o,h1,h2⟩:=h;exact⟨o,h1,ih _ _ h2⟩
 |getObj r k ih=>obtain⟨o,h1,h2,h3,h4⟩:=h;exact⟨o,h1,h2,h3,ih _ _ h4⟩
 |setObj r o k ih=>obtain⟨h1,L,o',R,h2,h3,h4⟩:=h;exact⟨h1,L,o',R,h2,h3,ih _ h4⟩
 |choose q k ih=>
  simp only[bS] at h ⊢
  split
  ·rename_i hn;rw[if_pos hn] at h;exact ih _ _ h
  rename_i hn;rw[if_neg hn] at h;exact fun n=>ih _ _ (h n)
 |sys c k ih=>exact h.elim
 |program k ih=>exact ih _ _ h
 |mark m k ih=>exact⟨h.1,ih _ h.2⟩
 |halt hh=>exact he _ _ h
theorem fA{L:List (Nat×Obj)}{o:Obj}:(b,o)∈L++(b,o)::R:=by simp
theorem Xx{w:World}(h:aS s w){L:List (Nat×Obj)}{o:Obj}(hl:s.rw=L++(b,o)::R)
 (hw:∀j,w'.heap[j]?=if j=b then some o' else w.heap[j]?):aS ⟨s.ro,L++(b,o')::R⟩ w':=by
 have jm:(b,o)∈s.rw:=by rw[hl];exact fA
 have mo:=h.nodup
 rw[hl] at mo
 simp only[List.map_append,List.map_cons] at mo
 rw[List.nodup_append] at mo
 obtain⟨nL,nR,nLR⟩:=mo
 rw[List.nodup_cons] at nR
 have ari:∀c x,(c,x)∈L∨(c,x)∈R→c≠b:=by
  rintro c x (hc|hc) rfl
  ·exact nLR c (List.mem_map.2 ⟨_,hc,rfl⟩) c (by simp) rfl
  exact nR.1 (List.mem_map.2 ⟨_,hc,rfl⟩)
 refine⟨fun c x hc=>?_,fun c x hc=>?_,?_,fun c x hc=>?_⟩
 ·rw[hw]
  by_cases e:c=b
  ·subst e;rw[h.apart c o jm] at hc;cases hc
  rw[if_neg e];exact h.ro c x hc
 ·simp only[List.mem_append,List.mem_cons] at hc
  rw[hw]
  rcases hc with hc|hc|hc
  ·rw[if_neg (ari c x (.inl hc))];exact h.rw c x (by rw[hl];simp[hc])
  ·cases hc;simp
  rw[if_neg (ari c x (.inr hc))];exact h.rw c x (by rw[hl];simp[hc])
 ·simp only[List.map_append,List.map_cons]
  rw[List.nodup_append]
  exact⟨nL,List.nodup_cons.2 nR,nLR⟩
 simp only[List.mem_append,List.mem_cons] at hc
 rcases hc with hc|hc|hc
 ·exact h.apart c x (by rw[hl];simp[hc])
 ·cases hc;exact h.apart b o jm
 exact h.apart c x (by rw[hl];simp[hc])
theorem afK{ro:Nat→Option Obj}{L:List (Nat×Obj)}{c:Nat}{o:Obj}(h:(⟨ro,L++(b,o')::R⟩:St).jh c):(⟨ro,L++(b,o)::R⟩:St).jh c:=by
 obtain⟨x,hx⟩:=h
 simp only[List.mem_append,List.mem_cons] at hx
 rcases hx with hx|hx|hx
 ·exact⟨x,by simp[hx]⟩
 ·cases hx;exact⟨o,by simp⟩
 exact⟨x,by simp[hx]⟩
theorem Cv{w:World}(h:aS s w){L:List (Nat×Obj)}{o:Obj}(hl:s.rw=L++(b,o)::R)
 (hs:w'.heap.size=w.heap.size)(hw:∀j,w'.heap[j]?=if j=b then some o' else w.heap[j]?)
 (ho:w'.os=w.os) (hu:w'.output=w.output) (ht:w'.tape=w.tape) {es:Array Event} (he:∀e∈es,Jz s w.heap.size e∧∀b,blk e.loc=some b→b <w.heap.size):
 Trans s w ⟨s.ro,L++(b,o')::R⟩ w' es where
 jP:=Xx h hl hw
 size:=by omega
 frame:=fun c _ hn=>by
  rw[hw]
  by_cases e:c=b
  ·subst e;exact absurd ⟨o,by rw[hl];simp⟩ hn
  rw[if_neg e]
 own:=fun c hc=> .inr (by have:=afK (o:=o) hc;obtain⟨x,hx⟩:=this;exact⟨x,by rw[hl];exact hx⟩)
 NI:=fun c hc=> .inr (.inl hc)
 os:=ho
 output:=hu
 tape:=ht
 vX:=fun e h'=>(he e h').1
 low:=fun e h' b hb=>hs▸(he e h').2 b hb
theorem aaV{w:World}(h:aS s w)(o:Obj):Trans s w ⟨s.ro,(w.heap.size,o)::s.rw⟩ {w with heap:=w.heap.push o} #[] where
 jP:=by
  refine⟨fun b x hb=>?_,fun b x hb=>?_,?_,fun b x hb=>?_⟩
  ·have:=h.ro b x hb
   have cP:=h.lt (.inl hb)
   simp[Array.getElem?_push,Nat.ne_of_lt cP,this]
  ·rcases List.mem_cons.1 hb with hb|hb
   ·cases hb;simp
   have:=h.rw b x hb
   have cP:=h.lt (.inr hb)
   simp[Array.getElem?_push,Nat.ne_of_lt cP,this]
  ·simp only[List.map_cons]
   refine List.nodup_cons.2 ⟨fun hm=>?_,h.nodup⟩
   obtain⟨⟨b,x⟩,hx,rfl⟩:=List.mem_map.1 hm
   have:=h.lt (.inr hx)
   simp at this
  rcases List.mem_cons.1 hb with hb|hb
  ·cases hb
   cases hr:s.ro w.heap.size with
   |none=>rfl
   |some y=>have:=h.lt (.inl hr);omega
  exact h.apart b x hb
 size:=by simp
 frame:=fun b hb _=>by simp[Array.getElem?_push,Nat.ne_of_lt hb]
 own:=fun b hb=>by
  obtain⟨x,hx⟩:=hb
  rcases List.mem_cons.1 hx with hx|hx
  ·cases hx;exact .inl (Nat.le_refl _)
  exact .inr ⟨x,hx⟩
 NI:=fun b hb=> .inr (.inl hb)
 os:=rfl
 output:=rfl
 tape:=rfl
 vX:=by simp
 low:=by simp
theorem S7{w:World}(h:aS s w):¬s.knows w.heap.size:=by
 rintro(hk| ⟨o,hk⟩)
 ·cases hr:s.ro w.heap.size with
  |none=>exact hk hr
  |some y=>have:=h.lt (.inl hr);omega
 have:=h.lt (.inr hk);omega
theorem Ec{w:World}(h:aS s w)(n:Nat):Trans s w s {w with drawn:=n} #[] where
 jP:=⟨h.ro,h.rw,h.nodup,h.apart⟩
 size:=Nat.le_refl _
 frame:=fun _ _ _=>rfl
 own:=fun _ h=> .inr h
 NI:=fun _ h=> .inr (.inl h)
 os:=rfl
 output:=rfl
 tape:=rfl
 vX:=by simp
 low:=by simp
theorem Gz{w:World}(h:aS s w){e:Event}(he:Jz s w.heap.size e)(hb:∀b,blk e.loc=some b→b <w.heap.size):Trans s w s w #[e] where
 jP:=h
 size:=Nat.le_refl _
 frame:=fun _ _ _=>rfl
 own:=fun _ h=> .inr h
 NI:=fun _ h=> .inr (.inl h)
 os:=rfl
 output:=rfl
 tape:=rfl
 vX:=by simpa using he
 low:=by simpa using hb
def vq(s:St)(w:World)(Q:α→St→Prop)(E:Halt→St→Prop)(es:Array Event):Result α→Prop
 | .ok a w'=>∃s',Trans s w s' w' es∧Q a s'
 | .halt h w'=>∃s',Trans s w s' w' es∧E h s'
theorem vq.after{w:World}{Q:α→St→Prop}{akb aka:Array Event}{r:Result α}
 (ht:Trans s w QK adV akb)(h:vq QK adV Q E aka r):vq s w Q E (akb++aka) r:=by
 cases r with
 |ok a w'=>obtain⟨s',h1,h2⟩:=h;exact⟨s',ht.trans h1,h2⟩
 |halt a w'=>obtain⟨s',h1,h2⟩:=h;exact⟨s',ht.trans h1,h2⟩
theorem World.cell_of{w:World}(h:aS s w){a:Addr}(ha:a.spot=none){c:Array Value}{fz:Nat×Nat}(hb:s.has a.block (.cells c t fz)):
 w.cell? a=c[a.off]?:=by
 simp[World.cell?,h.has hb,ha]
theorem gM(x:Sem α)(s:St)(Q:α→St→Prop)(E:Halt→St→Prop)(w:World)(es:Array Event)
 (h:bS P x s Q E)(ha:aS s w):∃r ep,x.runT P w es=(r,es++ep)∧vq s w Q E ep r:=by
 induction x generalizing s w es with
 |pure a=>exact⟨.ok a w,#[],by simp only[Sem.runT,Array.append_empty],s,Trans.refl ha,h⟩
 |load m a k ih=>
  obtain⟨rfl,P8,c,t,fz,v,hb,hv,hk⟩:=h
  have hc:w.cell? a=some v:=by rw[World.cell_of ha P8 hb,hv]
  obtain⟨r,e',hr,hl⟩:=ih v s w (es.push ⟨.cell a,false,false⟩) hk ha
  refine⟨r,#[⟨.cell a,false,false⟩]++e',?_,vq.after (Gz ha ?_ (fun b h'=>by cases h';exact ha.lt hb)) hl⟩
  ·simp only[Sem.runT,hc]
   rw[show (Mode.plain==Mode.atomic)=false from rfl,hr,←Array.append_singleton,Array.append_assoc]
  refine⟨rfl,?_⟩
  rcases hb with hb|hb
  ·exact .inr (.inr ⟨rfl,by rw[hb];simp⟩)
  exact .inr (.inl ⟨_,hb⟩)
 |store m a v k ih=>
  obtain⟨rfl,P8,ho,L,c,t,fz,R,hl,cP,hfz,hk⟩:=h
  have hb:s.has a.block (.cells c t fz):= .inr (by rw[hl];exact fA)
  have hc:w.cell? a=some c[a.off]:=by rw[World.cell_of ha P8 hb];simp[cP]
  have hh:=ha.has hb
  have apc:=ha.lt hb
  have hfr:w.frozen? a=false:=by simp only[World.frozen?,hh];exact hfz
  have ht:Trans s w ⟨s.ro,L++(a.block,.cells (c.setIfInBounds a.off v) t fz)::R⟩ (w.setCell a v) #[⟨.cell a,true,false⟩]:=by
   refine Cv (w':=w.setCell a v) ha hl (by simp[World.setCell]) (fun j=>?_) rfl rfl rfl ?_
   ·simp only[World.setCell,Array.getElem?_modify]
    by_cases e:a.block=j
    ·subst e;simp[hh,P8]
    simp[e,Ne.symm e]
   simp only[List.mem_toArray,List.mem_singleton,forall_eq]
   exact⟨⟨rfl,.inr (.inl ⟨_,hb.resolve_left (by rw[ha.apart _ _ (show (a.block,_)∈s.rw by rw[hl];exact fA)];simp)⟩)⟩,fun b h'=>by cases h';exact apc⟩
  obtain⟨r,e',hr,Ah⟩:=ih _ (w.setCell a v) (es.push ⟨.cell a,true,false⟩) hk ht.jP
  refine⟨r,#[⟨.cell a,true,false⟩]++e',?_,vq.after ht Ah⟩
  cases v<;>simp only[single,Bool.false_eq_true] at ho<;>
   (simp only[Sem.runT,hc,hfr]
    rw[show (Mode.plain==Mode.atomic)=false from rfl]
    simp only[Bool.false_eq_true,if_false]
    rw[hr,←Array.append_singleton,Array.append_assoc])
 |new o k ih=>
  have ht:=aaV ha o
  obtain⟨r,e',hr,hl⟩:=ih _ _ {w with heap:=w.heap.push o} es (h w.heap.size (S7 ha)) ht.jP
  exact⟨r,#[]++e',by simp only[Sem.runT];rw[hr,Array.empty_append],vq.after ht hl⟩
 |shape r k ih=>
  obtain⟨o,hb,hk⟩:=h
  have hs:w.shape? r=Obj.shapeOf o:=by
   simp only[World.shape?,ha.has hb];cases o<;>rfl
  obtain⟨r',e',hr,hl⟩:=ih _ s w es hk ha
  exact⟨r',e',by simp only[Sem.runT,hs];exact hr,hl⟩
 |freeze a n k ih=>
  simp only[bS] at h
  by_cases hn:n=0
  ·rw[if_pos hn] at h
   obtain⟨r',e',hr,hl⟩:=ih s w es h ha
   exact⟨r',e',by simp only[Sem.runT,World.freeze,hn,if_true];exact hr,hl⟩
  rw[if_neg hn] at h
  obtain⟨L,o,R,hl,hk⟩:=h
  have hb:s.has a.block o:= .inr (by rw[hl];exact fA)
  have hh:=ha.has hb
  have ht:Trans s w ⟨s.ro,L++(a.block,Obj.S8 a n o)::R⟩ (w.freeze a n) #[]:=by
   refine Cv (w':=w.freeze a n) ha hl (by simp[World.freeze,hn]) (fun j=>?_) (by simp[World.freeze,hn]) (by simp[World.freeze,hn]) (by simp[World.freeze,hn]) (by simp)
   simp only[World.freeze,hn,if_false,Array.getElem?_modify]
   by_cases e:a.block=j
   ·subst e;simp only[hh,if_true,Option.map_some];cases o<;>rfl
   simp[e,Ne.symm e]
  obtain⟨r',e',hr,Ah⟩:=ih _ (w.freeze a n) es hk ht.jP
  exact⟨r',#[]++e',by simp only[Sem.runT];rw[hr,Array.empty_append],vq.after ht Ah⟩
 |frozen a k ih=>
  obtain⟨o,hb,hk⟩:=h
  have hs:w.frozen? a=Obj.frozenAt a o:=by
   simp only[World.frozen?,ha.has hb];cases o<;>rfl
  obtain⟨r',e',hr,hl⟩:=ih _ s w es hk ha
  exact⟨r',e',by simp only[Sem.runT,hs];exact hr,hl⟩
 |getObj r k ih=>
  obtain⟨o,hb,EA,vM,hk⟩:=h
  have hh:=ha.has hb
  obtain⟨r',e',hr,hl⟩:=ih o s w (es.push ⟨.obj r,false,false⟩) hk ha
  refine⟨r',#[⟨.obj r,false,false⟩]++e',?_,vq.after (Gz ha ?_ (fun b h'=>by cases h';exact ha.lt hb)) hl⟩
  ·cases o<;>simp only[Obj.xX,Obj.isChan,Bool.true_eq_false] at EA vM<;>
    (simp only[Sem.runT,hh,Obj.isChan];rw[hr,←Array.append_singleton,Array.append_assoc])
  refine⟨rfl,?_⟩
  rcases hb with hb|hb
  ·exact .inr (.inr ⟨rfl,by rw[hb];simp⟩)
  exact .inr (.inl ⟨_,hb⟩)
 |setObj r o k ih=>
  obtain⟨vM,L,o',R,hl,EA,hk⟩:=h
  have hb:s.has r o':= .inr (by rw[hl];exact fA)
  have hh:=ha.has hb
  have apc:=ha.lt hb
  have ht:Trans s w ⟨s.ro,L++(r,o)::R⟩ {w with heap:=w.heap.setIfInBounds r o} #[⟨.obj r,true,false⟩]:=by
   refine Cv (w':={w with heap:=w.heap.setIfInBounds r o}) ha hl (by simp) (fun j=>?_) rfl rfl rfl ?_
   ·simp only[Array.getElem?_setIfInBounds]
    by_cases e:r=j
    ·subst e;simp[apc]
    simp[e,Ne.symm e]
   simp only[List.mem_toArray,List.mem_singleton,forall_eq]
   exact⟨⟨rfl,.inr (.inl ⟨o',by rw[hl];exact fA⟩)⟩,fun b h'=>by cases h';exact apc⟩
  obtain⟨r',e',hr,Ah⟩:=ih _ _ (es.push ⟨.obj r,true,false⟩) hk ht.jP
  refine⟨r',#[⟨.obj r,true,false⟩]++e',?_,vq.after ht Ah⟩
  cases o'<;>simp only[Obj.xX,Bool.true_eq_false] at EA<;>
   (simp only[Sem.runT,hh,vM];rw[hr,←Array.append_singleton,Array.append_assoc])
 |choose q k ih=>
  simp only[bS] at h
  by_cases hq:q.forced
  ·rw[if_pos hq] at h
   obtain⟨r',e',hr,hl⟩:=ih 0 s w es h ha
   exact⟨r',e',by simp only[Sem.runT,hq,if_true];exact hr,hl⟩
  rw[if_neg hq] at h
  have ht:=Ec ha (w.drawn+1)
  obtain⟨r',e',hr,hl⟩:=ih _ s {w with drawn:=w.drawn+1} es (h (w.tape w.drawn q)) ht.jP
  exact⟨r',#[]++e',by simp only[Sem.runT,hq,Bool.false_eq_true,if_false];rw[hr,Array.empty_append],vq.after ht hl⟩
 |sys c k ih=>exact h.elim
 |program k ih=>
  obtain⟨r',e',hr,hl⟩:=ih P s w es h ha
  exact⟨r',e',by simp only[Sem.runT];exact hr,hl⟩
 |mark m k ih=>
  obtain⟨r',e',hr,hl⟩:=ih s w (es.push ⟨.mark m,false,true⟩) h.2 ha
  refine⟨r',#[⟨.mark m,false,true⟩]++e',?_,vq.after (Gz ha ?_ (fun b h'=>by cases h')) hl⟩
  ·simp only[Sem.runT];rw[hr,←Array.append_singleton,Array.append_assoc]
  exact h.1
 |halt hh=>exact⟨.halt hh w,#[],by simp only[Sem.runT,Array.append_empty],s,Trans.refl ha,h⟩
open Go.Conc
def St.le(s s':St):Prop:=∃R,s'.rw.Perm (s.rw++R)∧∀b o,s.ro b=some o→s'.ro b=some o∨(b,o)∈R
theorem St.le_refl(s:St):s.le s:=⟨[],by simp,fun _ _ h=> .inl h⟩
theorem aS.of_le{w:World}(hl:s.le s')(h:aS s' w):aS s w:=by
 obtain⟨R,hR,h1⟩:=hl
 have hm:∀x,x∈s.rw→x∈s'.rw:=fun x hx=>hR.mem_iff.2 (by simp[hx])
 have T9:∀x,x∈R→x∈s'.rw:=fun x hx=>hR.mem_iff.2 (by simp[hx])
 have mo:=(hR.map (·.1)).nodup_iff.1 h.nodup
 rw[List.map_append,List.nodup_append] at mo
 refine⟨fun b o hb=>(h1 b o hb).elim (h.ro b o) (fun hx=>h.rw b o (T9 _ hx)),fun b o hb=>h.rw b o (hm _ hb),mo.1,fun b o hb=>?_⟩
 have:=h.apart b o (hm _ hb)
 cases hr:s.ro b with
 |none=>rfl
 |some y=>
  rcases h1 b y hr with h3|h3
  ·rw[h3] at this;cases this
  exact absurd rfl (mo.2.2 b (List.mem_map.2 ⟨_,hb,rfl⟩) b (List.mem_map.2 ⟨_,h3,rfl⟩))
structure Closed(P:Program)(main:Bool)(T:Goroutine→St→Prop):Prop where
 step:∀g s,g.status= .running→(∀w,aS s w→∃g' w' es s',stepG P main g w= .go g' w' es∧g'.status= .running∧Trans s w s' w' es∧T g' s')→T g s
 mono:∀g s s',s.le s'→T g s→T g s'
theorem Closed.go(C:Closed P main T){g g':Goroutine}(hs:g.status= .running)(ny:g'.status= .running)
 (h:∀w,stepG P main g w= .go g' w #[])(ht:T g' s):T g s:=
 C.step g s hs fun w hw=>⟨g',w,#[],s,h w,ny,Trans.refl hw,ht⟩
abbrev Class:=Bool→(Goroutine→St→Prop)→Prop
abbrev Post:=Exit→Act→St→Prop
def aM(b:Frame)(a:Act)(todo:List Item):Frame:={fn:=b.fn,tmps:=a.tmps,todo,defers:=a.defers,mode:= .run,kind:=b.kind,roundOf:=b.roundOf}
def jT(T:Goroutine→St→Prop)(b:Frame)(k:List Item)(cs:List Frame):Post
 | .normal,a,s=>T (G (aM b a k) cs) s
 | .exit id,a,s=>match exitTo id k with
  |some k'=>T (G (aM b a k') cs) s
  |none=>∀todo,exitTo id todo=none→T (G (aM b a (.code (.exit id)::todo)) cs) s
 | .ret,a,s=>∀todo,T (G (aM b a (.code .ret::todo)) cs) s
 | .panic ch,a,s=>∀todo,T (G {aM b a todo with mode:= .panicking ch} cs) s
 |_,_,_=>False
def Wp(C:Class)(fn:FuncId)(aA:Option Nat)(c:Code)(Q:Post)(a:Act)(s:St):Prop:=
 ∀main T,C main T→∀(b:Frame) (k:List Item) (cs:List Frame),b.fn=fn→b.kind≠ .early→b.roundOf=aA→
  (∀e a' s',Q e a' s'→jT T b k cs e a' s')→T (G (aM b a (.code c::k)) cs) s
def ab(C:Class)(fn:FuncId)(aA:Option Nat)(ops:Array Oper)(todo:List Nat)(Q:Post)(a:Act)(s:St):Prop:=
 ∀main T,C main T→∀(b:Frame) (k:List Item) (cs:List Frame),b.fn=fn→b.kind≠ .early→b.roundOf=aA→
  (∀e a' s',Q e a' s'→jT T b k cs e a' s')→T (G (aM b a (.inRegion ops todo::k)) cs) s
def Fn(C:Class)(P:Program)(f:FuncId)(args:Array Value)(s:St)(R:Ending→St→Prop):Prop:=
 ∀main T,C main T→∀(c:Frame) (cs:List Frame),(∀v s',R (.returned v) s'→T (G (c.finish v) cs) s')→(∀ch s',R (.panicked ch) s'→T (G (c.raise ch) cs) s')→
  T (G (Frame.enter P f args .normal) (c::cs)) s
def Round(C:Class)(l:Nat)(f:FuncId)(tmps:Array Value)(assign body:Code)(s:St)(R:Ending→St→Prop):Prop:=
 ∀main T,C main T→∀(c:Frame) (cs:List Frame),(∀v s',R (.returned v) s'→T (G (c.finish v) cs) s')→(∀ch s',R (.panicked ch) s'→T (G (c.raise ch) cs) s')→
  T (G (Frame.round l f tmps assign body .normal) (c::cs)) s
section rules
variable {P:Program} {C:Class} {fn:FuncId} {aA:Option Nat} {Q:Post} {a:Act} {s:St}
theorem Fn.mono{f:FuncId}{R R':Ending→St→Prop}(h:Fn C P f args s R)(hr:∀e s,R e s→R' e s):Fn C P f args s R':=
 fun main T hT c cs h1 h2=>h main T hT c cs (fun v s' hv=>h1 v s' (hr _ _ hv)) fun ch s' hv=>h2 ch s' (hr _ _ hv)
theorem Fn.weaken{C':Class}(hc:∀main T,C' main T→C main T){f:FuncId}{R:Ending→St→Prop}(h:Fn C P f args s R):Fn C' P f args s R:=
 fun main T hT=>h main T (hc _ _ hT)
theorem Wp.more(hC:∀main T,C main T→Closed P main T){c:Code}(hl:s.le s')(h:Wp C fn aA c Q a s):Wp C fn aA c Q a s':=
 fun main T hT b k cs h1 h2 h3 h4=>(hC _ _ hT).mono _ _ _ hl (h main T hT b k cs h1 h2 h3 h4)
theorem wp_skip(hC:∀main T,C main T→Closed P main T)(h:Q .normal a s):Wp C fn aA .skip Q a s:=
 fun main T hT b k cs _ _ _ h4=>(hC main T hT).go rfl rfl (g':=G (aM b a k) cs) (fun w=>by simp[G,stepG,stepG.exec,aM]) (h4 _ _ _ h)
theorem jT.push{b:Frame}{x:Item}{k:List Item}{e:Exit}(hx:x.plain=true)(he:e≠ .normal)
 (h:jT T b k cs e a s):jT T b (x::k) cs e a s:=by
 cases e with
 |normal=>exact absurd rfl he
 |exit id=>
  have hh:exitTo id (x::k)=exitTo id k:=by cases x<;>simp_all[exitTo,Item.plain]
  simp only[jT,hh] at h ⊢;exact h
 |ret=>exact h
 |panic ch=>exact h
 |goto l=>exact h
 |outgrown=>exact h
def mf(K:Act→St→Prop)(Q:Post):Post
 | .normal,a,s=>K a s
 |e,a,s=>Q e a s
theorem wp_seq(hC:∀main T,C main T→Closed P main T){x y:Code}(h:Wp C fn aA x (mf (fun a' s'=>Wp C fn aA y Q a' s') Q) a s):Wp C fn aA (.seq x y) Q a s:=by
 intro main T hT b k cs h1 h2 h3 h4
 refine(hC main T hT).go rfl rfl (g':=G (aM b a (.code x:: .code y::k)) cs) (fun w=>by simp[G,stepG,stepG.exec,aM]) ?_
 refine h main T hT b (.code y::k) cs h1 h2 h3 fun e a' s' q=>?_
 cases e with
 |normal=>exact q main T hT b k cs h1 h2 h3 h4
 |exit id=>exact(h4 _ _ _ q).push rfl (by simp)
 |ret=>exact(h4 _ _ _ q).push (x:= .code y) rfl (by simp)
 |panic ch=>exact(h4 _ _ _ q).push (x:= .code y) rfl (by simp)
 |goto l=>exact(h4 _ _ _ q).elim
 |outgrown=>exact(h4 _ _ _ q).elim
theorem IN(b:Frame)(a:Act)(todo:List Item)(x:Operand):(aM b a todo).eval x=a.eval x:=by cases x<;>rfl
theorem kS(b:Frame)(a:Act)(todo:List Item):(aM b a todo).eval=a.eval:=funext (IN b a todo)
theorem wp_cond(hC:∀main T,C main T→Closed P main T){c:Operand}{x y:Code}{t:Bool}(hc:a.eval c= .bool t)(h:Wp C fn aA (if t then x else y) Q a s):Wp C fn aA (.cond c x y) Q a s:=by
 intro main T hT b k cs h1 h2 h3 h4
 refine(hC main T hT).go rfl rfl (g':=G (aM b a (.code (if t then x else y)::k)) cs) (fun w=>?_) (h main T hT b k cs h1 h2 h3 h4)
 have h':(aM b a (.code (.cond c x y)::k)).eval c= .bool t:=by rw[IN];exact hc
 simp only[aM] at h'
 simp[G,stepG,stepG.exec,aM,h']
theorem wp_cond_split(hC:∀main T,C main T→Closed P main T){c:Operand}{x y:Code}{t:Bool}(hc:a.eval c= .bool t)(h1:t=true→Wp C fn aA x Q a s)(h2:t=false→Wp C fn aA y Q a s):
 Wp C fn aA (.cond c x y) Q a s:=by
 cases t
 ·exact wp_cond hC hc (h2 rfl)
 exact wp_cond hC hc (h1 rfl)
def q8(id:Nat)(Q:Post):Post
 | .exit T5,a,s=>if T5=id then Q .normal a s else Q (.exit T5) a s
 |e,a,s=>Q e a s
theorem wp_block(hC:∀main T,C main T→Closed P main T){c:Code}(h:Wp C fn aA c (q8 id Q) a s):Wp C fn aA (.block id c) Q a s:=by
 intro main T hT b k cs h1 h2 h3 h4
 refine(hC main T hT).go rfl rfl (g':=G (aM b a (.code c:: .inBlock id::k)) cs) (fun w=>by simp[G,stepG,stepG.exec,aM]) ?_
 refine h main T hT b (.inBlock id::k) cs h1 h2 h3 fun e a' s' q=>?_
 cases e with
 |normal=>exact(hC main T hT).go rfl rfl (g':=G (aM b a' k) cs) (fun w=>by simp[G,stepG,stepG.exec,aM]) (h4 _ _ _ q)
 |exit T5=>
  by_cases JN:T5=id
  ·simp only[q8,JN,if_true] at q
   have:=h4 _ _ _ q
   simp only[jT,exitTo,JN,beq_self_eq_true,if_true]
   exact this
  simp only[q8,JN,if_false] at q
  have:=h4 _ _ _ q
  have dR:(id==T5)=false:=by simp;exact fun h=>JN h.symm
  simp only[jT,exitTo,dR,Bool.false_eq_true,if_false] at this ⊢
  exact this
 |ret=>exact h4 _ _ _ q
 |panic ch=>exact h4 _ _ _ q
 |goto l=>exact(h4 _ _ _ q).elim
 |outgrown=>exact(h4 _ _ _ q).elim
theorem wp_exit(hC:∀main T,C main T→Closed P main T)(h:Q (.exit id) a s):Wp C fn aA (.exit id) Q a s:=by
 intro main T hT b k cs h1 h2 h3 h4
 have h':=h4 _ _ _ h
 simp only[jT] at h'
 cases hk:exitTo id k with
 |some k'=>
  rw[hk] at h'
  exact(hC main T hT).go rfl rfl (g':=G (aM b a k') cs) (fun w=>by simp[G,stepG,stepG.exec,aM,hk]) h'
 |none=>rw[hk] at h';exact h' k hk
theorem wp_ret{fn:FuncId}(h:Q .ret a s):Wp C fn aA .ret Q a s:=fun _ _ _ _ _ _ _ _ _ h4=>h4 _ _ _ h _
theorem wp_region(hC:∀main T,C main T→Closed P main T){ops:Array Oper}(h:ab C fn aA ops (List.range ops.size) Q a s):Wp C fn aA (.region id ops false) Q a s:=
 fun main T hT b k cs h1 h2 h3 h4=>(hC main T hT).go rfl rfl (g':=G (aM b a (.inRegion ops (List.range ops.size)::k)) cs) (fun w=>by simp[G,stepG,stepG.exec,aM]) (h main T hT b k cs h1 h2 h3 h4)
theorem wp_region_draw(hC:∀main T,C main T→Closed P main T){ops:Array Oper}(h:∀t,ab C fn aA ops (Region.schedule (P.follows .mixedOrders) ops t) Q a s):Wp C fn aA (.region id ops true) Q a s:=by
 intro main T hT b k cs h1 h2 h3 h4
 refine(hC main T hT).step _ _ rfl fun w hw=>?_
 refine⟨G (aM b a (.inRegion ops (Region.schedule (P.follows .mixedOrders) ops (w.tape w.drawn (.order b.fn id)))::k)) cs,{w with drawn:=w.drawn+1},#[],s,?_,rfl,Ec hw _,h _ main T hT b k cs h1 h2 h3 h4⟩
 simp[G,stepG,stepG.exec,aM,choose,Sem.run,Question.forced,Question.cut]
theorem uv(hC:∀main T,C main T→Closed P main T){ops:Array Oper}(h:Q .normal a s):ab C fn aA ops [] Q a s:=
 fun main T hT b k cs _ _ _ h4=>(hC main T hT).go rfl rfl (g':=G (aM b a k) cs) (fun w=>by simp[G,stepG,stepG.exec,aM]) (h4 _ _ _ h)
theorem fK(b:Frame)(a:Act)(ops:Array Oper)(i:Nat)(rest:List Nat)(k:List Item)(v:Value):
 (aM b a (.inRegion ops (i::rest)::k)).finish v=aM b (a.put ((ops[i]?).bind (·.dst)) v) (.inRegion ops rest::k):=by
 cases h:(ops[i]?).bind (·.dst)<;>simp[Frame.finish,aM,Act.put,h]
theorem uu(hC:∀main T,C main T→Closed P main T){ops:Array Oper}{o:Oper}(ho:ops[i]?=some o) (hw:Region.wanted o (yielded ops a.tmps)=false)
 (h:ab C fn aA ops rest Q (a.put o.dst undef) s):ab C fn aA ops (i::rest) Q a s:=by
 intro main T hT b k cs h1 h2 h3 h4
 refine(hC main T hT).go rfl rfl (g':=G (aM b (a.put o.dst undef) (.inRegion ops rest::k)) cs) (fun w=>?_) (h main T hT b k cs h1 h2 h3 h4)
 have:=fK b a ops i rest k undef
 rw[ho] at this
 simp only[Option.bind_some] at this
 rw[←this]
 simp[G,stepG,stepG.exec,aM,ho,hw]
def auk(dst:Option Tmp)(a:Act)(K:Act→St→Prop)(Q:Post):Ending→St→Prop
 | .returned v,s=>K (a.put dst v) s
 | .panicked ch,s=>Q (.panic ch) a s
 | .outgrown,_=>False
def upon(C:Class)(P:Program)(aA:Option Nat)(dst:Option Tmp)(a:Act)(K:Act→St→Prop)(Q:Post):Next→St→Prop
 | .value v,s=>K (a.put dst v) s
 | .skip,s=>K (a.put dst undef) s
 | .enter f args,s=>Fn C P f args s (auk dst a K Q)
 | .round l f tmps assign body,s=>Round C l f tmps assign body s (auk dst a K Q)
 | .defer d,s=>aA=none∧K ({a with defers:=d::a.defers}.put dst undef) s
 |_,_=>False
def Oj(a:Act)(Q:Post):Halt→St→Prop
 | .panic v,s=>Q (.panic [{v,recovered:=false}]) a s
 |_,_=>False
theorem acz(g:Bool×Array Event→Event→Bool×Array Event)(hg:∀x y,(g x y).2=x.2∨(g x y).2=x.2.push y):
 ∀(l:List Event) (x:Bool×Array Event),∀e∈(l.foldl g x).2,e∈x.2∨e∈l:=by
 intro l
 induction l with
 |nil=>intro x e he;exact .inl he
 |cons y l ih=>
  intro x e he
  simp only[List.foldl_cons] at he
  rcases ih _ e he with h|h
  ·rcases hg x y with h'|h'
   ·rw[h'] at h;exact .inl h
   rw[h'] at h
   rcases Array.mem_push.1 h with h|h
   ·exact .inl h
   exact .inr (by simp[h])
  exact .inr (List.mem_cons_of_mem _ h)
theorem iG(P:Program)(f:FuncId)(es:Array Event):∀e∈seen P f es,e∈es:=by
 intro e he
 unfold seen at he
 simp only at he
 rw[←Array.foldl_toList] at he
 rcases acz _ (fun x y=>by
  rcases x with ⟨q,kept⟩
  dsimp only
  split
  ·exact .inl rfl
  dsimp only
  split
  ·exact .inl rfl
  exact .inr rfl) es.toList _ e he with h|h
 ·simp at h
 exact Array.mem_toList_iff.1 h
theorem Trans.sub{w:World}{es ep:Array Event}(h:Trans s w s' w' es)(hs:∀e∈ep,e∈es):Trans s w s' w' ep:=
 ⟨h.jP,h.size,h.frame,h.own,h.NI,h.os,h.output,h.tape,fun e he=>h.vX e (hs e he),fun e he=>h.low e (hs e he)⟩
theorem Oh(hC:∀main T,C main T→Closed P main T){ops:Array Oper}{o:Oper}(ho:ops[i]?=some o) (hw:Region.wanted o (yielded ops a.tmps)=true)
 (hd:aA=none∨∀c,o.op≠ .defer c)
 (h:bS P (execOp a.eval o) s (upon C P aA o.dst a (fun a' s'=>ab C fn aA ops rest Q a' s') Q) (Oj a Q)):ab C fn aA ops (i::rest) Q a s:=by
 intro main T hT b k cs h1 h2 h3 h4
 have iR:=hC main T hT
 have mG:∀(a:Act) v,(aM b a (.inRegion ops (i::rest)::k)).finish v=aM b (a.put o.dst v) (.inRegion ops rest::k):=by
  intro a v;rw[fK,ho];rfl
 have hk:(b.kind==CallKind.early)=false:=by simpa using h2
 have gF:∀w,stepG P main (G (aM b a (.inRegion ops (i::rest)::k)) cs) w=stepG.apply P true (aM b a (.inRegion ops (i::rest)::k)) cs none (execOp a.eval o) w:=by
  intro w
  have he:=kS b a (.inRegion ops (i::rest)::k)
  simp only[aM] at he
  simp only[G,stepG,stepG.exec,aM,ho,Option.map_some,Option.getD_some,hw,if_true,stepG.oper,Frame.oper?,he]
  rcases hd with hd|hd
  ·rw[h3,hd]
  split
  ·rename_i hx hy;exact absurd hy (hd _)
  rfl
 refine iR.step _ _ rfl fun w p6=>?_
 obtain⟨r,es,hr,hl⟩:=gM _ _ _ _ w #[] h p6
 rw[Array.empty_append] at hr
 have mW:=gF w
 simp only[stepG.apply,if_true,hr] at mW
 simp only[aM,hk,Bool.false_eq_true,if_false] at mW
 have fD:=iG P b.fn es
 cases r with
 |ok nx w'=>
  obtain⟨s',ht,hu⟩:=hl
  have ht':=ht.sub fD
  cases nx with
  |value v=>
   simp only[GStep.after,Array.append_empty] at mW
   refine⟨_,_,_,s',mW,rfl,ht',?_⟩
   have:=hu main T hT b k cs h1 h2 h3 h4
   rw[←mG] at this;exact this
  |skip=>
   simp only[GStep.after,Array.append_empty] at mW
   refine⟨_,_,_,s',mW,rfl,ht',?_⟩
   have:=hu main T hT b k cs h1 h2 h3 h4
   rw[←mG] at this;exact this
  |enter f args=>
   simp only[GStep.after,Array.append_empty] at mW
   refine⟨_,_,_,s',mW,rfl,ht',?_⟩
   refine hu main T hT (aM b a (.inRegion ops (i::rest)::k)) cs (fun v s'' hv=>?_) (fun ch s'' hv=>?_)
   ·rw[mG];exact hv main T hT b k cs h1 h2 h3 h4
   exact h4 _ _ _ hv _
  |round l f tmps assign body=>
   simp only[GStep.after,Array.append_empty] at mW
   refine⟨_,_,_,s',mW,rfl,ht',?_⟩
   refine hu main T hT (aM b a (.inRegion ops (i::rest)::k)) cs (fun v s'' hv=>?_) (fun ch s'' hv=>?_)
   ·rw[mG];exact hv main T hT b k cs h1 h2 h3 h4
   exact h4 _ _ _ hv _
  |defer d=>
   simp only[GStep.after,Array.append_empty] at mW
   refine⟨_,_,_,s',mW,rfl,ht',?_⟩
   have:=hu.2 main T hT b k cs h1 h2 h3 h4
   rw[←mG] at this
   exact this
  |_=>exact hu.elim
 |halt hh w'=>
  obtain⟨s',ht,hu⟩:=hl
  have ht':=ht.sub fD
  cases hh with
  |panic v=>
   simp only[GStep.after,Array.append_empty] at mW
   refine⟨_,_,_,s',mW,rfl,ht',?_⟩
   have hp:Oj a Q (.panic v) s':=hu
   exact h4 _ _ _ hp _
  |_=>exact absurd hu id
def r5(P:Program)(fn:Func)(R:Ending→St→Prop):Post
 | .normal,a,s| .ret,a,s=>a.defers=[]∧bS P (results fn a.tmps) s (fun v s'=>∃s0,s0.le s'∧R (.returned v) s0) (fun _ _=>False)
 | .panic ch,a,s=>a.defers=[]∧R (.panicked ch) s
 |_,_,_=>False
theorem tj(hC:∀main T,C main T→Closed P main T){main:Bool}{T:Goroutine→St→Prop}(hT:C main T){f:FuncId}{fn:Func}(hf:P.funcs[f]?=some fn) {fr c:Frame} {cs:List Frame}
 (h1:fr.fn=f) (h2:fr.kind= .normal) (h3:fr.mode= .returning) (h4:fr.defers=[]) {R:Ending→St→Prop} {s:St}
 (hr:bS P (results fn fr.tmps) s (fun v s'=>∃s0,s0.le s'∧R (.returned v) s0) (fun _ _=>False)) (hk:∀v s',R (.returned v) s'→T (G (c.finish v) cs) s'):T (G fr (c::cs)) s:=by
 refine(hC main T hT).step _ _ rfl fun w p6=>?_
 obtain⟨r,es,bX,hl⟩:=gM _ _ _ _ w #[] hr p6
 clear hr
 rw[Array.empty_append] at bX
 cases r with
 |ok v w'=>
  obtain⟨s',ht,hu⟩:=hl
  refine⟨G (c.finish v) cs,w',seen P fr.fn es,s',?_,rfl,ht.sub (iG _ _ _),by obtain⟨s0,hl0,vJ⟩:=hu;exact(hC main T hT).mono _ _ _ hl0 (hk _ _ vJ)⟩
  rcases fr with ⟨fn',tmps,todo,defers,mode,kind,ro⟩
  simp only at h1 h2 h3 h4 bX ⊢
  subst h1 h2 h3 h4
  simp only[G,stepG,unwind,hf,bX,doReturn,GStep.after,Array.append_empty]
 |halt _ _=>obtain⟨_,_,hu⟩:=hl;exact hu.elim
theorem Ta(hC:∀main T,C main T→Closed P main T){f:FuncId}{fn:Func}{c:Code}{args:Array Value}{R:Ending→St→Prop}
 (hf:P.funcs[f]?=some fn) (hb:fn.body=some c) (h:Wp C f none c (r5 P fn R) ⟨args++Array.replicate (fn.ntmps-args.size) undef,[]⟩ s):Fn C P f args s R:=by
 intro main T hT cl cs k1 k2
 let b:Frame:={(default:Frame) with fn:=f,kind:= .normal,roundOf:=none}
 have gZ:Frame.enter P f args .normal=aM b ⟨args++Array.replicate (fn.ntmps-args.size) undef,[]⟩ [.code c]:=by
  simp[Frame.enter,aM,hf,hb,b]
 rw[gZ]
 refine h main T hT b [] (cl::cs) rfl (by simp[b]) rfl fun e a' s' q=>?_
 have sN:∀(todo:List Item),a'.defers=[]→bS P (results fn a'.tmps) s' (fun v s'=>∃s0,s0.le s'∧R (.returned v) s0) (fun _ _=>False)→T (G {aM b a' todo with mode:= .returning} (cl::cs)) s':=
  fun todo hd hr=>tj hC hT hf rfl rfl rfl hd hr k1
 cases e with
 |normal=>
  exact(hC main T hT).go rfl rfl (g':=G {aM b a' [] with mode:= .returning} (cl::cs)) (fun w=>by simp[G,stepG,stepG.exec,aM,b]) (sN _ q.1 q.2)
 |ret=>
  exact fun todo=>(hC main T hT).go rfl rfl (g':=G {aM b a' (.code .ret::todo) with mode:= .returning} (cl::cs)) (fun w=>by simp[G,stepG,stepG.exec,aM,b]) (sN _ q.1 q.2)
 |panic ch=>
  intro todo
  refine(hC main T hT).go rfl rfl (g':=G (cl.raise ch) cs) (fun w=>?_) (k2 _ _ q.2)
  have EA:∀fr:Frame,fr.fn=f→fr.catches P=false:=by
   intro fr hfr;simp[Frame.catches,hfr,hf]
  have:=EA {aM b a' todo with mode:= .panicking ch} rfl
  simp only[aM,q.1] at this
  simp[G,stepG,unwind,aM,b,q.1,this]
 |exit id=>exact q.elim
 |goto l=>exact q.elim
 |outgrown=>exact q.elim
end rules
abbrev Env:=List (Nat×Value)
variable {env e:Env}
def get:Env→Nat→Value
 | [],_=>undef
 | (k,v)::r,t=>bif Nat.beq k t then v else get r t
def A(n:Nat)(env:Env)(D:List Deferred):Act:=⟨Array.ofFn (n:=n) fun i=>get env i,D⟩
def ev(n:Nat)(env:Env):Operand→Value
 | .tmp t=>bif Nat.blt t n then get env t else undef
 | .const v=>v
 | .global g=> .pointer (some ⟨g,0,none⟩)
 | .func f=> .func (.func f) #[] #[]
def gQ:Env→Nat→Option Value
 | [],_=>none
 | (k,v)::r,t=>bif Nat.beq k t then some v else gQ r t
def bu(n:Nat)(env:Env):Operand→Option Value
 | .tmp t=>bif Nat.blt t n then gQ env t else none
 | .const v=>some v
 | .global g=>some (.pointer (some ⟨g,0,none⟩))
 | .func f=>some (.func (.func f) #[] #[])
def yC(n:Nat)(env:Env):List Operand→Option (List Value)
 | []=>some []
 |x::l=>match bu n env x with
  |some v=>match yC n env l with
   |some r=>some (v::r)
   |none=>none
  |none=>none
def vX(n:Nat)(env:Env)(xs:Array Operand):Option (List Value):=yC n env xs.toList
theorem mX{t:Nat}{v:Value}(h:gQ env t=some v):get env t=v:=by
 induction env with
 |nil=>cases h
 |cons x env ih=>
  rcases x with ⟨k,u⟩
  simp only[gQ,get] at h ⊢
  cases hb:Nat.beq k t with
  |true=>rw[hb] at h;simpa using h
  |false=>rw[hb] at h;exact ih h
theorem aG{v:Value}(h:bu n env x=some v):ev n env x=v:=by
 cases x with
 |tmp t=>
  simp only[bu,ev] at h ⊢
  cases hb:Nat.blt t n with
  |true=>rw[hb] at h;exact mX h
  |false=>rw[hb] at h;cases h
 |const u=>simpa [bu,ev] using h
 |global g=>simpa [bu,ev] using h
 |func f=>simpa [bu,ev] using h
theorem akl:∀ {xs:List Operand} {l:List Value},yC n env xs=some l→xs.map (ev n env)=l
 | [],l,h=>by simpa [yC] using h
 |x::xs,l,h=>by
  simp only[yC] at h
  cases hx:bu n env x with
  |none=>rw[hx] at h;cases h
  |some v=>
   rw[hx] at h
   cases hr:yC n env xs with
   |none=>rw[hr] at h;cases h
   |some r=>rw[hr] at h;simp only[Option.some.injEq] at h;subst h;simp[aG hx,akl hr]
theorem sQ(h:vX n env xs=some l):xs.map (ev n env)=⟨l⟩:=by
 have:=akl h
 rcases xs with ⟨xs⟩
 simpa using this
def upd(dst:Option Tmp)(v:Value)(env:Env):Env:=
 match dst with
 |some d=>(d,v)::env
 |none=>env
theorem P1(n:Nat)(env:Env)(D:List Deferred)(t:Nat):(A n env D).tmps[t]?=if t <n then some (get env t) else none:=by
 simp only[A,Array.getElem?_ofFn]
 split<;>rfl
theorem ez(n:Nat)(env:Env)(D:List Deferred):(A n env D).eval=ev n env:=by
 funext x
 cases x with
 |tmp t=>
  simp only[Act.eval,ev,Array.getD_eq_getD_getElem?,P1]
  by_cases h:t <n
  ·rw[if_pos h,show Nat.blt t n=true from by simpa [Nat.blt_eq] using h];rfl
  rw[if_neg h,show Nat.blt t n=false from by simpa [Nat.blt_eq,←Bool.not_eq_true] using h];rfl
 |_=>rfl
theorem cL(k t:Nat)(v:Value)(r:Env):get ((k,v)::r) t=if k=t then v else get r t:=by
 simp only[get]
 by_cases h:k=t
 ·subst h;simp
 rw[if_neg h,show Nat.beq k t=false from by simpa [←Bool.not_eq_true] using h];rfl
theorem aZ(n:Nat)(env:Env)(D:List Deferred)(dst:Option Tmp)(v:Value):(A n env D).put dst v=A n (upd dst v env) D:=by
 cases dst with
 |none=>rfl
 |some d=>
  simp only[Act.put,upd,A,Act.mk.injEq,and_true]
  apply Array.ext_getElem?
  intro i
  rw[Array.getElem?_setIfInBounds]
  simp only[Array.getElem?_ofFn,Array.size_ofFn]
  by_cases h:d=i
  ·subst h
   by_cases h2:d <n<;>simp[h2,cL]
  simp only[h,if_false]
  split
  ·simp[cL,h]
  rfl
def Holds(n:Nat)(env:Env)(D:List Deferred)(a:Act):Prop:=∃rest,a=A n (env++rest) D
theorem get_append(env rest:Env)(t:Nat):get (env++rest) t=if (env.any fun x=>x.1==t) then get env t else get rest t:=by
 induction env with
 |nil=>simp
 |cons x env ih=>
  rcases x with ⟨k,v⟩
  simp only[List.cons_append,cL,List.any_cons]
  by_cases h:k=t
  ·simp[h]
  have hk:(k==t)=false:=by simpa using h
  rw[if_neg h,if_neg h,ih,hk,Bool.false_or]
theorem holds_of(n:Nat)(env ld:Env)(D:List Deferred)(h:∀x∈env,get ld x.1=x.2)(hd:∀x∈env,get env x.1=x.2):Holds n env D (A n ld D):=by
 refine⟨ld,?_⟩
 simp only[A,Act.mk.injEq,and_true]
 congr 1
 funext i
 rw[get_append]
 split
 ·rename_i ha
  obtain⟨x,hx,hk⟩:=List.any_eq_true.1 ha
  have hk:x.1=i.val:=by simpa using hk
  rw[←hk,h x hx,hd x hx]
 rfl
def ax(ops:Array Oper)(n:Nat)(env:Env):Option (Nat×Bool)→Bool
 |none=>true
 |some (j,want)=>match (ops[j]?).bind (·.dst) with
  |some d=>match bu n env (.tmp d) with
   |some (.bool b)=>b==want
   |_=>false
  |none=>false
theorem Gf{ops:Array Oper}{D:List Deferred}{b:Bool}(hd:(ops[j]?).bind (·.dst)=some d) (hv:bu n env (.tmp d)=some (.bool b)):yielded ops (A n env D).tmps j=some b:=by
 simp only[yielded,hd,Option.bind_some,P1]
 simp only[bu] at hv
 by_cases cP:d <n
 ·rw[show Nat.blt d n=true from by simpa [Nat.blt_eq] using cP] at hv
  simp only[cond_true] at hv
  rw[if_pos cP,mX hv]
 rw[show Nat.blt d n=false from by simpa [Nat.blt_eq,←Bool.not_eq_true] using cP] at hv
 cases hv
theorem Cs(ops:Array Oper)(n:Nat)(env:Env)(D:List Deferred)(o:Oper)(h:ax ops n env o.guard=true):Region.wanted o (yielded ops (A n env D).tmps)=true:=by
 unfold Region.wanted
 cases hg:o.guard with
 |none=>rfl
 |some x=>
  rcases x with ⟨j,want⟩
  rw[hg] at h
  simp only[ax] at h
  cases hd:(ops[j]?).bind (·.dst) with
  |none=>rw[hd] at h;cases h
  |some d=>
   rw[hd] at h
   simp only at h
   cases hv:bu n env (.tmp d) with
   |none=>rw[hv] at h;cases h
   |some v=>
    rw[hv] at h
    cases v<;>first
     | (simp only at h;simp only[Gf hd hv];simpa using h)
     | (cases h;done)
theorem Qz(ops:Array Oper)(n:Nat)(env:Env)(D:List Deferred)(o:Oper)(j:Nat)(want:Bool)(d:Tmp)(b:Bool)(hg:o.guard=some (j,want))(hd:(ops[j]?).bind (·.dst)=some d)
 (hv:bu n env (.tmp d)=some (.bool b)) (hb:(b==want)=false):Region.wanted o (yielded ops (A n env D).tmps)=false:=by
 unfold Region.wanted
 rw[hg]
 simp only[Gf hd hv]
 simpa using hb
structure TF(P:Program)(t:TypeId)(d:TypeDesc)(size bytes:Nat)(zero:List Value)(agg:Bool):Prop where
 und:P.underlying t=some d
 info:∃i,P.info? t=some i∧i.size=size∧i.bytes=bytes∧∃z,i.zero=some z∧z.cells=⟨zero⟩∧z=if agg then .agg ⟨zero⟩ else zero.headD undef
 isAgg:agg=(match d with| .struct _| .array _ _=>true|_=>false)
structure FF(P:Program)(f:FuncId):Prop where
 ff:∃fn,P.funcs[f]?=some fn∧(fn.name== "runtime.NumGoroutine")=false∧fn.body.isNone=false
section rules
variable {P:Program} {C:Class} {fn:FuncId} {aA:Option Nat} {Q:Post} {s:St} {n:Nat} {env:Env} {D:List Deferred}
variable {ops:Array Oper} {i:Nat} {rest:List Nat} {dst:Option Tmp} {ty:TypeId} {pos:String} {dg:Array Edge} {g:Option (Nat×Bool)}
theorem bV(hC:∀main T,C main T→Closed P main T){o:Oper}(ho:ops[i]?=some o) (hw:ax ops n env o.guard=true) (hd:∀c,o.op≠ .defer c)
 (h:bS P (execOp (ev n env) o) s (upon C P aA o.dst (A n env D) (fun a' s'=>ab C fn aA ops rest Q a' s') Q) (Oj (A n env D) Q)):ab C fn aA ops (i::rest) Q (A n env D) s:=by
 rw[←ez n env D] at h
 exact Oh hC ho (Cs _ _ _ _ _ hw) (.inr hd) h
theorem uy(hC:∀main T,C main T→Closed P main T){o:Oper}(ho:ops[i]?=some o) {want:Bool} {b:Bool} (hg:o.guard=some (j,want)) (hd:(ops[j]?).bind (·.dst)=some d)
 (hv:bu n env (.tmp d)=some (.bool b)) (hb:(b==want)=false) (h:ab C fn aA ops rest Q (A n (upd o.dst undef env) D) s):ab C fn aA ops (i::rest) Q (A n env D) s:=by
 refine uu hC ho (Qz _ _ _ _ _ _ _ _ _ hg hd hv hb) ?_
 rw[aZ];exact h
theorem tz(hC:∀main T,C main T→Closed P main T){o:Oper}{v:Value}(ho:ops[i]?=some o) (hw:ax ops n env o.guard=true) (hd:∀c,o.op≠ .defer c)
 (hv:execOp (ev n env) o=Sem.pure (.value v)) (h:ab C fn aA ops rest Q (A n (upd o.dst v env) D) s):ab C fn aA ops (i::rest) Q (A n env D) s:=by
 refine bV hC ho hw hd ?_
 rw[hv]
 show ab _ _ _ _ _ _ _ _
 rw[aZ];exact h
theorem RD(hC:∀main T,C main T→Closed P main T){op:BinOp}{T:TypeId}{k:IntKind}{a b:Int}{v:Value}(ho:ops[i]?=some ⟨dst,.binOp op T x y T',ty,pos,dg,g⟩) (hw:ax ops n env g=true)
 (hx:bu n env x=some (.int k a)) (hy:bu n env y=some (.int k b)) (hv:binOp op T (.int k a) (.int k b)=Sem.pure v) (h:ab C fn aA ops rest Q (A n (upd dst v env) D) s):ab C fn aA ops (i::rest) Q (A n env D) s:=by
 refine tz hC ho hw (by simp) ?_ h
 simp only[execOp,aG hx,aG hy]
 have he:eqGuard op T x y (.int k a) (.int k b)=Sem.pure ():=by
  unfold eqGuard
  cases op<;>rfl
 rw[he]
 show Sem.bind (Sem.bind (Sem.pure ()) fun _=>binOp op T (.int k a) (.int k b)) _=_
 simp only[Sem.bind,hv]
 rfl
theorem kJ(x:Int)(h: -9223372036854775808≤x∧x≤9223372036854775807):IntKind.i64.wrap x=x:=IntWalk.i64_in x h
end rules
section sem
variable {P:Program} {α:Type} {s:St} {Q:α→St→Prop} {E:Halt→St→Prop} {t:TypeId} {d:TypeDesc} {sz bE:Nat} {z:List Value} {ag:Bool}
theorem ae{a:β}{k:β→Sem α}:bS P (pure a >>= k) s Q E=bS P (k a) s Q E:=rfl
theorem aa{γ:Type}{x:Sem β}{f:β→Sem γ}{k:γ→Sem α}:bS P ((x >>= f) >>= k) s Q E=bS P (x >>= fun a=>f a >>= k) s Q E:=by
 have:∀(x:Sem β),((x.bind f).bind k)=x.bind fun a=>(f a).bind k:=by
  intro x
  induction x with
  |pure a=>rfl
  |halt h=>rfl
  |load m a k ih=>simp only[Sem.bind,ih]
  |store m a v k ih=>simp only[Sem.bind,ih]
  |new o k ih=>simp only[Sem.bind,ih]
  |shape r k ih=>simp only[Sem.bind,ih]
  |freeze a n k ih=>simp only[Sem.bind,ih]
  |frozen a k ih=>simp only[Sem.bind,ih]
  |getObj r k ih=>simp only[Sem.bind,ih]
  |setObj r o k ih=>simp only[Sem.bind,ih]
  |choose q k ih=>simp only[Sem.bind,ih]
  |sys c k ih=>simp only[Sem.bind,ih]
  |program k ih=>simp only[Sem.bind,ih]
  |mark m k ih=>simp only[Sem.bind,ih]
 show bS P ((x.bind f).bind k) s Q E=bS P (x.bind fun a=>(f a).bind k) s Q E
 rw[this]
theorem eN{k:Program→Sem α}:bS P (program >>= k) s Q E=bS P (k P) s Q E:=rfl
theorem ba(h:TF P t d sz bE z ag){k:TypeDesc→Sem α}:bS P (underlying t >>= k) s Q E=bS P (k d) s Q E:=by
 simp only[underlying,aa,eN,h.und,ae]
theorem cz(h:TF P t d sz bE z ag){k:Nat→Sem α}:bS P (sizeOf t >>= k) s Q E=bS P (k sz) s Q E:=by
 obtain⟨i,hi,h1,_⟩:=h.info
 simp only[sizeOf,typeInfo,aa,eN,hi,ae,h1]
def Qn(z:List Value)(ag:Bool):Value:=if ag then .agg ⟨z⟩ else z.headD undef
theorem ko(h:TF P t d sz bE z ag){k:Value→Sem α}:bS P (zeroValue t >>= k) s Q E=bS P (k (Qn z ag)) s Q E:=by
 obtain⟨i,hi,h1,h2,x,hx,hc,he⟩:=h.info
 simp only[zeroValue,typeInfo,aa,eN,hi,ae,hx,he,Qn]
theorem ei(h:TF P t d sz bE z ag):(Qn z ag).cells=⟨z⟩:=by
 obtain⟨i,hi,h1,h2,x,hx,hc,he⟩:=h.info
 rw[←hc,he];rfl
theorem kK(h:TF P t d sz bE z ag){k:Bool→Sem α}:bS P (isAgg t >>= k) s Q E=bS P (k ag) s Q E:=by
 simp only[isAgg,aa,ba h]
 rw[h.isAgg]
 cases d<;>rfl
theorem oK{o:Obj}{k:Nat→Sem α}:bS P (newObj o >>= k) s Q E=∀b,¬s.knows b→bS P (k b) ⟨s.ro,(b,o)::s.rw⟩ Q E:=rfl
theorem jD{e:TypeId}{cs:Array Value}{k:Addr→Sem α}:bS P (newRow e cs >>= k) s Q E=∀b,¬s.knows b→bS P (k ⟨b,0,none⟩) ⟨s.ro,(b,.cells cs e)::s.rw⟩ Q E:=rfl
theorem s8{e:TypeId}{v:Value}{k:Addr→Sem α}:bS P (newVar e v >>= k) s Q E=∀b,¬s.knows b→bS P (k ⟨b,0,none⟩) ⟨s.ro,(b,.cells v.cells e)::s.rw⟩ Q E:=rfl
theorem dO(b o k:Nat):(⟨b,o,none⟩:Addr).add k=⟨b,o+k,none⟩:=by
 unfold Addr.add;split
 ·rename_i h;subst h;rfl
 rfl
def nth:List Value→Nat→Option Value
 | [],_=>none
 |v::_,0=>some v
 |_::l,o+1=>nth l o
def ki:List Value→Nat→Option (List Value)
 |_,0=>some []
 | [],_+1=>none
 |v::l,n+1=>match ki l n with
  |some r=>some (v::r)
  |none=>none
def sub:List Value→Nat→Nat→Option (List Value)
 |l,0,n=>ki l n
 | [],_+1,_=>none
 |_::l,o+1,n=>sub l o n
def dE:List Value→Nat→List Value→List Value
 | [],_,_=>[]
 |x::l,_,[]=>x::l
 |_::l,0,v::vs=>v::dE l 0 vs
 |x::l,o+1,v::vs=>x::dE l o (v::vs)
theorem sH:∀(l:List Value) (o:Nat),nth l o=l[o]?
 | [],_=>rfl
 |_::_,0=>rfl
 |_::l,o+1=>by simp[nth,sH l o]
theorem QG:∀(l:List Value) (n:Nat) (vs:List Value),ki l n=some vs→vs.length=n∧∀(j:Nat) (v:Value),vs[j]?=some v→l[j]?=some v
 |l,0,vs,h=>by simp[ki] at h;subst h;simp
 | [],n+1,vs,h=>by simp[ki] at h
 |x::l,n+1,vs,h=>by
  simp only[ki] at h
  cases hr:ki l n with
  |none=>rw[hr] at h;cases h
  |some r=>
   rw[hr] at h;simp only[Option.some.injEq] at h;subst h
   obtain⟨h1,h2⟩:=QG l n r hr
   refine⟨by simp[h1],fun j v hj=>?_⟩
   cases j with
   |zero=>simpa using hj
   |succ j=>simp at hj ⊢;exact h2 j v hj
theorem sub_eq:∀(l:List Value) (o n:Nat) (vs:List Value),sub l o n=some vs→vs.length=n∧∀(j:Nat) (v:Value),vs[j]?=some v→l[o+j]?=some v
 |l,0,n,vs,h=>by
  have h:ki l n=some vs:=by cases l<;>exact h
  obtain⟨h1,h2⟩:=QG l n vs h
  exact⟨h1,fun j v hj=>by rw[Nat.zero_add];exact h2 j v hj⟩
 | [],o+1,n,vs,h=>by simp[sub] at h
 |x::l,o+1,n,vs,h=>by
  obtain⟨h1,h2⟩:=sub_eq l o n vs (by simpa [sub] using h)
  refine⟨h1,fun j v hj=>?_⟩
  rw[show o+1+j=(o+j)+1 from by omega]
  simpa using h2 j v hj
theorem lA:∀(l:List Value) (o:Nat) (vs:List Value),(dE l o vs).length=l.length
 | [],_,_=>rfl
 |_::_,_,[]=>by simp[dE]
 |_::l,0,v::vs=>by simp[dE,lA l 0 vs]
 |x::l,o+1,v::vs=>by simp[dE,lA l o (v::vs)]
theorem lv(l:List Value)(o:Nat):dE l o []=l:=by cases l<;>cases o<;>rfl
theorem CQ:∀(l:List Value) (o:Nat) (v:Value) (vs:List Value),o <l.length→dE l o (v::vs)=dE (l.set o v) (o+1) vs
 |x::l,0,v,vs,_=>by
  cases vs with
  |nil=>simp[dE,lv]
  |cons w ws=>simp[dE]
 |x::l,o+1,v,vs,h=>by
  have:=CQ l o v vs (by simpa using h)
  cases vs with
  |nil=>simp only[dE,this,lv,List.set_cons_succ]
  |cons w ws=>simp only[dE,this,List.set_cons_succ]
def Reads(s:St)(b o:Nat)(v:Value):Prop:=∃l t fz,s.has b (.cells ⟨l⟩ t fz)∧nth l o=some v
def cE(s:St)(b o n:Nat)(vs:List Value):Prop:=∃l t fz,s.has b (.cells ⟨l⟩ t fz)∧sub l o n=some vs
theorem wh{v:Value}(h:Reads s b o v){k:Value→Sem α}(hk:bS P (k v) s Q E):bS P (load ⟨b,o,none⟩ >>= k) s Q E:=by
 obtain⟨l,t,fz,h1,h2⟩:=h
 exact⟨rfl,rfl,⟨l⟩,t,fz,v,h1,by rw[sH] at h2;simpa using h2,hk⟩
theorem E0{c:List Value}{fz:Nat×Nat}(hb:s.has b (.cells ⟨c⟩ t fz))(l:List Value):∀(i:Nat) (acc:Array Value) {k:Array Value→Sem α},(∀(j:Nat) (v:Value),l[j]?=some v→c[o+i+j]?=some v)→bS P (k (acc++l.toArray)) s Q E→
 bS P (loadCellsFrom ⟨b,o,none⟩ i l.length acc >>= k) s Q E:=by
 induction l with
 |nil=>intro i acc k _ hk;simpa [loadCellsFrom,ae] using hk
 |cons v l ih=>
  intro i acc k h2 hk
  simp only[List.length_cons,loadCellsFrom,aa,dO]
  refine wh ⟨c,t,fz,hb,by rw[sH];exact h2 0 v rfl⟩ ?_
  refine ih (i+1) (acc.push v) (fun j x hx=>?_) (by simpa using hk)
  have:=h2 (j+1) x (by simpa using hx)
  rw[show o+(i+1)+j=o+i+(j+1) from by omega];exact this
theorem iU{m:Nat}(h:cE s b o m l){k:Array Value→Sem α}(hk:bS P (k ⟨l⟩) s Q E):bS P (loadCells ⟨b,o,none⟩ m >>= k) s Q E:=by
 obtain⟨c,t,fz,h1,h2⟩:=h
 obtain⟨h3,h4⟩:=sub_eq _ _ _ _ h2
 subst h3
 exact E0 h1 l 0 #[] (by simpa using h4) (by simpa using hk)
theorem amT{L:List (Nat×Obj)}{v:Value}{c:List Value}{e:TypeId}(hs:s.rw=L++(b,.cells ⟨c⟩ e (0,0))::R)(ho:o <c.length)(h1:single v=true){k:Unit→Sem α}
 (hk:bS P (k ()) ⟨s.ro,L++(b,.cells ⟨c.set o v⟩ e (0,0))::R⟩ Q E):bS P (store ⟨b,o,none⟩ v >>= k) s Q E:=
 ⟨rfl,rfl,h1,L,⟨c⟩,e,(0,0),R,hs,by simpa using ho,by simp,by
  rw[show (⟨c⟩:Array Value).setIfInBounds o v=⟨c.set o v⟩ from by simp];exact hk⟩
theorem mM{L:List (Nat×Obj)}{e:TypeId}(l:List Value):∀(i:Nat) (c:List Value) (s:St) {k:Unit→Sem α},s.rw=L++(b,.cells ⟨c⟩ e (0,0))::R→o+i+l.length≤c.length→(∀v∈l,single v=true)→
 bS P (k ()) ⟨s.ro,L++(b,.cells ⟨dE c (o+i) l⟩ e (0,0))::R⟩ Q E→bS P (storeCells ⟨b,o,none⟩ l i >>= k) s Q E:=by
 induction l with
 |nil=>intro i c s k hs _ _ hk;rcases s with ⟨ro,J5⟩;simp only at hs;subst hs;rw[lv] at hk;simpa [storeCells,ae] using hk
 |cons v l ih=>
  intro i c s k hs ho h1 hk
  simp only[List.length_cons] at ho
  simp only[storeCells,aa,dO]
  refine amT hs (by omega) (h1 v (by simp))<|ih (i+1) _ _ rfl (by simp;omega) (fun x hx=>h1 x (by simp[hx])) ?_
  rw[CQ _ _ _ _ (by omega)] at hk
  simpa [Nat.add_assoc] using hk
end sem
section rules
variable {P:Program} {C:Class} {fn:FuncId} {aA:Option Nat} {Q:Post} {s:St} {n:Nat} {env:Env} {D:List Deferred}
variable {ops:Array Oper} {i:Nat} {rest:List Nat} {dst:Option Tmp} {ty:TypeId} {pos:String} {dg:Array Edge} {g:Option (Nat×Bool)}
variable {T:TypeId} {d:TypeDesc} {sz bE:Nat} {z:List Value} {ag:Bool}
theorem anJ(hC:∀main T,C main T→Closed P main T)(ho:ops[i]?=some ⟨dst,.alloc T,ty,pos,dg,g⟩) (hw:ax ops n env g=true) (tf:TF P T d sz bE z ag)
 (h:∀b,¬s.knows b→ab C fn aA ops rest Q (A n (upd dst (.pointer (some ⟨b,0,none⟩)) env) D) ⟨s.ro,(b,.cells ⟨z⟩ T)::s.rw⟩):ab C fn aA ops (i::rest) Q (A n env D) s:=by
 refine bV hC ho hw (by simp) ?_
 simp only[execOp,Instr.alloc,aa,ko tf,s8,ae,ei tf]
 intro b hb
 have:=h b hb
 rw[←aZ] at this
 exact this
theorem aEf(hC:∀main T,C main T→Closed P main T){v:Value}(ho:ops[i]?=some ⟨dst,.box T x,ty,pos,dg,g⟩) (hw:ax ops n env g=true) (hx:bu n env x=some (v)) (hl:v.cells=⟨l⟩)
 (h:∀b,¬s.knows b→ab C fn aA ops rest Q (A n (upd dst (.pointer (some ⟨b,0,none⟩)) env) D) ⟨s.ro,(b,.cells ⟨l⟩ T)::s.rw⟩):ab C fn aA ops (i::rest) Q (A n env D) s:=by
 refine bV hC ho hw (by simp) ?_
 simp only[execOp,Instr.box,aa,s8,ae,aG hx,hl]
 intro b hb
 have:=h b hb
 rw[←aZ] at this
 exact this
theorem FP(hC:∀main T,C main T→Closed P main T){v:Value}{L:List (Nat×Obj)}{c:List Value}{e:TypeId}(ho:ops[i]?=some ⟨dst,.store T x y,ty,pos,dg,g⟩) (hw:ax ops n env g=true) (tf:TF P T d sz bE z ag)
 (hx:bu n env x=some (.pointer (some ⟨b,o,none⟩))) (hy:bu n env y=some (v)) (hl:v.cells=⟨l⟩) (hn:l.length=sz) (h1:∀v∈l,single v=true) (hs:s.rw=L++(b,.cells ⟨c⟩ e (0,0))::R) (hb:o+l.length≤c.length)
 (h:ab C fn aA ops rest Q (A n (upd dst undef env) D) ⟨s.ro,L++(b,.cells ⟨dE c o l⟩ e (0,0))::R⟩):ab C fn aA ops (i::rest) Q (A n env D) s:=by
 refine bV hC ho hw (by simp) ?_
 have uI:v.cells.size=sz:=by rw[hl];simpa using hn
 simp only[execOp,Instr.storeAt,aG hx,aG hy,Instr.sureAddr,storeVar,aa,ae,cz tf,uI,ne_eq,not_true,if_false]
 rw[show v.cells.toList=l from by rw[hl]]
 refine mM l 0 c s hs (by simpa using hb) h1 ?_
 rw[←aZ] at h
 rw[Nat.add_zero]
 exact h
theorem aEb(hC:∀main T,C main T→Closed P main T){E:TypeId}{a:Option Addr}{len:Nat}(ho:ops[i]?=some ⟨dst,.call ⟨.builtin .len,#[x],#[T]⟩,ty,pos,dg,g⟩) (hw:ax ops n env g=true)
 (tf:TF P T (.slice E) sz bE z ag) (hx:bu n env x=some (.slice a len cap)) (h:ab C fn aA ops rest Q (A n (upd dst (.int .i64 len) env) D) s):ab C fn aA ops (i::rest) Q (A n env D) s:=by
 refine bV hC ho hw (by simp) ?_
 simp only[execOp,resolve,invoke,builtin,Builtin.len_,List.map_toArray,List.map_cons,List.map_nil,aG hx,ae]
 simp only[List.getElem?_toArray,List.getElem?_cons_zero,ba tf,ae,aa]
 rw[←aZ] at h
 exact h
theorem kp{f:FuncId}{Q:Next→St→Prop}(ff:FF P f)(h:Q (.enter f args) s):bS P (callFunc f args) s Q E:=by
 obtain⟨fn,h1,h2,h3⟩:=ff.ff
 simp only[callFunc,eN,h1,h2,h3,Bool.false_eq_true,if_false]
 exact h
theorem uA(hC:∀main T,C main T→Closed P main T){f:FuncId}{fi ca:Array Value}{at_:Array TypeId}{ws:List Value}{R:Ending→St→Prop}(ho:ops[i]?=some ⟨dst,.call ⟨.value x,xs,at_⟩,ty,pos,dg,g⟩) (hw:ax ops n env g=true)
 (hv:bu n env x=some (.func (.func f) fi ca)) (ff:FF P f) (hx:vX n env xs=some vs) (sM:fi++⟨vs⟩++ca=⟨ws⟩) (hf:Fn C P f ⟨ws⟩ s R) (h:∀v s',R (.returned v) s'→ab C fn aA ops rest Q (A n (upd dst v env) D) s') (hp:∀ch s',R (.panicked ch) s'→Q (.panic ch) (A n env D) s') (hg:∀s',¬R .outgrown s'):
 ab C fn aA ops (i::rest) Q (A n env D) s:=by
 refine bV hC ho hw (by simp) ?_
 simp only[execOp,resolve,aG hv,Deferred.ofValue,ae,sQ hx]
 simp only[invoke,sM]
 refine kp ff<|Fn.mono hf fun e s' hr=>?_
 cases e with
 |returned v=>have:=h v s' hr;rw[←aZ] at this;exact this
 |panicked ch=>exact hp ch s' hr
 |outgrown=>exact(hg s' hr).elim
theorem Qr(hC:∀main T,C main T→Closed P main T){c:Operand}{x y:Code}{t:Bool}(hc:bu n env c=some (.bool t))(h1:t=true→Wp C fn aA x Q (A n env D) s)(h2:t=false→Wp C fn aA y Q (A n env D) s):
 Wp C fn aA (.cond c x y) Q (A n env D) s:=
 wp_cond_split hC (by rw[ez];exact aG hc) h1 h2
theorem XX(hC:∀main T,C main T→Closed P main T){c:Operand}{x y:Code}{t:Bool}(hc:bu n env c=some (.bool t))(ht:t=true)(h1:Wp C fn aA x Q (A n env D) s):Wp C fn aA (.cond c x y) Q (A n env D) s:=
 Qr hC hc (fun _=>h1) (fun h=>by rw[ht] at h;cases h)
theorem XY(hC:∀main T,C main T→Closed P main T){c:Operand}{x y:Code}{t:Bool}(hc:bu n env c=some (.bool t))(ht:t=false)(h1:Wp C fn aA y Q (A n env D) s):Wp C fn aA (.cond c x y) Q (A n env D) s:=
 Qr hC hc (fun h=>by rw[ht] at h;cases h) (fun _=>h1)
theorem tX{j:Nat}{want:Bool}{d:Tmp}{b:Bool}(hd:(ops[j]?).bind (·.dst)=some d) (hv:bu n env (.tmp d)=some (.bool b)) (hb:b=want):ax ops n env (some (j,want))=true:=by
 simp only[ax,hd,hv,hb,beq_self_eq_true]
def fO:Nat→List Value→Env
 |_,[]=>[]
 |i,v::l=>(i,v)::fO (i+1) l
theorem S4:∀(l:List Value) (i t:Nat),get (fO i l) t=if i≤t then l.getD (t-i) undef else undef
 | [],i,t=>by simp[fO,get]
 |v::l,i,t=>by
  simp only[fO,cL,S4 l (i+1) t]
  by_cases h:i=t
  ·subst h;simp
  by_cases h2:i≤t
  ·rw[if_neg h,if_pos h2,if_pos (by omega)]
   obtain⟨d,rfl⟩:∃d,t=i+1+d:=⟨t-i-1,by omega⟩
   rw[show i+1+d-i=d+1 from by omega,show i+1+d-(i+1)=d from by omega]
   simp
  rw[if_neg h,if_neg h2,if_neg (by omega)]
theorem kT(args:List Value)(n:Nat)(h:args.length≤n):(⟨(⟨args⟩:Array Value)++Array.replicate (n-args.length) undef,[]⟩:Act)=A n (fO 0 args) []:=by
 simp only[A,Act.mk.injEq,and_true]
 apply Array.ext_getElem?
 intro i
 rw[Array.getElem?_append]
 simp only[Array.getElem?_ofFn,Array.getElem?_replicate,S4]
 by_cases h1:i <args.length
 ·have h2:i <n:=by omega
  simp[h1,h2]
 by_cases h2:i <n
 ·simp[h1,h2];omega
 simp[h1,h2];omega
theorem S9(hC:∀main T,C main T→Closed P main T){f:FuncId}{fn:Func}{c:Code}{args:List Value}{R:Ending→St→Prop}
 (hf:P.funcs[f]?=some fn) (hb:fn.body=some c) (hn:fn.ntmps=n) (hl:Nat.ble args.length n=true) (h:Wp C f none c (r5 P fn R) (A n (fO 0 args) []) s):Fn C P f ⟨args⟩ s R:=by
 refine Ta hC hf hb ?_
 subst hn
 have:=kT args fn.ntmps (Nat.le_of_ble_eq_true hl)
 rw[←this] at h
 exact h
theorem p7{t:Tmp}{v:Value}(hv:bu n env (.tmp t)=some v):(A n env D).tmps[t]?.getD undef=v:=by
 have:=aG hv
 rw[←ez n env D] at this
 simpa [Act.eval,Array.getD_eq_getD_getElem?] using this
theorem xC{fn:Func}{R:Ending→St→Prop}{e:Exit}{a:Act}(he:e= .ret∨e= .normal)(hd:a.defers=[])(h:bS P (results fn a.tmps) s (fun v s'=>∃s0,s0.le s'∧R (.returned v) s0) (fun _ _=>False)):r5 P fn R e a s:=by
 rcases he with rfl|rfl<;>exact⟨hd,h⟩
end rules
theorem aou{i:TypeInfo}{w:World}(h:(typeInfo t).run P w= .ok i w):P.info? t=some i:=by
 simp only[typeInfo] at h
 change (Sem.program fun p=>Sem.bind (Sem.pure p) fun p=>match p.info? t with|some i=>Sem.pure i|none=>stuck "no such type").run P w=_ at h
 simp only[Sem.run,Sem.bind] at h
 cases hi:P.info? t with
 |none=>rw[hi] at h;simp[stuck,Sem.run] at h
 |some j=>rw[hi] at h;simp[Sem.run] at h;rw[h]
theorem nB{i:TypeInfo}{d:TypeDesc}{bE:Nat}{z:Value}{ag:Bool}(h:∀w,(typeInfo t).run P w= .ok i w)(hu:P.underlying t=some d)
 (h1:i.size=sz)(h2:i.bytes=bE)(h3:i.zero=some z)(h4:z=if ag then .agg ⟨l⟩ else l.headD undef)(h5:z.cells=⟨l⟩)(h6:ag=(match d with| .struct _| .array _ _=>true|_=>false)):TF P t d sz bE l ag:=
 ⟨hu,⟨i,aou (h default),h1,h2,z,h3,h5,h4⟩,h6⟩
def kU(env:Env):Env→Prop
 | []=>True
 | (t,v)::r=>gQ env t=some v∧kU env r
theorem kU.mem:∀ {e:Env},kU env e→∀x∈e,get env x.1=x.2
 | (t,v)::r,h,x,hx=>by
  rcases List.mem_cons.1 hx with rfl|hx
  ·exact mX h.1
  exact kU.mem h.2 x hx
theorem fY{D:List Deferred}(h:kU env e)(hd:kU e e):∃rest,A n env D=A n (e++rest) D:=by
 obtain⟨rest,hr⟩:=holds_of n e env D (kU.mem h) (kU.mem hd)
 exact⟨rest,hr⟩
def Ext(s s':St):Prop:=∀b o,s.has b o→s'.has b o
theorem Ext.refl(s:St):Ext s s:=fun _ _ h=>h
theorem Ext.trans(h:Ext QK aeO)(k:Ext aeO aeN):Ext QK aeN:=fun b o hb=>k b o (h b o hb)
theorem cE.ext{v:List Value}(h:cE s b o n v)(e:Ext s s'):cE s' b o n v:=by
 obtain⟨l,t,fz,h1,h2⟩:=h;exact⟨l,t,fz,e _ _ h1,h2⟩
section rules
variable {P:Program} {C:Class} {fn:FuncId} {aA:Option Nat} {Q:Post} {s:St} {n:Nat} {env:Env} {D:List Deferred}
variable {ops:Array Oper} {i:Nat} {rest:List Nat} {dst:Option Tmp} {ty:TypeId} {pos:String} {dg:Array Edge} {g:Option (Nat×Bool)}
variable {T:TypeId} {d:TypeDesc} {sz bE:Nat} {z:List Value} {ag:Bool}
def TU(n:Nat)(D:List Deferred)(p9:ι→Env)(sf:ι→St)(Inv:ι→Prop)(μ:ι→Nat)(m:Nat)(a:Act)(s:St):Prop:=
 ∃j rest,Inv j∧μ j <m∧a=A n (p9 j++rest) D∧(sf j).le s
theorem anM{p9:ι→Env}{sf:ι→St}{Inv:ι→Prop}{μ:ι→Nat}{m:Nat}(j:ι)(h:Inv j)(hm:μ j <m)(hc:kU env (p9 j))(hd:kU (p9 j) (p9 j))(hs:(sf j).le s):
 TU n D p9 sf Inv μ m (A n env D) s:=by
 obtain⟨r,hr⟩:=fY (n:=n) (D:=D) hc hd
 exact⟨j,r,h,hm,hr,hs⟩
theorem adX(hC:∀main T,C main T→Closed P main T)(p9:ι→Env)(sf:ι→St)(Inv:ι→Prop)(μ:ι→Nat){c:Code}(i0:ι)(h0:Inv i0)(hc:kU env (p9 i0))(hd:kU (p9 i0) (p9 i0))(hs:(sf i0).le s)
 (round:∀i,Inv i→∀rest,Wp C fn aA c (mf (TU n D p9 sf Inv μ (μ i)) Q) (A n (p9 i++rest) D) (sf i)):Wp C fn aA (.loop c) Q (A n env D) s:=by
 obtain⟨r0,vJ⟩:=fY (n:=n) (D:=D) hc hd
 rw[vJ]
 intro main T hT b k cs h1 h2 h3 h4
 have key:∀m i rest s,μ i=m→Inv i→(sf i).le s→T (G (aM b (A n (p9 i++rest) D) (.code c:: .inLoop c::k)) cs) s:=by
  intro m
  induction m using Nat.strongRecOn with
  |_ m ih=>
   intro i rest s hm hI hle
   refine(hC main T hT).mono _ _ _ hle ?_
   refine round i hI rest main T hT b (.inLoop c::k) cs h1 h2 h3 fun e a' s' q=>?_
   cases e with
   |normal=>
    obtain⟨j,afa,Ao,cP,rfl,yA⟩:=q
    exact(hC main T hT).go rfl rfl (g':=G (aM b _ (.code c:: .inLoop c::k)) cs) (fun w=>by simp[G,stepG,stepG.exec,aM]) (ih _ (hm▸cP) j afa s' rfl Ao yA)
   |exit id=>exact(h4 _ _ _ q).push rfl (by simp)
   |ret=>exact(h4 _ _ _ q).push (x:= .inLoop c) rfl (by simp)
   |panic ch=>exact(h4 _ _ _ q).push (x:= .inLoop c) rfl (by simp)
   |goto l=>exact(h4 _ _ _ q).elim
   |outgrown=>exact(h4 _ _ _ q).elim
 exact(hC main T hT).go rfl rfl (g':=G (aM b (A n (p9 i0++r0) D) (.code c:: .inLoop c::k)) cs) (fun w=>by simp[G,stepG,stepG.exec,aM]) (key _ i0 r0 s rfl h0 hs)
end rules
section rules
variable {P:Program} {C:Class} {fn:FuncId} {aA:Option Nat} {Q:Post} {s:St} {n:Nat} {env:Env} {D:List Deferred}
variable {ops:Array Oper} {i:Nat} {rest todo:List Nat} {dst:Option Tmp} {ty:TypeId} {pos:String} {dg:Array Edge} {g:Option (Nat×Bool)}
variable {T:TypeId} {d:TypeDesc} {sz bE:Nat} {z:List Value} {ag:Bool}
theorem EN{a:Act}(h:Q .normal a s):q8 id Q (.exit id) a s:=by simp only[q8,if_true];exact h
theorem EM{T5:Nat}{a:Act}(dR:Nat.beq T5 id=false)(h:Q (.exit T5) a s):q8 id Q (.exit T5) a s:=by
 have:¬T5=id:=by intro e;subst e;simp at dR
 simp only[q8,this,if_false];exact h
theorem Bp(hC:∀main T,C main T→Closed P main T){op:BinOp}{T:TypeId}{a b:ByteArray}{v:Value}(ho:ops[i]?=some ⟨dst,.binOp op T x y T',ty,pos,dg,g⟩) (hw:ax ops n env g=true)
 (hx:bu n env x=some (.string a)) (hy:bu n env y=some (.string b)) (hv:Op.stringOp op a b=Sem.pure v) (az:(match op with| .shl| .shr=>false|_=>true)=true) (h:ab C fn aA ops rest Q (A n (upd dst v env) D) s):ab C fn aA ops (i::rest) Q (A n env D) s:=by
 refine tz hC ho hw (by simp) ?_ h
 simp only[execOp,aG hx,aG hy]
 have he:eqGuard op T x y (.string a) (.string b)=Sem.pure ():=by
  unfold eqGuard
  cases op<;>rfl
 have hb:binOp op T (.string a) (.string b)=Op.stringOp op a b:=by cases op<;>first|rfl|cases az
 rw[he,hb,hv]
 rfl
end rules
def EI:List Edge→List Nat
 | []=>[]
 |e::l=>bif Region.binds .any e then e.on::EI l else EI l
def bw(ops:Array Oper)(i:Nat):List Nat:=
 match ops[i]? with
 |some o=>EI o.after.toList
 |none=>[]
theorem C3{e:Edge}:∀ {l:List Edge},e∈l→Region.binds .any e=true→e.on∈EI l
 |x::l,h,hb=>by
  rcases List.mem_cons.1 h with rfl|h
  ·simp[EI,hb]
  simp only[EI]
  cases Region.binds .any x
  ·exact C3 h hb
  exact List.mem_cons_of_mem _ (C3 h hb)
theorem ux:∀ {l:List Edge},j∈EI l→∃e∈l,Region.binds .any e=true∧e.on=j
 |x::l,h=>by
  simp only[EI] at h
  cases hb:Region.binds .any x
  ·rw[hb] at h
   obtain⟨e,he,h2⟩:=ux h
   exact⟨e,List.mem_cons_of_mem _ he,h2⟩
  rw[hb] at h
  rcases List.mem_cons.1 h with rfl|h
  ·exact⟨x,by simp,hb,rfl⟩
  obtain⟨e,he,h2⟩:=ux h
  exact⟨e,List.mem_cons_of_mem _ he,h2⟩
def Lin(ops:Array Oper):List Nat→List Nat→Prop
 |X,[]=>∀i,i <ops.size→i∈X
 |X,i::l=>i <ops.size∧i∉X∧(∀j∈bw ops i,j∈X)∧Lin ops (i::X) l
def Ax(ops:Array Oper):Bool:=(List.range ops.size).all fun i=>(bw ops i).all fun j=>Nat.blt j i
theorem xV[BEq α][LawfulBEq α]:∀ {l₁ l₂:List α},l₁.Nodup→(∀x∈l₁,x∈l₂)→l₁.length≤l₂.length
 | [],_,_,_=>by simp
 |x::l,l₂,hn,hs=>by
  rw[List.nodup_cons] at hn
  have hx:=hs x (by simp)
  have h1:(l₂.erase x).length=l₂.length-1:=List.length_erase_of_mem hx
  have h2:=xV (l₁:=l) (l₂:=l₂.erase x) hn.2 (fun y hy=>by
   have dR:y≠x:=fun e=>hn.1 (e▸hy)
   exact(List.mem_erase_of_ne dR).2 (hs y (by simp[hy])))
  have h3:=List.length_pos_of_mem hx
  simp only[List.length_cons]
  omega
theorem avn(ops:Array Oper)(hd:Ax ops=true):∀(fuel t:Nat) (listed:Array Bool) (acc:List Nat),listed.size=ops.size→acc.Nodup→(∀i∈acc,i <ops.size)→
 (∀i,i <ops.size→(listed.getD i true=true↔i∈acc))→fuel+acc.length=ops.size→∃l,Region.linearise.go .any ops fuel t listed acc=acc.reverse++l∧Lin ops acc l:=by
 intro fuel
 induction fuel with
 |zero=>
  intro t listed acc hs hn cP hl hf
  refine⟨[],by simp[Region.linearise.go],fun i hi=>?_⟩
  apply Classical.byContradiction
  intro rn
  have h1:(i::acc).Nodup:=List.nodup_cons.2 ⟨rn,hn⟩
  have h2:∀x∈i::acc,x∈List.range ops.size:=by
   intro x hx
   rcases List.mem_cons.1 hx with rfl|hx
   ·exact List.mem_range.2 hi
   exact List.mem_range.2 (cP x hx)
  have h3:=xV h1 h2
  simp at h3
  omega
 |succ fuel ih=>
  intro t listed acc hs hn cP hl hf
  simp only[Region.linearise.go]
  generalize hrs:(List.range ops.size).filter (fun i=> !listed.getD i true&&((ops[i]?).map (·.after.all fun e=> !Region.binds .any e||listed.getD e.on false)).getD false)=rs
  have dR:∃i,i <ops.size∧i∉acc:=by
   apply Classical.byContradiction
   intro H6
   have h2:∀x∈List.range ops.size,x∈acc:=by
    intro x hx
    apply Classical.byContradiction
    intro hx2
    exact H6 ⟨x,List.mem_range.1 hx,hx2⟩
   have h3:=xV List.nodup_range h2
   simp at h3
   omega
  have jm:∀i,i∈rs↔(i <ops.size∧i∉acc∧∀j∈bw ops i,j∈acc):=by
   intro i
   rw[←hrs,List.mem_filter,List.mem_range]
   constructor
   ·rintro⟨h1,h2⟩
    rw[Bool.and_eq_true] at h2
    refine⟨h1,fun hm=>?_,fun j hj=>?_⟩
    ·have:=(hl i h1).2 hm
     rw[this] at h2;simp at h2
    obtain⟨h3,h4⟩:=h2
    have ho:ops[i]?=some ops[i]:=by simp[h1]
    simp only[bw,ho] at hj
    obtain⟨e,he,hb,rfl⟩:=ux hj
    rw[ho] at h4
    simp only[Option.map_some,Option.getD_some,Array.all_eq_true'] at h4
    have h5:=h4 e (Array.mem_toList_iff.1 he)
    rw[hb] at h5
    simp only[Bool.not_true,Bool.false_or] at h5
    have Dk:e.on <ops.size:=by
     apply Classical.byContradiction
     intro hc
     have:listed.getD e.on false=false:=by
      rw[Array.getD_eq_getD_getElem?,Array.getElem?_eq_none (by omega)];rfl
     rw[this] at h5;cases h5
    have:listed.getD e.on true=true:=by
     rw[Array.getD_eq_getD_getElem?] at h5 ⊢
     have:listed[e.on]?=some listed[e.on]:=by simp[hs,Dk]
     rw[this] at h5 ⊢;exact h5
    exact(hl _ Dk).1 this
   rintro⟨h1,h2,h3⟩
   refine⟨h1,?_⟩
   have hf':listed.getD i true=false:=by
    cases hh:listed.getD i true with
    |false=>rfl
    |true=>exact absurd ((hl i h1).1 hh) h2
   rw[hf']
   have ho:ops[i]?=some ops[i]:=by simp[h1]
   rw[ho]
   simp only[Bool.not_false,Bool.true_and,Option.map_some,Option.getD_some,Array.all_eq_true']
   intro e he
   cases hb:Region.binds .any e with
   |false=>rfl
   |true=>
    have hj:e.on∈acc:=h3 _ (by simp only[bw,ho];exact C3 (Array.mem_toList_iff.2 he) hb)
    have Dk:=cP _ hj
    have h4:=(hl _ Dk).2 hj
    rw[Array.getD_eq_getD_getElem?] at h4 ⊢
    have:listed[e.on]?=some listed[e.on]:=by simp[hs,Dk]
    rw[this] at h4 ⊢
    simpa using h4
  have hrn:rs≠[]:=by
   obtain⟨i,hi,rn⟩:=dR
   have aw3:∃i,i <ops.size∧i∉acc∧∀j,j <i→j∈acc:=by
    have:∀m i,i≤m→i <ops.size→i∉acc→∃i,i <ops.size∧i∉acc∧∀j,j <i→j∈acc:=by
     intro m
     induction m with
     |zero=>intro i h1 h2 h3;exact⟨i,h2,h3,fun j hj=>by omega⟩
     |succ m ihm=>
      intro i h1 h2 h3
      by_cases hex:∃j,j <i∧j∉acc
      ·obtain⟨j,hj,hnj⟩:=hex
       exact ihm j (by omega) (by omega) hnj
      refine⟨i,h2,h3,fun j hj=>?_⟩
      apply Classical.byContradiction
      intro hc
      exact hex ⟨j,hj,hc⟩
    exact this i i (Nat.le_refl _) hi rn
   obtain⟨i,h1,h2,h3⟩:=aw3
   have:i∈rs:=(jm i).2 ⟨h1,h2,fun j hj=>by
    have:=(List.all_eq_true.1 hd) i (List.mem_range.2 h1)
    have:=(List.all_eq_true.1 this) j hj
    exact h3 j (by simpa [Nat.blt_eq] using this)⟩
   intro he;rw[he] at this;cases this
  have aFN:0 <rs.length:=List.length_pos_iff.2 hrn
  have aQB:=Nat.mod_lt t aFN
  have oT:rs[t % rs.length]?=some rs[t % rs.length]:=by simp[aQB]
  rw[oT]
  simp only
  generalize hi:rs[t % rs.length]=i
  have hir:i∈rs:=by rw[←hi];exact List.getElem_mem _
  obtain⟨h1,h2,h3⟩:=(jm i).1 hir
  obtain⟨l,Dl,rq⟩:=ih (t / rs.length) (listed.setIfInBounds i true) (i::acc) (by simpa using hs) (List.nodup_cons.2 ⟨h2,hn⟩)
   (fun j hj=>by rcases List.mem_cons.1 hj with rfl|hj;exact h1;exact cP j hj)
   (fun j hj=>by
    rw[Array.getD_eq_getD_getElem?,Array.getElem?_setIfInBounds]
    by_cases e:i=j
    ·subst e;simp[hs,h1]
    have:=hl j hj
    rw[Array.getD_eq_getD_getElem?] at this
    simp only[e,if_false,this,List.mem_cons]
    constructor
    ·exact .inr
    rintro(h|h)
    ·exact absurd h.symm e
    exact h)
   (by simp;omega)
  exact⟨i::l,by rw[Dl];simp,h1,h2,h3,rq⟩
theorem Bt{ops:Array Oper}(hd:Ax ops=true)(t:Nat):Lin ops [] (Region.schedule true ops t):=by
 have:Region.schedule true ops t=Region.linearise .any ops t:=by simp[Region.schedule]
 rw[this]
 obtain⟨l,h1,h2⟩:=avn ops hd ops.size t (Array.replicate ops.size false) [] (by simp) (by simp) (by simp) (fun i hi=>by simp[Array.getD_eq_getD_getElem?,hi]) (by simp)
 unfold Region.linearise
 rw[h1];simpa using h2
def aR(ops:Array Oper)(i:Nat):Option Tmp:=(ops[i]?).bind (·.dst)
def jq(ops:Array Oper)(base:Env):List (Nat×Value)→Env
 | []=>base
 | (i,v)::r=>upd (aR ops i) v (jq ops base r)
def bh:Nat→List Nat→Bool
 |_,[]=>false
 |i,x::l=>Nat.beq i x||bh i l
theorem aL:∀ {l:List Nat},bh i l=true↔i∈l
 | []=>by simp[bh]
 |x::l=>by
  simp only[bh,Bool.or_eq_true,List.mem_cons,aL (l:=l),Nat.beq_eq]
def cA(ops:Array Oper)(base:Env)(j:Nat):List (Nat×Value)→Env
 | []=>base.filter fun x=> !((List.range ops.size).any fun i=>aR ops i==some x.1&& !bh j (bw ops i))
 | (i,v)::r=>bif bh i (bw ops j) then upd (aR ops i) v (cA ops base j r) else cA ops base j r
def an:List (Nat×Value)→List Nat
 | []=>[]
 | (i,_)::r=>i::an r
theorem aP:∀ {l:List (Nat×Value)},i∈an l↔∃v,(i,v)∈l
 | []=>by simp[an]
 | (j,w)::r=>by
  simp only[an,List.mem_cons,aP (l:=r),Prod.mk.injEq]
  constructor
  ·rintro(rfl| ⟨v,hv⟩)
   ·exact⟨w,.inl ⟨rfl,rfl⟩⟩
   exact⟨v,.inr hv⟩
  rintro⟨v,⟨rfl,_⟩|hv⟩
  ·exact .inl rfl
  exact .inr ⟨v,hv⟩
def fF(ops:Array Oper):Bool:=
 (List.range ops.size).all fun i=>(List.range ops.size).all fun j=>Nat.beq i j||(match aR ops i,aR ops j with|some a,some b=> !Nat.beq a b|_,_=>true)
section any
variable {P:Program} {C:Class} {fn:FuncId} {aA:Option Nat} {Q:Post} {s:St} {n:Nat} {D:List Deferred} {ops:Array Oper} {base:Env}
def eL(C:Class)(fn:FuncId)(aA:Option Nat)(ops:Array Oper)(n:Nat)(D:List Deferred)(i:Nat)(v:Value)(e:Env)(s:St):Prop:=
 ∀s',Ext s s'→∀rest todo Q,ab C fn aA ops todo Q (A n (upd (aR ops i) v (e++rest)) D) s'→ab C fn aA ops (i::todo) Q (A n (e++rest) D) s'
structure Fits(ops:Array Oper)(base:Env)(Pl:List (Nat×Value))(X:List Nat)(env:Env):Prop where
 done:∀i v,(i,v)∈Pl→i∈X→∀d,aR ops i=some d→get env d=v
 old:∀t,(∀i∈X,aR ops i≠some t)→get env t=get base t
 cl:∀i∈X,i <ops.size∧∀j∈bw ops i,j∈X
def tT(C:Class)(fn:FuncId)(aA:Option Nat)(ops:Array Oper)(n:Nat)(D:List Deferred)(base:Env)(Pl:List (Nat×Value))(Sl:List (Nat×Value))(Q:Post)(s:St):Prop:=
 (∀i v,(i,v)∈Sl→eL C fn aA ops n D i v (cA ops base i Pl) s)→∀X l env,(∀i∈X,i∈an Pl)→(∀i v,(i,v)∈Pl→i∉X→(i,v)∈Sl)→Lin ops X l→Fits ops base Pl X env→
  ab C fn aA ops l Q (A n env D) s
def fG(l k:List Nat):Bool:=l.all fun j=>bh j k
theorem bQ{l k:List Nat}:fG l k=true↔∀j∈l,j∈k:=by
 simp only[fG,List.all_eq_true,aL]
theorem xE(h:fF ops=true)(hi:i <ops.size)(hj:j <ops.size)(dR:i≠j){a b:Tmp}(ha:aR ops i=some a)(hb:aR ops j=some b):a≠b:=by
 have h1:=(List.all_eq_true.1 h) i (List.mem_range.2 hi)
 have h2:=(List.all_eq_true.1 h1) j (List.mem_range.2 hj)
 rw[ha,hb] at h2
 have:Nat.beq i j=false:=by
  cases hb:Nat.beq i j with
  |false=>rfl
  |true=>exact absurd (Nat.eq_of_beq_eq_true hb) dR
 rw[this] at h2
 intro e;subst e
 simp at h2
theorem Aw(h:aR ops i=some d):i <ops.size:=by
 apply Classical.byContradiction
 intro hc
 simp[aR,Array.getElem?_eq_none (show ops.size≤i by omega)] at h
theorem xj(hf:Fits ops base Pl X env)(j0:Nat)(hds:∀j∈bw ops j0,j∈X)(hj0:j0∉X):∃rest,A n env D=A n (cA ops base j0 Pl++rest) D:=by
 have key:∀Pl',(∀x∈Pl',x∈Pl)→∀t,((cA ops base j0 Pl').any fun x=>x.1==t)=true→get (cA ops base j0 Pl') t=get env t:=by
  intro Pl'
  induction Pl' with
  |nil=>
   intro _ t ht
   simp only[cA] at ht ⊢
   obtain⟨x,hx,hk⟩:=List.any_eq_true.1 ht
   have hk:x.1=t:=by simpa using hk
   rw[List.mem_filter] at hx
   have H6:∀i,i <ops.size→aR ops i=some t→bh j0 (bw ops i)=true:=by
    intro i hi hd
    have h2:=hx.2
    rw[Bool.not_eq_true'] at h2
    have h3:=(List.any_eq_false.1 h2) i (List.mem_range.2 hi)
    rw[hd,hk] at h3
    simpa using h3
   rw[hf.old t fun i hi hd=>hj0 ((hf.cl i hi).2 j0 (aL.1 (H6 i (hf.cl i hi).1 hd)))]
   have vK:∀(b:Env) (p:Nat×Value→Bool),(∀v,p (t,v)=true)→get (b.filter p) t=get b t:=by
    intro b p hp
    induction b with
    |nil=>rfl
    |cons y b ih=>
     rcases y with ⟨k,v⟩
     by_cases e:k=t
     ·subst e;simp[List.filter_cons,hp,cL]
     simp only[List.filter_cons]
     split
     ·simp only[cL,e,if_false,ih]
     simp only[cL,e,if_false,ih]
   refine vK base _ fun v=>?_
   simp only[Bool.not_eq_true',List.any_eq_false,List.mem_range]
   intro i hi
   have:=H6 i hi
   simp only[Bool.and_eq_true,beq_iff_eq,Bool.not_eq_true',not_and,Bool.not_eq_false]
   exact this
  |cons x Pl' ih=>
   intro fD t ht
   rcases x with ⟨i,v⟩
   simp only[cA] at ht ⊢
   cases hm:bh i (bw ops j0) with
   |false=>rw[hm] at ht;simp only[cond_false] at ht ⊢;exact ih (fun x hx=>fD x (by simp[hx])) t ht
   |true=>
    rw[hm] at ht
    simp only[cond_true] at ht ⊢
    cases hd:aR ops i with
    |none=>rw[hd] at ht;simp only[upd] at ht ⊢;exact ih (fun x hx=>fD x (by simp[hx])) t ht
    |some d=>
     rw[hd] at ht
     simp only[upd] at ht ⊢
     rw[cL]
     by_cases e:d=t
     ·subst e
      rw[if_pos rfl]
      exact(hf.done i v (fD _ (by simp)) (hds i (aL.1 hm)) d hd).symm
     rw[if_neg e]
     refine ih (fun x hx=>fD x (by simp[hx])) t ?_
     simpa [e] using ht
 refine⟨env,?_⟩
 simp only[A,Act.mk.injEq,and_true]
 congr 1
 funext i
 rw[get_append]
 split
 ·rename_i ha
  exact(key Pl (fun _ h=>h) _ ha).symm
 rfl
theorem tK(mW:fF ops=true)(hf:Fits ops base Pl X env){v:Value}(hi:i <ops.size)(hx:i∉X)(hdp:∀j∈bw ops i,j∈X)(hv:∀w,(i,w)∈Pl→w=v):
 Fits ops base Pl (i::X) (upd (aR ops i) v env):=by
 refine⟨fun j w hj hjx d hd=>?_,fun t ht=>?_,fun j hj=>?_⟩
 ·rcases List.mem_cons.1 hjx with rfl|hjx
  ·rw[hd];simp only[upd,cL,if_true];exact(hv w hj).symm
  cases hdi:aR ops i with
  |none=>simp only[upd];exact hf.done j w hj hjx d hd
  |some d'=>
   have dR:d'≠d:=xE mW hi (Aw hd) (by intro e;subst e;exact hx hjx) hdi hd
   simp only[upd,cL,if_neg dR]
   exact hf.done j w hj hjx d hd
 ·cases hdi:aR ops i with
  |none=>simp only[upd];exact hf.old t fun j hj=>ht j (List.mem_cons_of_mem _ hj)
  |some d'=>
   have dR:d'≠t:=by intro e;subst e;exact ht i List.mem_cons_self hdi
   simp only[upd,cL,if_neg dR]
   exact hf.old t fun j hj=>ht j (List.mem_cons_of_mem _ hj)
 rcases List.mem_cons.1 hj with rfl|hj
 ·exact⟨hi,fun k hk=>List.mem_cons_of_mem _ (hdp k hk)⟩
 exact⟨(hf.cl j hj).1,fun k hk=>List.mem_cons_of_mem _ ((hf.cl j hj).2 k hk)⟩
theorem Du(hf:Fits ops base Pl X env){v:Value}(hx:i∉X):Fits ops base ((i,v)::Pl) X env:=
 ⟨fun j w hj hjx d hd=>by
  rcases List.mem_cons.1 hj with hj|hj
  ·cases hj;exact absurd hjx hx
  exact hf.done j w hj hjx d hd,hf.old,hf.cl⟩
theorem DY{ld:Env}(h:A n env D=A n ld D)(d:Option Tmp)(v:Value):A n (upd d v env) D=A n (upd d v ld) D:=by
 rw[←aZ,←aZ,h]
theorem c8{v:Value}(h:i∉bw ops j):cA ops base j ((i,v)::Pl)=cA ops base j Pl:=by
 simp only[cA]
 cases hm:bh i (bw ops j) with
 |false=>rfl
 |true=>exact absurd (aL.1 hm) h
theorem eL.ext{v:Value}(h:eL C fn aA ops n D i v e s)(he:Ext s s'):eL C fn aA ops n D i v e s':=
 fun s'' h2=>h s'' (he.trans h2)
def pH(ops:Array Oper)(ks:List Nat):Bool:=ks.all fun i=>fG (bw ops i) ks
def nodupB:List Nat→Bool
 | []=>true
 |i::l=> !bh i l&&nodupB l
theorem Jo{Sl:List (Nat×Value)}(i:Nat){v:Value}(hn:bh i (an Pl)=false)(hk:fG (bw ops i) (an Pl)=true)(jN:pH ops (an Pl)=true)(hs:fG (an Sl) (an Pl)=true)
 (bW:eL C fn aA ops n D i v (cA ops base i Pl) s)(h:tT C fn aA ops n D base ((i,v)::Pl) ((i,v)::Sl) Q s):tT C fn aA ops n D base Pl Sl Q s:=by
 have rn:i∉an Pl:=fun hm=>by rw[aL.2 hm] at hn;cases hn
 intro hSl X l env hX hl pK hf
 have Cm:i∉X:=fun hm=>rn (hX i hm)
 have OY:∀j,j∈an Pl→i∉bw ops j:=by
  intro j hj hm
  have:=(List.all_eq_true.1 jN) j hj
  exact rn (bQ.1 this i hm)
 refine h (fun j w hj=>?_) X l env (fun j hj=>List.mem_cons_of_mem _ (hX j hj)) (fun j w hj hjx=>?_) pK (Du hf Cm)
 ·rcases List.mem_cons.1 hj with hj|hj
  ·cases hj
   rw[c8 (fun hm=>rn (bQ.1 hk i hm))];exact bW
  rw[c8 (OY j (bQ.1 hs j (aP.2 ⟨w,hj⟩)))];exact hSl j w hj
 rcases List.mem_cons.1 hj with hj|hj
 ·cases hj;simp
 exact List.mem_cons_of_mem _ (hl j w hj hjx)
def pending(ops:Array Oper)(i:Nat)(Sl:List (Nat×Value)):List (Nat×Value):=Sl.filter fun x=> !bh x.1 (bw ops i)
theorem alh(hC:∀main T,C main T→Closed P main T){Sl:List (Nat×Value)}(mW:fF ops=true)(mo:nodupB (an Pl)=true)(dq:fG (List.range ops.size) (an Pl)=true)(cP:fG (an Pl) (List.range ops.size)=true)(h:Q .normal (A n (jq ops base Pl) D) s):tT C fn aA ops n D base Pl Sl Q s:=by
 intro hSl X l
 have HR:∀(l:List (Nat×Value)),nodupB (an l)=true→∀j v w,(j,v)∈l→(j,w)∈l→w=v:=by
  intro l
  induction l with
  |nil=>intro _ j v w h;cases h
  |cons x l ih=>
   rcases x with ⟨k,u⟩
   intro hb j v w h1 h2
   simp only[an,nodupB,Bool.and_eq_true,Bool.not_eq_true'] at hb
   have hk:k∉an l:=fun hm=>by rw[aL.2 hm] at hb;cases hb.1
   rcases List.mem_cons.1 h1 with h1|h1<;>rcases List.mem_cons.1 h2 with h2|h2
   ·cases h1;cases h2;rfl
   ·cases h1;exact absurd (aP.2 ⟨_,h2⟩) hk
   ·cases h2;exact absurd (aP.2 ⟨_,h1⟩) hk
   exact ih hb.2 j v w h1 h2
 have MQ:∀(l:List (Nat×Value)),(∀j∈an l,j <ops.size)→nodupB (an l)=true→(∀i v,(i,v)∈l→∀d,aR ops i=some d→get (jq ops base l) d=v)∧(∀t,(∀i∈an l,aR ops i≠some t)→get (jq ops base l) t=get base t):=by
  intro l
  induction l with
  |nil=>intro _ _;exact⟨fun _ _ h=>((by cases h)),fun _ _=>rfl⟩
  |cons x l ih=>
   rcases x with ⟨k,u⟩
   intro cP hb
   simp only[an,nodupB,Bool.and_eq_true,Bool.not_eq_true'] at hb
   have hk:k∉an l:=fun hm=>by rw[aL.2 hm] at hb;cases hb.1
   obtain⟨i1,i2⟩:=ih (fun j hj=>cP j (by simp[an,hj])) hb.2
   have hk1:k <ops.size:=cP k (by simp[an])
   refine⟨fun i v hi d hd=>?_,fun t ht=>?_⟩
   ·simp only[jq]
    rcases List.mem_cons.1 hi with hi|hi
    ·cases hi;rw[hd];simp only[upd,cL,if_true]
    have dR:k≠i:=fun e=>hk (e▸aP.2 ⟨_,hi⟩)
    cases hdk:aR ops k with
    |none=>simp only[upd];exact i1 i v hi d hd
    |some d'=>simp only[upd,cL,if_neg (xE mW hk1 (Aw hd) dR hdk hd)];exact i1 i v hi d hd
   simp only[jq]
   cases hdk:aR ops k with
   |none=>simp only[upd];exact i2 t fun i hi=>ht i (by simp[an,hi])
   |some d'=>
    have dR:d'≠t:=fun e=>ht k (by simp[an]) (by rw[hdk,e])
    simp only[upd,cL,if_neg dR];exact i2 t fun i hi=>ht i (by simp[an,hi])
 obtain⟨a1,a2⟩:=MQ Pl (fun j hj=>List.mem_range.1 (bQ.1 cP j hj)) mo
 induction l generalizing X with
 |nil=>
  intro env hX hl pK hf
  refine uv hC ?_
  have:A n env D=A n (jq ops base Pl) D:=by
   simp only[A,Act.mk.injEq,and_true]
   congr 1
   funext i
   by_cases he:∃j,j <ops.size∧aR ops j=some i.val
   ·obtain⟨j,hj,hd⟩:=he
    obtain⟨v,hv⟩:=aP.1 (bQ.1 dq j (List.mem_range.2 hj))
    rw[hf.done j v hv (pK j hj) _ hd,a1 j v hv _ hd]
   rw[hf.old _ (fun j hj hd=>he ⟨j,(hf.cl j hj).1,hd⟩),a2 _ (fun j hj hd=>he ⟨j,List.mem_range.1 (bQ.1 cP j hj),hd⟩)]
  rw[this];exact h
 |cons j l ih=>
  intro env hX hl pK hf
  obtain⟨h1,h2,h3,h4⟩:=pK
  obtain⟨w,hw⟩:=aP.1 (bQ.1 dq j (List.mem_range.2 h1))
  obtain⟨rest,hr⟩:=xj (n:=n) (D:=D) hf j h3 h2
  rw[hr]
  refine hSl j w (hl j w hw h2) s (Ext.refl s) rest l Q ?_
  rw[←DY hr]
  refine ih (j::X) _ (fun k hk=>?_) (fun k u hk Ck=>hl k u hk (fun h=>Ck (List.mem_cons_of_mem _ h))) h4 (tK mW hf h1 h2 h3 (fun u hu=>HR Pl mo j w u hw hu))
  rcases List.mem_cons.1 hk with rfl|hk
  ·exact aP.2 ⟨w,hw⟩
  exact hX k hk
def Rh:List (Nat×Value)→Nat→Option Value
 | [],_=>none
 | (i,v)::r,j=>bif Nat.beq i j then some v else Rh r j
theorem ac4(hC:∀main T,C main T→Closed P main T)(hm:P.follows .mixedOrders=true)(hd:Ax ops=true)(h:tT C fn aA ops n D env [] [] Q s):Wp C fn aA (.region id ops true) Q (A n env D) s:=by
 refine wp_region_draw (P:=P) hC fun t=>?_
 rw[hm]
 exact h (fun _ _ h=>((by cases h))) [] _ env (fun _ h=>((by cases h))) (fun _ _ h=>((by cases h))) (Bt hd t) ⟨fun _ _ h=>((by cases h)),fun _ _=>rfl,fun _ h=>((by cases h))⟩
end any
def oZ(place:Nat→Option (Nat×Nat)):List Value→List (Nat×List Value)→Option (List Value)
 |cs,[]=>some cs
 |cs,(i,vs)::r=>match place i with
  |some (off,size)=>bif Nat.beq vs.length size&&Nat.ble (off+vs.length) cs.length then oZ place (dE cs off vs) r else none
  |none=>none
theorem MX(off:Nat):∀(vs:List Value) (k:Nat) (cs:Array Value),off+k+vs.length≤cs.size→
 (vs.zipIdx k).foldl (fun(cs:Array Value) (x:Value×Nat)=>cs.setIfInBounds (off+x.2) x.1) cs=⟨dE cs.toList (off+k) vs⟩
 | [],k,cs,_=>by simp[lv]
 |v::vs,k,cs,h=>by
  simp only[List.length_cons] at h
  simp only[List.zipIdx_cons,List.foldl_cons]
  rw[MX off vs (k+1) _ (by simp;omega),CQ _ _ _ _ (by simp;omega)]
  simp[Nat.add_assoc]
theorem fill_eq(place:Nat→Option (Nat×Nat)):∀(parts:List (Nat×Value)) (cs l:List Value),oZ place cs (parts.map fun x=>(x.1,x.2.cells.toList))=some l→Instr.fill place ⟨cs⟩ parts=some ⟨l⟩
 | [],cs,l,h=>by simp[oZ] at h;subst h;rfl
 | (i,v)::r,cs,l,h=>by
  simp only[List.map_cons,oZ] at h
  simp only[Instr.fill]
  cases hp:place i with
  |none=>rw[hp] at h;cases h
  |some x=>
   rcases x with ⟨off,size⟩
   rw[hp] at h
   simp only at h ⊢
   cases hb:(Nat.beq v.cells.toList.length size&&Nat.ble (off+v.cells.toList.length) cs.length) with
   |false=>rw[hb] at h;cases h
   |true=>
    rw[hb] at h
    simp only[cond_true] at h
    rw[Bool.and_eq_true] at hb
    have h1:v.cells.size=size:=by simpa using Nat.eq_of_beq_eq_true hb.1
    have h2:off+v.cells.size≤cs.length:=by simpa using Nat.le_of_ble_eq_true hb.2
    rw[if_neg (by simp[h1];omega)]
    rw[show v.cells.zipIdx.foldl (fun(cs:Array Value) (x:Value×Nat)=>cs.setIfInBounds (off+x.2) x.1) (⟨cs⟩:Array Value)=⟨dE cs off v.cells.toList⟩ from by
     rw[←Array.foldl_toList,Array.toList_zipIdx]
     have:=MX off v.cells.toList 0 ⟨cs⟩ (by simpa using h2)
     simpa using this]
    exact fill_eq place r _ l h
def Qi(n:Nat)(env:Env):List (Nat×Operand)→Option (List (Nat×Value))
 | []=>some []
 | (i,x)::l=>match bu n env x with
  |some v=>match Qi n env l with
   |some r=>some ((i,v)::r)
   |none=>none
  |none=>none
theorem akk:∀ {xs:List (Nat×Operand)} {l:List (Nat×Value)},Qi n env xs=some l→xs.map (fun x=>(x.1,ev n env x.2))=l
 | [],l,h=>by simpa [Qi] using h
 | (i,x)::xs,l,h=>by
  simp only[Qi] at h
  cases hx:bu n env x with
  |none=>rw[hx] at h;cases h
  |some v=>
   rw[hx] at h
   cases hr:Qi n env xs with
   |none=>rw[hr] at h;cases h
   |some r=>rw[hr] at h;simp only[Option.some.injEq] at h;subst h;simp[aG hx,akk hr]
def dZ:Value→List Value
 | .agg ⟨l⟩=>l
 |v=>[v]
theorem my(v:Value):dZ v=v.cells.toList:=by cases v<;>rfl
def ur:List (Nat×Value)→List (Nat×List Value)
 | []=>[]
 | (i,v)::r=>(i,dZ v)::ur r
theorem kM:∀(l:List (Nat×Value)),ur l=l.map fun x=>(x.1,x.2.cells.toList)
 | []=>rfl
 | (i,v)::r=>by simp[ur,my,kM r]
def db(z:List Value):Nat→List Value
 |0=>[]
 |n+1=>z++db z n
theorem iX(z:List Value):∀n,(db z n).length=n*z.length
 |0=>by simp[db]
 |n+1=>by simp[db,iX z n,Nat.add_mul,Nat.add_comm]
theorem Gd(z:List Value)(hz:0 <z.length):∀n i,i <n*z.length→(db z n)[i]?=z[i % z.length]?
 |0,i,h=>by simp at h
 |n+1,i,h=>by
  simp only[db,List.getElem?_append]
  split
  ·rename_i hl;rw[Nat.mod_eq_of_lt hl]
  rename_i hl
  rw[Gd z hz n (i-z.length) (by rw[Nat.add_mul,Nat.one_mul] at h;omega)]
  rw[show i % z.length=(i-z.length) % z.length from by rw[Nat.mod_eq_sub_mod (by omega)]]
theorem sW(z:List Value)(n:Nat):((Array.range (n*z.length)).map fun i=>(⟨z⟩:Array Value)[i % (⟨z⟩:Array Value).size]!)=⟨db z n⟩:=by
 apply Array.ext_getElem?
 intro i
 simp only[Array.getElem?_map,Array.getElem?_range]
 by_cases h:i <n*z.length
 ·have hz:0 <z.length:=by
   rcases Nat.eq_zero_or_pos z.length with h0|h0
   ·rw[h0] at h;simp at h
   exact h0
  have hm:i % z.length <z.length:=Nat.mod_lt _ hz
  simp only[h,if_true,Option.map_some]
  have:=Gd z hz n i h
  simp only[List.size_toArray,List.getElem?_toArray]
  rw[this]
  simp[hm,getElem!_pos]
 simp only[h,if_false,Option.map_none]
 simp[iX,List.getElem?_eq_none (show (db z n).length≤i by rw[iX];omega)]
inductive DO(P:Program):List Field→List (Nat×Nat)→Prop
 |nil:DO P [] []
 |cons {f:Field} {d:TypeDesc} {sz bE:Nat} {z:List Value} {ag:Bool} {fs:List Field} {ps:List (Nat×Nat)} (h:TF P f.type d sz bE z ag) (t:DO P fs ps):DO P (f::fs) ((f.offset,sz)::ps)
theorem oA{Q:α→St→Prop}:∀ {fs:List Field} {ps:List (Nat×Nat)} (_:DO P fs ps) {k:List (Nat×Nat)→Sem α},
 bS P (fs.mapM (fun f=>do pure (f.offset,←sizeOf f.type)) >>= k) s Q E=bS P (k ps) s Q E
 |_,_,.nil,k=>by simp only[List.mapM_nil,ae]
 |_,_,.cons h t,k=>by
  simp only[List.mapM_cons,aa,cz h,ae]
  exact oA t
section rules
variable {P:Program} {C:Class} {fn:FuncId} {aA:Option Nat} {Q:Post} {s:St} {n:Nat} {env:Env} {D:List Deferred}
variable {ops:Array Oper} {i:Nat} {rest:List Nat} {dst:Option Tmp} {ty:TypeId} {pos:String} {dg:Array Edge} {g:Option (Nat×Bool)}
variable {T:TypeId} {d:TypeDesc} {sz bE:Nat} {z:List Value} {ag:Bool}
theorem Mf(ps:Array (Nat×Operand)){l:List (Nat×Value)}(h:Qi n env ps.toList=some l):(ps.map fun x=>(x.1,ev n env x.2)).toList=l:=by
 rw[Array.toList_map];exact akk h
theorem Ok(hC:∀main T,C main T→Closed P main T){E:TypeId}{m:Nat}{ps:Array (Nat×Operand)}{pv:List (Nat×Value)}{d':TypeDesc}(ho:ops[i]?=some ⟨dst,.buildSlice T m ps,ty,pos,dg,g⟩) (hw:ax ops n env g=true)
 (tf:TF P T (.slice E) sz bE z ag) (jV:TF P E d' iu vz z' xH) (hz:Nat.beq z'.length iu=true) (hp:Qi n env ps.toList=some pv) (hm:Nat.ble (m*iu) 16777216=true) (hf:oZ (fun i=>some (i*iu,iu)) (db z' m) (ur pv)=some l)
 (h:∀b,¬s.knows b→ab C fn aA ops rest Q (A n (upd dst (.slice (some ⟨b,0,none⟩) m m) env) D) ⟨s.ro,(b,.cells ⟨l⟩ E)::s.rw⟩):ab C fn aA ops (i::rest) Q (A n env D) s:=by
 refine bV hC ho hw (by simp) ?_
 have hle:¬m*iu>2^24:=by have:=Nat.le_of_ble_eq_true hm;omega
 have E9:z'.length=iu:=Nat.eq_of_beq_eq_true hz
 rw[kM] at hf
 have h1:=fill_eq _ _ _ _ hf
 have h2:=Mf ps hp
 simp only[execOp,Instr.buildSlice,aa,ba tf,cz jV,hle,if_false]
 by_cases h0:m*iu=0
 ·rw[if_pos h0]
  have Kk:((Array.range (m*iu)).map fun i=>(#[]:Array Value)[i % (#[]:Array Value).size]!)=⟨db z' m⟩:=by
   rw[h0]
   have:db z' m=[]:=List.eq_nil_of_length_eq_zero (by rw[iX,E9,h0])
   rw[this];simp
  simp only[aa,ae]
  rw[Kk,h2,h1]
  simp only[aa,jD,ae]
  intro b hb
  have:=h b hb
  rw[←aZ] at this
  exact this
 rw[if_neg h0]
 have Kk:((Array.range (m*iu)).map fun i=>(⟨z'⟩:Array Value)[i % (⟨z'⟩:Array Value).size]!)=⟨db z' m⟩:=by rw[←E9];exact sW z' m
 simp only[aa,ko jV,ae,ei jV,Kk,h2,h1,jD]
 intro b hb
 have:=h b hb
 rw[←aZ] at this
 exact this
end rules
def Sl(s:St)(v:Value)(sz:Nat)(enc:α→List Value)(ps:List α):Prop:=
 ∃a b o cap,v= .slice a ps.length cap∧(∀k,k <ps.length→a=some ⟨b,o,none⟩)∧∀i p,ps[i]?=some p→cE s b (o+i*sz) sz (enc p)
theorem Sl.nil(s:St)(sz:Nat)(enc:α→List Value)(a:Option Addr)(cap:Nat):Sl s (.slice a 0 cap) sz enc []:=
 ⟨a,0,0,cap,rfl,fun k h=>absurd h (Nat.not_lt_zero k),fun i p hp=>by simp at hp⟩
theorem cE.cell{m:Nat}(h:cE s b o m vs)(j:Nat)(v:Value)(hj:vs[j]?=some v):Reads s b (o+j) v:=by
 obtain⟨l,t,fz,h1,h2⟩:=h
 exact⟨l,t,fz,h1,by rw[sH];exact(sub_eq _ _ _ _ h2).2 j v hj⟩
theorem cE.len{m:Nat}(h:cE s b o m vs):vs.length=m:=by
 obtain⟨l,t,fz,h1,h2⟩:=h
 exact(sub_eq _ _ _ _ h2).1
section sem
variable {P:Program} {α:Type} {s:St} {Q:α→St→Prop} {E:Halt→St→Prop}
theorem UB(l:List Value):∀(i:Nat) (acc:Array Value) {k:Array Value→Sem α},(∀(j:Nat) (v:Value),l[j]?=some v→Reads s b (o+i+j) v)→bS P (k (acc++l.toArray)) s Q E→
 bS P (loadCellsFrom ⟨b,o,none⟩ i l.length acc >>= k) s Q E:=by
 induction l with
 |nil=>intro i acc k _ hk;simpa [loadCellsFrom,ae] using hk
 |cons v l ih=>
  intro i acc k h2 hk
  simp only[List.length_cons,loadCellsFrom,aa,dO]
  refine wh (h2 0 v rfl)<|ih (i+1) (acc.push v) (fun j x hx=>?_) (by simpa using hk)
  have:=h2 (j+1) x (by simpa using hx)
  rw[show o+(i+1)+j=o+i+(j+1) from by omega];exact this
theorem UA{m:Nat}(hm:l.length=m)(h:∀(j:Nat) (v:Value),l[j]?=some v→Reads s b (o+j) v) {k:Array Value→Sem α} (hk:bS P (k ⟨l⟩) s Q E):bS P (loadCells ⟨b,o,none⟩ m >>= k) s Q E:=by
 subst hm
 exact UB l 0 #[] (by simpa using h) (by simpa using hk)
end sem
theorem Tc{enc:α→List Value}:∀(ps:List α),(∀p∈ps,(enc p).length=sz)→∀(j:Nat) (v:Value),((ps.map enc).flatten)[j]?=some v→∃i p r,ps[i]?=some p∧j=i*sz+r∧(enc p)[r]?=some v
 | [],_,j,v,h=>by simp at h
 |p::ps,hl,j,v,h=>by
  simp only[List.map_cons,List.flatten_cons,List.getElem?_append] at h
  have hp:=hl p (by simp)
  split at h
  ·exact⟨0,p,j,rfl,by simp,h⟩
  rename_i hj
  obtain⟨i,q,r,h1,h2,h3⟩:=Tc ps (fun x hx=>hl x (by simp[hx])) _ v h
  refine⟨i+1,q,r,by simpa using h1,?_,h3⟩
  rw[Nat.add_mul,Nat.one_mul];omega
theorem kD{enc:α→List Value}:∀(ps:List α),(∀p∈ps,(enc p).length=sz)→((ps.map enc).flatten).length=ps.length*sz
 | [],_=>by simp
 |p::ps,hl=>by
  have:=kD ps (fun x hx=>hl x (by simp[hx]))
  simp only[List.map_cons,List.flatten_cons,List.length_append,this,hl p (by simp),List.length_cons,Nat.add_mul,Nat.one_mul];omega
theorem Sl.flat{enc:α→List Value}{ps:List α}(h:∀(i:Nat) (p:α),ps[i]?=some p→cE s b (o+i*sz) sz (enc p)):
 (∀p∈ps,(enc p).length=sz)∧∀(j:Nat) (v:Value),((ps.map enc).flatten)[j]?=some v→Reads s b (o+j) v:=by
 have hl:∀p∈ps,(enc p).length=sz:=by
  intro p hp
  obtain⟨i,hi⟩:=List.mem_iff_getElem?.1 hp
  exact(h i p hi).len
 refine⟨hl,fun j v hv=>?_⟩
 obtain⟨i,p,r,h1,rfl,h3⟩:=Tc ps hl j v hv
 have:=(h i p h1).cell r v h3
 rw[show o+(i*sz+r)=o+i*sz+r from by omega];exact this
def ay(v:Value)(sz:Nat)(T:TypeId)(enc:α→List Value)(ps:List α)(L:List (Nat×Obj)):Prop:=
 (v= .slice none 0 0∧ps=[]∧L=[])∨
 ∃b l cap,v= .slice (some ⟨b,0,none⟩) ps.length cap∧L=[(b,.cells ⟨l⟩ T (0,0))]∧l.length=cap*sz∧ps.length≤cap∧(∀p∈ps,(enc p).length=sz)∧l.take (ps.length*sz)=(ps.map enc).flatten
theorem ay.nil(sz:Nat)(T:TypeId)(enc:α→List Value):ay (.slice none 0 0) sz T enc [] []:= .inl ⟨rfl,rfl,rfl⟩
theorem iV{m:Nat}(h:o+m≤l.length):sub l o m=some ((l.drop o).take m):=by
 have ht:∀(m:Nat) (l:List Value),m≤l.length→ki l m=some (l.take m):=by
  intro m
  induction m with
  |zero=>intro l _;cases l<;>simp[ki]
  |succ m ih=>
   intro l hl
   cases l with
   |nil=>simp at hl
   |cons x l=>simp only[ki,ih l (by simpa using hl),List.take_succ_cons]
 induction o generalizing l with
 |zero=>have:=ht m l (by omega);cases l<;>simpa [sub] using this
 |succ o ih=>
  cases l with
  |nil=>simp at h
  |cons x l=>simp only[sub,List.drop_succ_cons];exact ih (by simp at h;omega)
theorem Dt{enc:α→List Value}:∀(ps:List α),(∀p∈ps,(enc p).length=sz)→∀(i:Nat) (p:α),ps[i]?=some p→(((ps.map enc).flatten).drop (i*sz)).take sz=enc p
 | [],_,i,p,h=>by simp at h
 |q::ps,hl,0,p,h=>by
  simp at h;subst h
  have:=hl q (by simp)
  simp[←this]
 |q::ps,hl,i+1,p,h=>by
  have hq:=hl q (by simp)
  simp only[List.map_cons,List.flatten_cons]
  rw[show (i+1)*sz=(enc q).length+i*sz from by rw[hq,Nat.add_mul,Nat.one_mul];omega,←List.drop_drop,List.drop_left]
  exact Dt ps (fun x hx=>hl x (by simp[hx])) i p (by simpa using h)
theorem ay.sl{v:Value}{T:TypeId}{enc:α→List Value}{ps:List α}{L:List (Nat×Obj)}(h:ay v sz T enc ps L)(hs:∀x∈L,s.has x.1 x.2):Sl s v sz enc ps:=by
 rcases h with ⟨rfl,rfl,rfl⟩| ⟨b,l,cap,rfl,rfl,h1,h2,h3,h4⟩
 ·exact Sl.nil s sz enc none 0
 refine⟨_,b,0,cap,rfl,fun _ _=>rfl,fun i p hp=>⟨l,T,(0,0),hs (b,.cells ⟨l⟩ T (0,0)) (by simp),?_⟩⟩
 have hi:i <ps.length:=by
  rcases Nat.lt_or_ge i ps.length with h|h
  ·exact h
  rw[List.getElem?_eq_none h] at hp;cases hp
 have hb:i*sz+sz≤ps.length*sz:=by
  have:=Nat.mul_le_mul_right sz hi
  rw[Nat.succ_mul] at this;exact this
 have fT:ps.length*sz≤cap*sz:=Nat.mul_le_mul_right _ h2
 rw[Nat.zero_add,iV (by omega)]
 have h5:=Dt ps h3 i p hp
 rw[←h4,List.drop_take,List.take_take] at h5
 rw[←h5,Nat.min_eq_left (by omega)]
def wG(eQ bE:Nat):Prop:=eQ≤1048576∧bE≤65536
theorem MU(eQ:Nat):∀(r c:Nat),c≤2*eQ+768→Builtin.growBy eQ r c≤2*eQ+768
 |0,c,h=>h
 |r+1,c,h=>by
  simp only[Builtin.growBy]
  split
  ·exact h
  exact MU eQ r _ (by omega)
theorem Hl{eQ:Nat}(h:cap <eQ):Builtin.nextslicecap eQ cap≤2*eQ+768:=by
 simp only[Builtin.nextslicecap]
 split
 ·omega
 split
 ·omega
 exact MU eQ 4 cap (by omega)
theorem rI:∀(l:List Value) (o:Nat) (vs:List Value),o+vs.length≤l.length→dE l o vs=l.take o++vs++l.drop (o+vs.length)
 | [],o,vs,h=>by
  simp only[List.length_nil] at h
  have h0:o=0:=by omega
  have h1:vs=[]:=List.eq_nil_of_length_eq_zero (by omega)
  subst h0;subst h1;rfl
 |x::l,0,[],_=>by simp[dE]
 |x::l,o+1,[],_=>by simp[dE]
 |x::l,0,v::vs,h=>by
  have:=rI l 0 vs (by simp only[List.length_cons] at h;omega)
  simp[dE,this]
 |x::l,o+1,v::vs,h=>by
  have:=rI l o (v::vs) (by simp only[List.length_cons] at h ⊢;omega)
  simp only[dE,this,List.take_succ_cons,List.cons_append]
  rw[show o+1+(v::vs).length=(o+(v::vs).length)+1 from by omega,List.drop_succ_cons]
theorem nM{Q:β→St→Prop}{ti:TypeInfo}(h:P.info? t=some ti){k:TypeInfo→Sem β}:bS P (typeInfo t >>= k) s Q E=bS P (k ti) s Q E:=by
 simp only[typeInfo,aa,eN,h,ae]
theorem aeI{Q:β→St→Prop}{q:Question}{k:Nat→Sem β}(hq:q.forced=false)(h:∀n,bS P (k (q.cut n)) s Q E):bS P (choose q >>= k) s Q E:=by
 show (if q.forced=true then _ else _)
 rw[if_neg (by rw[hq];simp)]
 exact h
theorem Lf{Q:β→St→Prop}{q:Question}{k:Nat→Sem β}(hq:q.forced=false):bS P (choose q >>= k) s Q E=∀n,bS P (k (q.cut n)) s Q E:=by
 show (if q.forced=true then _ else _)=_
 rw[if_neg (by rw[hq];simp)]
 rfl
theorem s9{Q:β→St→Prop}{m:Nat}{k:Unit→Sem β}(h:bS P (k ()) s Q E):bS P (askRoom m >>= k) s Q E:=by
 unfold askRoom
 split
 ·exact⟨rfl,h⟩
 exact h
section rules
variable {P:Program} {C:Class} {fn:FuncId} {aA:Option Nat} {Q:Post} {s:St} {n:Nat} {env:Env} {D:List Deferred}
variable {ops:Array Oper} {i:Nat} {rest:List Nat} {dst:Option Tmp} {ty:TypeId} {pos:String} {dg:Array Edge} {g:Option (Nat×Bool)}
variable {T:TypeId} {d:TypeDesc} {sz bE:Nat} {z:List Value} {ag:Bool}
theorem ub{Q:β→St→Prop}{v:Value}{enc:α→List Value}{ps:List α}(h:Sl s v sz enc ps){k:Array Value→Sem β}(hk:bS P (k ⟨(ps.map enc).flatten⟩) s Q E):bS P (Builtin.firstCells sz ps.length v >>= k) s Q E:=by
 obtain⟨a,b,o,cap,rfl,ha,hr⟩:=h
 obtain⟨hl,hf⟩:=Sl.flat hr
 cases ps with
 |nil=>
  cases a with
  |none=>simpa [Builtin.firstCells,ae] using hk
  |some a=>
   simp only[Builtin.firstCells,List.length_nil,Nat.zero_mul,loadCells,loadCellsFrom,ae]
   simpa using hk
 |cons p ps=>
  have:=ha 0 (by simp)
  subst this
  simp only[Builtin.firstCells]
  exact UA (by rw[kD _ hl]) hf hk
theorem RG(hC:∀main T,C main T→Closed P main T){E:TypeId}{v w:Value}{enc:α→List Value}{ps qs:List α}{L pre:List (Nat×Obj)}{d':TypeDesc}{E2:TypeId}{sz2 B7:Nat}{z2:List Value}{ag2:Bool}{U:TypeId}
 (ho:ops[i]?=some ⟨dst,.call ⟨.builtin .append,#[x,y],#[T,U]⟩,ty,pos,dg,g⟩) (hw:ax ops n env g=true) (tf:TF P T (.slice E) sz bE z ag) (TZ:TF P U (.slice E2) sz2 B7 z2 ag2) (jV:TF P E d' iu vz z' xH) (hz:z'.length=iu)
 (hx:bu n env x=some v) (hy:bu n env y=some w) (kR:ay v iu E enc ps L) (MI:Sl s w iu enc qs) (hs:s.rw=pre++(L++R)) (hq:∀p∈qs,∀c∈enc p,single c=true) (hb:wG (ps.length+qs.length) vz)
 (h:∀v' L',ay v' iu E enc (ps++qs) L'→ab C fn aA ops rest Q (A n (upd dst v' env) D) ⟨s.ro,pre++(L'++R)⟩):ab C fn aA ops (i::rest) Q (A n env D) s:=by
 refine bV hC ho hw (by simp) ?_
 have Wb:∀s s':St,s.le s'→∀a,ab C fn aA ops rest Q a s→ab C fn aA ops rest Q a s':=
  fun s s' hl a ho main T hT b k cs h1 h2 h3 h4=>(hC main T hT).mono _ _ _ hl (ho main T hT b k cs h1 h2 h3 h4)
 obtain⟨hql,_⟩:=(show (∀p∈qs,(enc p).length=iu)∧True from by
  obtain⟨a,b,o,cap,rfl,ha,hr⟩:=MI
  exact⟨(Sl.flat hr).1,trivial⟩)
 have tG:((qs.map enc).flatten).length=qs.length*iu:=kD qs hql
 have MM:∀am0,am0 <ps.length+qs.length→¬(Builtin.nextslicecap (ps.length+qs.length) am0*vz>2^48):=by
  intro am0 cP
  have h1:=Hl cP
  obtain⟨h2,h3⟩:=hb
  have h4:Builtin.nextslicecap (ps.length+qs.length) am0≤2097920:=by omega
  have h5:=Nat.mul_le_mul h4 h3
  have:(2097920*65536:Nat)≤2^48:=by decide
  omega
 have hlen:∀w',Sl s w' iu enc qs→∃a cap,w'= .slice a qs.length cap:=by
  rintro w' ⟨a,b,o,cap,rfl,_,_⟩;exact⟨a,cap,rfl⟩
 obtain⟨wa,aXT,hwe⟩:=hlen w MI
 simp only[execOp,resolve,invoke,builtin,Builtin.append_,List.map_toArray,List.map_cons,List.map_nil,aG hx,aG hy,ae,aa,List.getElem?_toArray,List.getElem?_cons_zero,List.getElem?_cons_succ,ba tf]
 have hv:∃a cap,v= .slice a ps.length cap:=by
  rcases kR with ⟨rfl,rfl,_⟩| ⟨b,l,cap,rfl,_⟩
  ·exact⟨_,_,rfl⟩
  exact⟨_,_,rfl⟩
 obtain⟨va,vZ,hve⟩:=hv
 have BG:∀ {β:Type} (k:Nat→Sem β) (Q:β→St→Prop) (E:Halt→St→Prop),bS P (Builtin.lenOf w >>= k) s Q E=bS P (k qs.length) s Q E:=by
  intro β k Q E;rw[hwe];rfl
 simp only[hve,aa,cz jV,ba TZ,ae,Bool.false_eq_true,if_false,Bool.not_false,if_true,BG]
 obtain⟨ti,dQ,aPx,OO,_⟩:=jV.info
 by_cases fN:ps.length+qs.length≤vZ
 ·rw[if_pos fN]
  simp only[aa]
  refine ub MI ?_
  rcases kR with ⟨hv0,rfl,rfl⟩| ⟨b,l,cap,hv1,rfl,h1,h2,h3,h4⟩
  ·rw[hv0] at hve
   cases hve
   have ZB:qs=[]:=List.eq_nil_of_length_eq_zero (by simp only[List.length_nil] at fN;omega)
   subst ZB
   simp only[ae]
   have:=h (.slice none 0 0) [] (ay.nil iu E enc)
   rw[←aZ] at this
   rcases s with ⟨ro,J5⟩
   simp only at hs
   subst hs
   exact this
  rw[hv1] at hve
  cases hve
  simp only[aa,dO,Nat.zero_add]
  have mE:ps.length*iu+((qs.map enc).flatten).length≤l.length:=by
   rw[tG,h1,←Nat.add_mul];exact Nat.mul_le_mul_right _ fN
  refine mM (L:=pre) (R:=R) ((qs.map enc).flatten) 0 l s (by rw[hs];rfl) (by omega) (fun c hc=>?_) ?_
  ·obtain⟨e,he,hce⟩:=List.mem_flatten.1 hc
   obtain⟨p,hp,rfl⟩:=List.mem_map.1 he
   exact hq p hp c hce
  have:=h (.slice (some ⟨b,0,none⟩) (ps++qs).length vZ) [(b,.cells ⟨dE l (ps.length*iu) ((qs.map enc).flatten)⟩ E (0,0))]
   (.inr ⟨b,_,vZ,rfl,rfl,by rw[lA,h1],by simpa using fN,fun p hp=>(List.mem_append.1 hp).elim (h3 p) (hql p),by
    rw[rI _ _ _ mE,List.length_append,Nat.add_mul,List.append_assoc]
    rw[List.map_append,List.flatten_append,←h4]
    rw[show ps.length*iu+qs.length*iu=(l.take (ps.length*iu)).length+qs.length*iu from by rw[List.length_take];omega]
    rw[List.take_append,List.take_of_length_le (by omega)]
    congr 1
    rw[show (l.take (ps.length*iu)).length+qs.length*iu-(l.take (ps.length*iu)).length=((qs.map enc).flatten).length from by rw[tG];omega,List.take_left]⟩)
  rw[←aZ] at this
  simp only[ae,Nat.add_zero]
  rw[List.length_append] at this
  exact this
 rw[if_neg fN]
 have cP:vZ <ps.length+qs.length:=by omega
 have awY:¬(((ps.length+qs.length:Nat):Int)>IntKind.i64.max):=by
  have:IntKind.i64.max=9223372036854775807:=by decide
  obtain⟨h2,_⟩:=hb
  rw[this];omega
 have hc:=MM vZ cP
 simp only[aa,nM dQ,awY,false_and,if_false]
 rw[OO,if_neg hc]
 simp only[aa]
 rw[Lf rfl]
 intro tp
 generalize oU:Question.cut (.appendCap (ps.length+qs.length) vZ E) tp=fR
 have SF:ps.length+qs.length≤fR:=by rw[←oU];simp[Question.cut]
 simp only[aa]
 rw[nM dQ]
 simp only[aa]
 refine s9 ?_
 simp only[aa]
 have hold:Sl s (.slice va ps.length vZ) iu enc ps:=by
  rw[←hve]
  refine kR.sl fun x hx=> .inr ?_
  rw[hs];simp[hx]
 refine ub hold ?_
 simp only[aa]
 refine ub MI ?_
 simp only[aa,ko jV,ei jV,Builtin.zeroCells]
 have Kk:((Array.range ((fR-(ps.length+qs.length))*(⟨z'⟩:Array Value).size)).map fun i=>(⟨z'⟩:Array Value)[i % (⟨z'⟩:Array Value).size]!)=⟨db z' (fR-(ps.length+qs.length))⟩:=sW z' _
 rw[Kk]
 simp only[jD,ae]
 intro b' mH
 have Qb:∀p∈ps,(enc p).length=iu:=by
  rcases kR with ⟨_,rfl,_⟩| ⟨_,_,_,_,_,_,_,h3,_⟩
  ·intro p hp;cases hp
  exact h3
 have hol:=kD ps Qb
 have aFV:ay (.slice (some ⟨b',0,none⟩) (ps++qs).length fR) iu E enc (ps++qs) [(b',.cells ⟨(ps.map enc).flatten++(qs.map enc).flatten++db z' (fR-(ps.length+qs.length))⟩ E (0,0))]:=
  .inr ⟨b',_,fR,rfl,rfl,by
   simp only[List.length_append,hol,tG,iX,hz,←Nat.add_mul]
   congr 1;omega,by simpa using SF,fun p hp=>(List.mem_append.1 hp).elim (Qb p) (hql p),by
   rw[List.map_append,List.flatten_append,List.length_append,Nat.add_mul,←hol,←tG,←List.length_append,List.take_left]⟩
 have:=h _ _ aFV
 rw[←aZ,List.length_append] at this
 have axZ:((⟨(ps.map enc).flatten⟩:Array Value)++⟨(qs.map enc).flatten⟩++⟨db z' (fR-(ps.length+qs.length))⟩)=⟨(ps.map enc).flatten++(qs.map enc).flatten++db z' (fR-(ps.length+qs.length))⟩:=by simp
 rw[axZ]
 refine Wb ⟨s.ro,pre++([(b',.cells ⟨(ps.map enc).flatten++(qs.map enc).flatten++db z' (fR-(ps.length+qs.length))⟩ E (0,0))]++R)⟩ _ ?_ _ ?_
 ·refine⟨L,?_,fun _ _ h=> .inl h⟩
  rw[hs]
  rw[List.append_assoc pre,List.append_assoc [_] R L]
  simp only[List.cons_append,List.nil_append]
  refine List.Perm.trans ?_ List.perm_middle.symm
  refine List.Perm.cons _<|List.Perm.append_left pre<|List.perm_append_comm
 simpa using this
end rules
section rules
variable {P:Program} {C:Class} {fn:FuncId} {aA:Option Nat} {Q:Post} {s:St} {n:Nat} {env:Env} {D:List Deferred}
variable {ops:Array Oper} {i:Nat} {rest:List Nat} {dst:Option Tmp} {ty:TypeId} {pos:String} {dg:Array Edge} {g:Option (Nat×Bool)}
variable {T:TypeId} {d:TypeDesc} {sz bE:Nat} {z:List Value} {ag:Bool}
def EqV(P:Program)(t:TypeId)(x y:Value)(r:Bool):Prop:=
 ∀(s:St) (k:Bool→Sem Next) (Q:Next→St→Prop) (E:Halt→St→Prop),bS P (Op.equal t x y >>= k) s Q E=bS P (k r) s Q E
def oH(P:Program)(t:TypeId):Prop:=P.eqGuardType P.depth t=false
theorem anH(hC:∀main T,C main T→Closed P main T){T:TypeId}{m:List Value}(ho:ops[i]?=some ⟨dst,.binOp .eql T x y T',ty,pos,dg,g⟩) (hw:ax ops n env g=true)
 (hx:bu n env x=some (.agg ⟨l⟩)) (hy:bu n env y=some (.agg ⟨m⟩)) (hg:oH P T) (he:EqV P T (.agg ⟨l⟩) (.agg ⟨m⟩) r) (h:ab C fn aA ops rest Q (A n (upd dst (.bool r) env) D) s):ab C fn aA ops (i::rest) Q (A n env D) s:=by
 refine bV hC ho hw (by simp) ?_
 have hg':P.eqGuardType P.depth T=false:=hg
 simp only[execOp,aG hx,aG hy,eqGuard,Bool.not_true,Bool.false_eq_true,if_false,aa,eN,hg',Bool.not_false,if_true,ae,binOp]
 rw[he]
 rw[←aZ] at h
 exact h
theorem af1(hC:∀main T,C main T→Closed P main T){T:TypeId}{m:List Value}(ho:ops[i]?=some ⟨dst,.binOp .neq T x y T',ty,pos,dg,g⟩) (hw:ax ops n env g=true)
 (hx:bu n env x=some (.agg ⟨l⟩)) (hy:bu n env y=some (.agg ⟨m⟩)) (hg:oH P T) (he:EqV P T (.agg ⟨l⟩) (.agg ⟨m⟩) r) (h:ab C fn aA ops rest Q (A n (upd dst (.bool !r) env) D) s):ab C fn aA ops (i::rest) Q (A n env D) s:=by
 refine bV hC ho hw (by simp) ?_
 have hg':P.eqGuardType P.depth T=false:=hg
 simp only[execOp,aG hx,aG hy,eqGuard,Bool.not_true,Bool.false_eq_true,if_false,aa,eN,hg',Bool.not_false,if_true,ae,binOp]
 rw[he]
 rw[←aZ] at h
 exact h
def EqD(P:Program)(dep:Nat)(t:TypeId)(x y:Value)(r:Bool):Prop:=
 ∀(α:Type) (s:St) (k:Bool→Sem α) (Q:α→St→Prop) (E:Halt→St→Prop),bS P (Op.equalIn dep t x y >>= k) s Q E=bS P (k r) s Q E
theorem oE{k:IntKind}(tf:TF P t (.int k) sz bE z ag)(a b:Int):EqD P (dep+1) t (.int k a) (.int k b) (a==b):=by
 intro α s kk Q E
 simp only[Op.equalIn,aa,ba tf,if_true,ae]
theorem NB{d:TypeDesc}(tf:TF P t d sz bE z false){v:Value}(hv:nth l o=some v){k:Value→Sem α}{Q:α→St→Prop}:bS P (part t ⟨l⟩ o >>= k) s Q E=bS P (k v) s Q E:=by
 rw[sH] at hv
 simp only[part,aa,kK tf,Bool.false_eq_true,if_false,List.getElem?_toArray]
 rw[hv]
 simp only[ae]
theorem NA{d:TypeDesc}(tf:TF P t d sz bE z true){m:List Value}(hv:sub l o sz=some m){k:Value→Sem α}{Q:α→St→Prop}:bS P (part t ⟨l⟩ o >>= k) s Q E=bS P (k (.agg ⟨m⟩)) s Q E:=by
 obtain⟨h1,h2⟩:=sub_eq _ _ _ _ hv
 simp only[part,aa,kK tf,if_true,cz tf,ae]
 have:(⟨l⟩:Array Value).extract o (o+sz)=⟨m⟩:=by
  apply Array.ext'
  simp only[Array.toList_extract,List.extract_eq_take_drop]
  apply List.ext_getElem?
  intro j
  rw[List.getElem?_take]
  split
  ·rename_i hj
   rw[List.getElem?_drop]
   have ZJ:j <m.length:=by omega
   have h3:=h2 j m[j] (by simp[ZJ])
   rw[h3];simp[ZJ]
  rename_i hj
  rw[List.getElem?_eq_none (by omega)]
 rw[this]
def Ju(P:Program)(t:TypeId)(l:List Value)(o:Nat)(v:Value):Prop:=
 ∀(α:Type) (s:St) (k:Value→Sem α) (Q:α→St→Prop) (E:Halt→St→Prop),bS P (part t ⟨l⟩ o >>= k) s Q E=bS P (k v) s Q E
theorem ky{d:TypeDesc}(tf:TF P t d sz bE z false){v:Value}(hv:nth l o=some v):Ju P t l o v:=fun _ _ _ _ _=>NB tf hv
theorem Hc{d:TypeDesc}(tf:TF P t d sz bE z true){m:List Value}(hv:sub l o sz=some m):Ju P t l o (.agg ⟨m⟩):=fun _ _ _ _ _=>NA tf hv
inductive Ce(P:Program)(dep:Nat)(l m:List Value):List Field→Bool→Prop
 |nil:Ce P dep l m [] true
 |cons {f:Field} {fs:List Field} {v w:Value} {r r':Bool} (hn:f.name≠ "_") (hv:Ju P f.type l f.offset v) (hw:Ju P f.type m f.offset w) (he:EqD P dep f.type v w r) (ht:Ce P dep l m fs r'):Ce P dep l m (f::fs) (r&&r')
theorem uR{fields:Array Field}{m:List Value}(tf:TF P t (.struct fields) sz bE z true)(hs:P.stoodInHeld t=false)(hf:Ce P dep l m fields.toList r):EqD P (dep+1) t (.agg ⟨l⟩) (.agg ⟨m⟩) r:=by
 intro α s k Q E
 simp only[Op.equalIn,aa,ba tf,eN,hs,Bool.false_eq_true,if_false]
 rw[←Array.forIn_toList]
 generalize fields.toList=fl at hf
 clear tf
 induction hf with
 |nil=>simp only[List.forIn_nil,ae,aa,Bool.and_true]
 | @cons f fs v w r r' hn hv hw he ht ih=>
  simp only[List.forIn_cons,hn,ne_eq,not_false_eq_true,if_true,aa]
  rw[hv]
  simp only[aa]
  rw[hw]
  simp only[aa]
  rw[he]
  cases r with
  |false=>simp only[Bool.not_false,if_true,ae,aa,Bool.false_and]
  |true=>
   simp only[Bool.not_true,Bool.false_eq_true,if_false,ae,Bool.true_and]
   exact ih
theorem Pn{x y:Value}(h:EqD P 10000 t x y r):EqV P t x y r:=fun s k Q E=>h Go.Next s k Q E
end rules
section rules
variable {P:Program} {C:Class} {fn:FuncId} {aA:Option Nat} {Q:Post} {s:St} {n:Nat} {env:Env} {D:List Deferred}
variable {ops:Array Oper} {i:Nat} {rest:List Nat} {dst:Option Tmp} {ty:TypeId} {pos:String} {dg:Array Edge} {g:Option (Nat×Bool)}
variable {T:TypeId} {d:TypeDesc} {sz bE:Nat} {z:List Value} {ag:Bool}
def u5:List Value→Value
 | [x]=>x
 |l=> .tuple ⟨l⟩
inductive FC(P:Program)(s:St)(n:Nat)(env:Env):List ResultVar→List Value→Prop
 |nil:FC P s n env [] []
 |tmp {t:Tmp} {v:Value} {rs:List ResultVar} {vs:List Value} (h:bu n env (.tmp t)=some v) (hr:FC P s n env rs vs):FC P s n env (.tmp t::rs) (v::vs)
 |agg {t:Tmp} {T:TypeId} {d:TypeDesc} {sz bE:Nat} {z l:List Value} {b o:Nat} {rs:List ResultVar} {vs:List Value} (tf:TF P T d sz bE z true) (h:bu n env (.tmp t)=some (.pointer (some ⟨b,o,none⟩))) (hl:cE s b o sz l) (hr:FC P s n env rs vs):FC P s n env (.cell t T::rs) (.agg ⟨l⟩::vs)
 |cell {t:Tmp} {T:TypeId} {d:TypeDesc} {sz bE:Nat} {z:List Value} {v:Value} {b o:Nat} {rs:List ResultVar} {vs:List Value} (tf:TF P T d sz bE z false) (h:bu n env (.tmp t)=some (.pointer (some ⟨b,o,none⟩))) (hl:Reads s b o v) (hr:FC P s n env rs vs):FC P s n env (.cell t T::rs) (v::vs)
theorem GB:∀ {rs:List ResultVar} {vs:List Value} (_:FC P s n env rs vs) {k:List Value→Sem α} {Q:α→St→Prop} {E:Halt→St→Prop},bS P (k vs) s Q E→
 bS P (rs.mapM (fun| .tmp t=>pure ((A n env D).tmps.getD t undef)| .cell a t=>do loadVar t (←asAddr ((A n env D).tmps.getD a undef))) >>= k) s Q E
 |_,_,.nil,k,Q,E,h=>by simpa only[List.mapM_nil,ae] using h
 |_,_,.tmp (t:=t) (v:=v) h hr,k,Q,E,hk=>by
  have hv:(A n env D).tmps.getD t undef=v:=by have:=p7 (D:=D) h;rwa[←Array.getD_eq_getD_getElem?] at this
  simp only[List.mapM_cons,aa,ae,hv]
  exact GB hr hk
 |_,_,.agg (t:=t) (l:=l) (b:=b) (o:=o) tf h hl hr,k,Q,E,hk=>by
  have hv:(A n env D).tmps.getD t undef= .pointer (some ⟨b,o,none⟩):=by have:=p7 (D:=D) h;rwa[←Array.getD_eq_getD_getElem?] at this
  simp only[List.mapM_cons,aa,ae,hv,asAddr,loadVar,kK tf,if_true,cz tf]
  refine iU hl ?_
  try simp only[aa,ae]
  exact GB hr hk
 |_,_,.cell (t:=t) (v:=v) (b:=b) (o:=o) tf h hl hr,k,Q,E,hk=>by
  have hv:(A n env D).tmps.getD t undef= .pointer (some ⟨b,o,none⟩):=by have:=p7 (D:=D) h;rwa[←Array.getD_eq_getD_getElem?] at this
  simp only[List.mapM_cons,aa,ae,hv,asAddr,loadVar,kK tf,Bool.false_eq_true,if_false]
  refine wh hl ?_
  try simp only[aa,ae]
  exact GB hr hk
theorem Q3{fn:Func}{R:Ending→St→Prop}{e:Exit}{s0:St}{vs:List Value}{v:Value}(he:e= .ret∨e= .normal)(hr:FC P s n env fn.results.toList vs)(hv:u5 vs=v)(hl:s0.le s)(h:R (.returned v) s0):r5 P fn R e (A n env []) s:=by
 refine xC he rfl ?_
 unfold results
 rw[Array.mapM_eq_mapM_toList]
 simp only[map_eq_pure_bind,aa,ae]
 refine GB (D:=[]) hr ?_
 refine⟨s0,hl,?_⟩
 subst hv
 have:(if h:(⟨vs⟩:Array Value).size=1 then (⟨vs⟩:Array Value)[0] else .tuple ⟨vs⟩)=u5 vs:=by
  match vs with
  | []=>rfl
  | [x]=>rfl
  |x::y::l=>simp[u5]
 rw[←this] at h
 exact h
theorem aD8(hC:∀main T,C main T→Closed P main T){T:TypeId}{k:IntKind}{a b:Int}(ho:ops[i]?=some ⟨dst,.binOp .rem T x y T',ty,pos,dg,g⟩) (hw:ax ops n env g=true)
 (hx:bu n env x=some (.int k a)) (hy:bu n env y=some (.int k b)) (hb:b≠0) (h:ab C fn aA ops rest Q (A n (upd dst (.int k (a.tmod b)) env) D) s):ab C fn aA ops (i::rest) Q (A n env D) s:=
 RD hC ho hw hx hy (v:= .int k (a.tmod b)) (by
  show (if (k≠k) then _ else _)=_
  rw[if_neg (by simp)]
  show Op.intDiv .rem k a b=_
  simp only[Op.intDiv,hb,if_false];rfl) h
end rules
abbrev aV:=Nat→Option (Nat×Nat)
def tO:Nat:=18446744073709551616
def pf:Nat:=36893488147419103232
def Bg:Go.Fn→Bool
 | .yield _=>false
 |_=>true
mutual
inductive VR (ρ:aV):Value→Value→Prop
 |bool (b:Bool):VR ρ (.bool b) (.bool b)
 |int (k:IntKind) (n:Int):VR ρ (.int k n) (.int k n)
 |string (b:ByteArray):VR ρ (.string b) (.string b)
 |Vd:VR ρ (.pointer none) (.pointer none)
 |ptr (i b c o:Nat):ρ i=some (b,c)→VR ρ (.pointer (some ⟨i,o,none⟩)) (.pointer (some ⟨b,o,none⟩))
 |qy (l c:Nat):VR ρ (.slice none l c) (.slice none l c)
 |slice (i b c o l k:Nat):ρ i=some (b,c)→k≤tO→VR ρ (.slice (some ⟨i,o,none⟩) l k) (.slice (some ⟨b,o,none⟩) l k)
 |gI (i b c o l k:Nat):ρ i=some (b,c)→tO <k→k≤pf→l+(pf-k)≤c→VR ρ (.slice (some ⟨i,o,none⟩) l k) (.slice (some ⟨b,o,none⟩) l (c-(pf-k)))
 |Vo:VR ρ (.map none) (.map none)
 |map (i b c:Nat):ρ i=some (b,c)→VR ρ (.map (some i)) (.map (some b))
 |I8:VR ρ (.chan none) (.chan none)
 |chan (i b c:Nat):ρ i=some (b,c)→VR ρ (.chan (some i)) (.chan (some b))
 |func (f:Go.Fn) (x y x' y':List Value):Bg f=true→jQ ρ x x'→jQ ρ y y'→VR ρ (.func f ⟨x⟩ ⟨y⟩) (.func f ⟨x'⟩ ⟨y'⟩)
 |yield (i b c:Nat):ρ i=some (b,c)→VR ρ (.func (.yield i) #[] #[]) (.func (.yield b) #[] #[])
 |nilFunc:VR ρ .nilFunc .nilFunc
 |iface (t:TypeId) (v v':Value):VR ρ v v'→VR ρ (.iface t v) (.iface t v')
 |nilIface:VR ρ .nilIface .nilIface
 |agg (l l':List Value):jQ ρ l l'→VR ρ (.agg ⟨l⟩) (.agg ⟨l'⟩)
 |tuple (l l':List Value):jQ ρ l l'→VR ρ (.tuple ⟨l⟩) (.tuple ⟨l'⟩)
inductive jQ (ρ:aV):List Value→List Value→Prop
 |nil:jQ ρ [] []
 |cons (v v':Value) (l l':List Value):VR ρ v v'→jQ ρ l l'→jQ ρ (v::l) (v'::l')
end
def flatAll(f:Value→Bool):List Value→Bool
 | []=>true
 |v::l=>f v&&flatAll f l
def nH:Nat→Value→Bool
 |0,_=>false
 |_+1,.bool _|_+1,.int _ _|_+1,.string _|_+1,.pointer none|_+1,.slice none _ _|_+1,.map none|_+1,.chan none|_+1,.nilFunc|_+1,.nilIface=>true
 |n+1,.func f x y=>Bg f&&(flatAll (nH n) x.toList&&flatAll (nH n) y.toList)
 |n+1,.iface _ v=>nH n v
 |n+1,.agg l=>flatAll (nH n) l.toList
 |n+1,.tuple l=>flatAll (nH n) l.toList
 |_,_=>false
def flat(v:Value):Bool:=nH 12 v
inductive Tr(α:Type) where
 |nil
 |node (v:Option α) (l r:Tr α)
theorem beq_false{a:Nat}(h:a≠b):Nat.beq a b=false:=by
 cases hb:Nat.beq a b with
 |false=>rfl
 |true=>exact absurd (Nat.eq_of_beq_eq_true hb) h
structure cI where
 key:Value
 val:Value
 born:Nat
inductive kI where
 |cells (l:List Value) (t:TypeId)
 |map (es:List cI) (clock:Nat)
 |fQ (s:ByteArray) (pos:Nat)
 |mapIter (m:Option Nat) (since:Nat) (seen:List Nat) (Bb:Nat)
 |loop (st:LoopState) (pend:Option Code) (fn n:Nat) (env:Env) (params:Array Tmp) (assign body:Code) (defers:Nat)
 |defer (taken:Bool)
 |Jl (es:List cI)
structure CB where
 ro:Bool
 o:kI
structure Mem where
 t:Tr CB
 next:Nat
def cU(n:Nat)(ce:Env):Operand→Option Value
 | .tmp t=>bif Nat.blt t n then gQ ce t else none
 | .const v=>bif flat v then some v else none
 | .global _=>none
 | .func f=>some (.func (.func f) #[] #[])
def uQ(n:Nat)(ce:Env):List Operand→Option (List Value)
 | []=>some []
 |x::l=>match cU n ce x with
  |some v=>match uQ n ce l with
   |some r=>some (v::r)
   |none=>none
  |none=>none
theorem ajM{rest:Env}{t:Nat}{v:Value}(h:gQ e t=some v):gQ (e++rest) t=some v:=by
 induction e with
 |nil=>cases h
 |cons x e ih=>
  rcases x with ⟨k,u⟩
  simp only[gQ,List.cons_append] at h ⊢
  cases hb:Nat.beq k t with
  |true=>rw[hb] at h;exact h
  |false=>rw[hb] at h;exact ih h
theorem bk{rest:Env}{v:Value}(h:bu n e x=some v):bu n (e++rest) x=some v:=by
 cases x with
 |tmp t=>
  simp only[bu] at h ⊢
  cases hb:Nat.blt t n with
  |true=>rw[hb] at h;exact ajM h
  |false=>rw[hb] at h;cases h
 |_=>exact h
theorem x5{rest:Env}:∀ {xs:List Operand} {vs:List Value},yC n e xs=some vs→yC n (e++rest) xs=some vs
 | [],vs,h=>h
 |x::xs,vs,h=>by
  simp only[yC] at h ⊢
  cases hx:bu n e x with
  |none=>rw[hx] at h;cases h
  |some v=>
   rw[hx] at h
   cases hr:yC n e xs with
   |none=>rw[hr] at h;cases h
   |some r=>rw[hr] at h;rw[bk hx,x5 hr];exact h
structure TI where
 d:TypeDesc
 size:Nat
 zero:List Value
 agg:Bool
def OE:TypeDesc→Bool
 | .struct _| .array _ _=>true
 |_=>false
def Ge:Bool→Value→Option (List Value)
 |true,.agg ⟨l⟩=>some l
 |true,_=>none
 |false,.agg _=>none
 |false,v=>some [v]
def a8(P:Program)(t:TypeId):Option TI:=
 match P.underlying t with
 |some d=>match P.info? t with
  |some i=>match i.zero with
   |some z=>match Ge (OE d) z with
    |some l=>some ⟨d,i.size,l,OE d⟩
    |none=>none
   |none=>none
  |none=>none
 |none=>none
theorem aw{x:TI}(h:a8 P t=some x):∃bE,TF P t x.d x.size bE x.zero x.agg:=by
 unfold a8 at h
 split at h<;>try (cases h;done)
 rename_i d hd
 split at h<;>try (cases h;done)
 rename_i i hi
 split at h<;>try (cases h;done)
 rename_i z hz
 split at h<;>try (cases h;done)
 rename_i l hl
 cases h
 refine⟨i.bytes,hd,⟨i,hi,rfl,rfl,z,hz,?_,?_⟩,?_⟩
 ·revert hl
  simp only
  cases hb:OE d
  ·intro hl;cases z<;>simp_all[Ge,Value.cells]
  intro hl;cases z<;>simp_all[Ge,Value.cells]
  cases hl;rfl
 ·revert hl
  simp only
  cases hb:OE d
  ·intro hl;cases z<;>simp_all[Ge]<;>subst hl<;>rfl
  intro hl;cases z<;>simp_all[Ge]
  cases hl;rfl
 cases d<;>rfl
def bx(P:Program):Sem α→Option α
 | .pure a=>some a
 | .program k=>bx P (k P)
 |_=>none
theorem oM:∀ {x:Sem α} {a:α},bx P x=some a→∀ {s:St} {Q:α→St→Prop} {E:Halt→St→Prop},Q a s→bS P x s Q E
 | .pure _,_,h,_,_,_,hq=>by simp only[bx,Option.some.injEq] at h;subst h;exact hq
 | .program k,_,h,_,_,_,hq=>oM (x:=k P) h hq
 | .load ..,_,h,_,_,_,_=>by cases h
 | .store ..,_,h,_,_,_,_=>by cases h
 | .new ..,_,h,_,_,_,_=>by cases h
 | .shape ..,_,h,_,_,_,_=>by cases h
 | .freeze ..,_,h,_,_,_,_=>by cases h
 | .frozen ..,_,h,_,_,_,_=>by cases h
 | .getObj ..,_,h,_,_,_,_=>by cases h
 | .setObj ..,_,h,_,_,_,_=>by cases h
 | .choose ..,_,h,_,_,_,_=>by cases h
 | .sys ..,_,h,_,_,_,_=>by cases h
 | .mark ..,_,h,_,_,_,_=>by cases h
 | .halt ..,_,h,_,_,_,_=>by cases h
theorem aX{x:Sem α}{a:α}{k:α→Sem β}{Q:β→St→Prop}(h:bx P x=some a)(hk:bS P (k a) s Q E):bS P (x >>= k) s Q E:=
 QA x k s Q E (oM h hk)
def Ev(n:Nat)(e:Env)(f:Operand→Value):Prop:=∀x v,bu n e x=some v→f x=v
theorem Ev.list(h:Ev n e f):∀ {xs:List Operand} {vs:List Value},yC n e xs=some vs→xs.map f=vs
 | [],vs,hx=>by simpa [yC] using hx
 |x::xs,vs,hx=>by
  simp only[yC] at hx
  cases h1:bu n e x with
  |none=>rw[h1] at hx;cases hx
  |some v=>
   rw[h1] at hx
   cases h2:yC n e xs with
   |none=>rw[h2] at hx;cases hx
   |some r=>rw[h2] at hx;simp only[Option.some.injEq] at hx;subst hx;simp[h _ _ h1,Ev.list h h2]
theorem Ev.arr(h:Ev n e f)(hx:yC n e xs.toList=some vs):xs.map f=⟨vs⟩:=by
 have:=h.list hx
 rcases xs with ⟨xs⟩
 simpa using this
def Yields(P:Program)(n:Nat)(e:Env)(o:Oper)(s:St)(v:Value):Prop:=
 ∀s',Ext s s'→∀f,Ev n e f→∀(K:Next→St→Prop) (E:Halt→St→Prop),K (.value v) s'→bS P (execOp f o) s' K E
def G6:Op→Option (List Operand)
 | .binOp _ _ x y _=>some [x,y]
 | .unOp _ _ x=>some [x]
 | .convert _ _ x=>some [x]
 | .index _ x y=>some [x,y]
 | .field _ x _=>some [x]
 | .slice _ x none none none=>some [x]
 | .slice _ x (some a) none none=>some [x,a]
 | .slice _ x none (some a) none=>some [x,a]
 | .slice _ x (some a) (some b) none=>some [x,a,b]
 | .call ⟨.builtin .min,xs,_⟩=>some xs.toList
 | .call ⟨.builtin .max,xs,_⟩=>some xs.toList
 | .typeAssert x _ _ _=>some [x]
 |_=>none
theorem uj{o:Oper}{xs:List Operand}(h:G6 o.op=some xs){f g:Operand→Value}(hfg:∀x∈xs,f x=g x):execOp f o=execOp g o:=by
  unfold G6 at h
  split at h<;>try (cases h;done)
  all_goals (rename_i heq;simp only[Option.some.injEq] at h;subst h)
  all_goals first
    | (simp[execOp,heq,hfg];done)
    | (simp only[execOp,heq,resolve]
       rename_i xs at_
       have:xs.map f=xs.map g:=by
         apply Array.map_congr_left
         intro a ha;exact hfg a (by simpa using ha)
       rw[this])
theorem Ev.parts(hf:Ev n e f):∀ {xs:List (Nat×Operand)} {l:List (Nat×Value)},Qi n e xs=some l→xs.map (fun x=>(x.1,f x.2))=l
 | [],l,h=>by simpa [Qi] using h
 | (i,x)::xs,l,h=>by
  simp only[Qi] at h
  cases hx:bu n e x with
  |none=>rw[hx] at h;cases h
  |some v=>
   rw[hx] at h
   cases hr:Qi n e xs with
   |none=>rw[hr] at h;cases h
   |some r=>rw[hr] at h;simp only[Option.some.injEq] at h;subst h;simp[hf _ _ hx,Ev.parts hf hr]
theorem Ev.wD(hf:Ev n e f){ps:Array (Nat×Operand)}{l:List (Nat×Value)}(h:Qi n e ps.toList=some l):(ps.map fun x=>(x.1,f x.2)).toList=l:=by
 rw[Array.toList_map];exact hf.parts h
def xT(P:Program):List Field→Option (List (Nat×Nat))
 | []=>some []
 |f::fs=>match a8 P f.type with
  |some ti=>match xT P fs with
   |some r=>some ((f.offset,ti.size)::r)
   |none=>none
  |none=>none
theorem zr:∀ {fs:List Field} {pl:List (Nat×Nat)},xT P fs=some pl→DO P fs pl
 | [],pl,h=>by simp only[xT,Option.some.injEq] at h;subst h;exact .nil
 |f::fs,pl,h=>by
  simp only[xT] at h
  split at h<;>try (cases h;done)
  rename_i ti dQ
  split at h<;>try (cases h;done)
  rename_i r hr
  simp only[Option.some.injEq] at h;subst h
  obtain⟨bE,tf⟩:=aw dQ
  exact .cons tf (zr hr)
def tY(P:Program)(t:TypeId):Nat:=match P.info? t with|some i=>i.bytes|none=>1000000
theorem cJ{r:Nat}{o:Obj}{k:Obj→Sem α}{Q:α→St→Prop}(h:s.has r o)(h1:Obj.xX o=false)(h2:o.isChan=false)(hk:bS P (k o) s Q E):bS P (getObj r >>= k) s Q E:=⟨o,h,h1,h2,hk⟩
theorem eB{r:Nat}{o:Obj}{L:List (Nat×Obj)}{k:Unit→Sem α}{Q:α→St→Prop}(h2:o.isChan=false)(hs:s.rw=L++(r,o')::R)(h1:Obj.xX o'=false)(hk:bS P (k ()) ⟨s.ro,L++(r,o)::R⟩ Q E):bS P (setObj r o >>= k) s Q E:=⟨h2,L,o',R,hs,h1,hk⟩
def eC:Op→Bool
 | .defer _=>false
 |_=>true
theorem oP{op:Op}(h:eC op=true):∀c,op≠ .defer c:=by
 intro c e;subst e;cases h
section ops
variable {P:Program} {C:Class} {fn:FuncId} {aA:Option Nat} {Q:Post} {s:St} {n:Nat} {D:List Deferred} {ops:Array Oper} {i:Nat} {todo:List Nat} {ρ:aV} {ce e:Env} {o:Oper} {v:Value} {m m':Mem} {F:Nat×Obj→Prop} {R:Nat→Option Obj}
theorem Ev.Hi(rest:Env):Ev n e (ev n (e++rest)):=fun _ _ h=>aG (bk h)
theorem lT(hC:∀main T,C main T→Closed P main T)(ho:ops[i]?=some o) (rest:Env) (hw:ax ops n (e++rest) o.guard=true) (hd:eC o.op=true) (hy:Yields P n e o s v) (hx:Ext s s') (hk:ab C fn aA ops todo Q (A n (upd o.dst v (e++rest)) D) s'):
 ab C fn aA ops (i::todo) Q (A n (e++rest) D) s':=by
 refine bV hC ho hw (oP hd) (hy s' hx _ (Ev.Hi rest) _ _ ?_)
 show ab _ _ _ _ _ _ _ _
 rw[aZ];exact hk
end ops
inductive CR where
 |ret (v:Value)
 |panic (v:Value)
inductive Tgt where
 |fn (f:FuncId)
 |yield (l:Nat)
abbrev cv:=Tgt→List Value→Mem→Option (CR×Mem)
def Co(P:Program)(f:FuncId):Bool:=
 match P.funcs[f]? with
 |some fn=> !(fn.name== "runtime.NumGoroutine")&& !fn.body.isNone
 |none=>false
theorem k9{f:FuncId}(h:Co P f=true):FF P f:=by
 unfold Co at h
 split at h
 ·rename_i fn u9
  simp only[Bool.and_eq_true,Bool.not_eq_true'] at h
  exact⟨fn,u9,h.1,h.2⟩
 cases h
def target(P:Program)(n:Nat)(ce:Env):Op→Option (Tgt×List Value)
 | .call ⟨.value x,xs,_⟩=>match cU n ce x with
  |some (.func (.func f) ⟨fi⟩ ⟨ca⟩)=>match uQ n ce xs.toList with
   |some vs=>bif Co P f then some (.fn f,fi++vs++ca) else none
   |none=>none
  |some (.func (.yield l) ⟨[]⟩ ⟨[]⟩)=>match uQ n ce xs.toList with
   |some vs=>some (.yield l,vs)
   |none=>none
  |_=>none
 | .call ⟨.invoke x name,xs,_⟩=>match cU n ce x with
  |some (.iface t v)=>bif flat v then (match bx P (method (P.types.size+Made.depth) t v name) with
   |some (f,r)=>match uQ n ce xs.toList with
    |some vs=>bif Co P f&&flat r then some (.fn f,r::vs) else none
    |none=>none
   |none=>none) else none
  |_=>none
 |_=>none
def KG(d:Nat):Env→Env
 | []=>[]
 | (k,v)::r=>bif Nat.beq k d then r else (k,v)::KG d r
def eZ(dst:Option Tmp)(v:Value)(env:Env):Env:=
 match dst with
 |some d=>(d,v)::KG d env
 |none=>env
theorem Ts{d t:Nat}(h:d≠t):∀(e:Env),get (KG d e) t=get e t
 | []=>rfl
 | (k,v)::r=>by
  simp only[KG]
  cases hb:Nat.beq k d with
  |true=>
   have:=Nat.eq_of_beq_eq_true hb
   subst this
   simp only[cond_true,cL,if_neg h]
  |false=>simp only[cond_false,cL,Ts h r]
theorem kg(n:Nat)(dst:Option Tmp)(v:Value)(e:Env)(D:List Deferred):A n (upd dst v e) D=A n (eZ dst v e) D:=by
 cases dst with
 |none=>rfl
 |some d=>
  simp only[A,upd,eZ,Act.mk.injEq,and_true]
  congr 1
  funext i
  rw[cL,cL]
  split
  ·rfl
  rename_i h;rw[Ts h]
structure AL where
 i:Nat
 id:Nat
 ob:kI
section rounds
variable {P:Program} {C:Class} {s:St}
def DT(s:St)(l:Nat)(K:Loop→(Loop→St)→Prop):Prop:=∃L r Rr,s.rw=L++(l,.loop r)::Rr∧K r fun r'=>⟨s.ro,L++(l,.loop r')::Rr⟩
def Xb(R:Ending→St→Prop)(l:Nat)(jump:Option Code)(s:St):Prop:=
 DT s l fun r up=>R (.returned (.bool jump.isNone)) (up {r with state:=if jump.isNone then .ready else .done,pending:=jump})
def Cz(R:Ending→St→Prop)(l:Nat):Post
 | .normal,_,s=>Xb R l none s
 | .ret,_,s=>Xb R l (some .ret) s
 | .exit id,_,s=>Xb R l (some (.exit id)) s
 | .panic ch,a,s=>a.defers=[]∧R (.panicked ch) s
 |_,_,_=>False
def Jk(C:Class)(R:Ending→St→Prop)(l:Nat)(f:FuncId)(body:Code):Post
 | .normal,a,s=>DT s l fun r up=>r.state= .ready∧Wp C f (some l) body (Cz R l) a (up {r with state:= .busy})
 | .panic ch,a,s=>a.defers=[]∧R (.panicked ch) s
 |_,_,_=>False
theorem xO{l:Nat}{L Rr:List (Nat×Obj)}{r:Loop}(hs:s.rw=L++(l,.loop r)::Rr){k:Loop→Sem α}{Q:α→St→Prop}(hk:bS P (k r) s Q E):bS P (Instr.getLoop l >>= k) s Q E:=by
 simp only[Instr.getLoop,aa]
 exact cJ (o:= .loop r) (.inr (by rw[hs];exact fA)) rfl rfl hk
theorem wu(hC:∀main T,C main T→Closed P main T)(hT:C main T){fr c:Frame}{l:Nat}{jump:Option Code}{R:Ending→St→Prop}(h1:fr.kind= .normal)
 (gF:∀w,stepG P main (G fr (c::cs)) w=(let (r,es):=(Instr.endRound l jump).runT P w #[];GStep.after (seen P fr.fn es)<|match r with
  | .ok v w=>doReturn P main fr (c::cs) none v w
  | .halt _ w=> .ended (.stuck "range over a function: no such loop" (fr.pos P)) w))
 (hr:Xb R l jump s)(hk:∀v s',R (.returned v) s'→T (G (c.finish v) cs) s'):T (G fr (c::cs)) s:=by
 obtain⟨L,r,Rr,hs,hR⟩:=hr
 have wQ:bS P (Instr.endRound l jump) s (fun v s'=>R (.returned v) s') (fun _ _=>False):=by
  simp only[Instr.endRound]
  refine xO hs<|eB rfl hs rfl hR
 refine(hC main T hT).step _ _ rfl fun w p6=>?_
 obtain⟨res,es,bX,hl⟩:=gM _ _ _ _ w #[] wQ p6
 rw[Array.empty_append] at bX
 cases res with
 |ok v w'=>
  obtain⟨s',ht,hu⟩:=hl
  refine⟨G (c.finish v) cs,w',seen P fr.fn es,s',?_,rfl,ht.sub (iG _ _ _),hk _ _ hu⟩
  rw[gF,bX]
  simp only[doReturn,h1,GStep.after,Array.append_empty,G]
 |halt _ _=>obtain⟨_,_,hu⟩:=hl;exact hu.elim
theorem Ei(hC:∀main T,C main T→Closed P main T){l:Nat}{f:FuncId}{fn:Func}(hf:P.funcs[f]?=some fn) {tmps:Array Value} {assign body:Code} {R:Ending→St→Prop}
 (h:Wp C f (some l) assign (Jk C R l f body) ⟨tmps,[]⟩ s):Round C l f tmps assign body s R:=by
 intro main T hT cl cs k1 k2
 let b:Frame:={(default:Frame) with fn:=f,kind:= .normal,roundOf:=some l}
 have gZ:Frame.round l f tmps assign body .normal=aM b ⟨tmps,[]⟩ [.code assign,.beginRound,.code body]:=by simp[Frame.round,aM,b]
 rw[gZ]
 have ahK:∀ch a' s' todo,a'.defers=[]∧R (.panicked ch) s'→T (G {aM b a' todo with mode:= .panicking ch} (cl::cs)) s':=by
  intro ch a' s' todo q
  refine(hC main T hT).go rfl rfl (g':=G (cl.raise ch) cs) (fun w=>?_) (k2 _ _ q.2)
  have EA:∀fr:Frame,fr.fn=f→fr.catches P=false:=by
   intro fr hfr;simp[Frame.catches,hfr,hf]
  have:=EA {aM b a' todo with mode:= .panicking ch} rfl
  simp only[aM,q.1] at this
  simp[G,stepG,unwind,aM,b,q.1,this]
 refine h main T hT b [.beginRound,.code body] (cl::cs) rfl (by simp[b]) rfl fun e a' s' q=>?_
 cases e with
 |normal=>
  obtain⟨L,r,Rr,hs,bW,hw⟩:=q
  have wQ:bS P (do Instr.beginRound l;pure Next.skip:Sem Next) s' (fun nx s2=>nx= .skip∧s2=⟨s'.ro,L++(l,.loop {r with state:= .busy})::Rr⟩) (fun _ _=>False):=by
   simp only[Instr.beginRound,aa]
   refine xO hs ?_
   simp only[aa]
   refine eB rfl hs rfl ?_
   simp only[bW,ae]
   exact⟨rfl,rfl⟩
  have MN:T (G (aM b a' [.code body]) (cl::cs)) ⟨s'.ro,L++(l,.loop {r with state:= .busy})::Rr⟩:=by
   refine hw main T hT b [] (cl::cs) rfl (by simp[b]) rfl fun e2 a2 s2 q2=>?_
   cases e2 with
   |normal=>exact wu hC hT (l:=l) (jump:=none) rfl (fun w=>by simp[G,stepG,stepG.exec,aM,b];rfl) q2 k1
   |ret=>exact fun todo=>wu hC hT (l:=l) (jump:=some .ret) rfl (fun w=>by simp[G,stepG,stepG.exec,aM,b];rfl) q2 k1
   |exit id=>exact fun todo hto=>wu hC hT (l:=l) (jump:=some (.exit id)) rfl (fun w=>by simp[G,stepG,stepG.exec,aM,b,hto];rfl) q2 k1
   |panic ch=>exact fun todo=>ahK ch a2 s2 todo q2
   |goto l'=>exact q2.elim
   |outgrown=>exact q2.elim
  refine(hC main T hT).step _ _ rfl fun w p6=>?_
  obtain⟨res,es,bX,hl⟩:=gM _ _ _ _ w #[] wQ p6
  rw[Array.empty_append] at bX
  cases res with
  |ok nx w'=>
   obtain⟨s2,ht,rfl,rfl⟩:=hl
   refine⟨G (aM b a' [.code body]) (cl::cs),w',seen P f es,_,?_,rfl,ht.sub (iG _ _ _),MN⟩
   have gF:stepG P main (G (aM b a' [.beginRound,.code body]) (cl::cs)) w=stepG.apply P true (aM b a' [.beginRound,.code body]) (cl::cs) none (do Instr.beginRound l;pure Next.skip:Sem Next) w:=rfl
   rw[gF]
   simp only[stepG.apply,if_true,bX]
   simp[GStep.after,Frame.finish,aM,b,G]
  |halt _ _=>obtain⟨_,_,hu⟩:=hl;exact hu.elim
 |panic ch=>exact fun todo=>ahK ch a' s' todo q
 |ret=>exact q.elim
 |exit id=>exact q.elim
 |goto l=>exact q.elim
 |outgrown=>exact q.elim
end rounds
end Go.L
