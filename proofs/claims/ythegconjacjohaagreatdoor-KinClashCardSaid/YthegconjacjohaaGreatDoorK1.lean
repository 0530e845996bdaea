/- Part 1 of the proof. -/
import Derived.Calls
import Derived.Conc.Own
import Derived.IntWalk
import Derived.Laws.Sem
set_option maxRecDepth 100000
set_option linter.all false
namespace Go.L
open Go
variable {α β ι:Type} {l z vs z':List Value} {P:Program} {R:List (Nat×Obj)} {Pl:List (Nat×Value)} {b o n i id sz j cap ir vi dep:Nat} {x y:Operand} {t T':TypeId} {f:Operand→Value} {args:Array Value} {xs:Array Operand} {X rest:List Nat} {o':Obj} {r main xa:Bool} {w' adL:World} {cs:List Frame} {d:Tmp}
structure St where
 ro:Nat→Option Obj
 rw:List (Nat×Obj)
variable {E:Halt→St→Prop} {s s' P2 aex aew:St} {T:Goroutine→St→Prop}
def St.has(s:St)(b:Nat)(o:Obj):Prop:=s.ro b=some o∨(b,o)∈s.rw
def St.iW(s:St)(b:Nat):Prop:=∃o,(b,o)∈s.rw
def St.knows(s:St)(b:Nat):Prop:=s.ro b≠none∨s.iW b
structure aR(s:St)(w:World):Prop where
 ro:∀b o,s.ro b=some o→w.heap[b]?=some o
 rw:∀b o,(b,o)∈s.rw→w.heap[b]?=some o
 nodup:(s.rw.map (·.1)).Nodup
 apart:∀b o,(b,o)∈s.rw→s.ro b=none
theorem aR.has{w:World}(h:aR s w){o:Obj}(hb:s.has b o):w.heap[b]?=some o:=
 hb.elim (h.ro b o) (h.rw b o)
theorem aR.lt{w:World}(h:aR s w){o:Obj}(hb:s.has b o):b <w.heap.size:=by
 have:=h.has hb
 rcases Nat.lt_or_ge b w.heap.size with hl|hl
 ·exact hl
 simp[Array.getElem?_eq_none hl] at this
def Co:Mark→Bool
 | .acquire _| .release _| .releaseMerge _| .disable| .enable| .read _| .write _=>false
 |_=>true
def IY(s:St)(n:Nat)(e:Event):Prop:=
 match e.loc with
 | .cell a=>e.sync=false∧(n≤a.block∨s.iW a.block∨(e.write=false∧s.ro a.block≠none))
 | .obj r=>e.sync=false∧(n≤r∨s.iW r∨(e.write=false∧s.ro r≠none))
 | .mark m=>Co m=true
 |_=>False
def blk:Loc→Option Nat
 | .cell a=>some a.block
 | .obj r=>some r
 |_=>none
structure Trans(s:St)(w:World)(s':St)(w':World)(es:Array Event):Prop where
 jL:aR s' w'
 size:w.heap.size≤w'.heap.size
 frame:∀b,b <w.heap.size→¬s.iW b→w'.heap[b]?=w.heap[b]?
 own:∀b,s'.iW b→w.heap.size≤b∨s.iW b
 MS:∀b,s'.ro b≠none→w.heap.size≤b∨s.ro b≠none∨s.iW b
 os:w'.os=w.os
 output:w'.output=w.output
 tape:w'.tape=w.tape
 vx:∀e∈es,IY s w.heap.size e
 low:∀e∈es,∀b,blk e.loc=some b→b <w'.heap.size
theorem Trans.refl{w:World}(h:aR s w):Trans s w s w #[] where
 jL:=h
 size:=Nat.le_refl _
 frame:=fun _ _ _=>rfl
 own:=fun _ h=> .inr h
 MS:=fun _ h=> .inr (.inl h)
 os:=rfl
 output:=rfl
 tape:=rfl
 vx:=by simp
 low:=by simp
theorem Trans.trans{aA7 aA6:World}{ajV ajU:Array Event}(h:Trans P2 adL aex aA7 ajV)(k:Trans aex aA7 aew aA6 ajU):
 Trans P2 adL aew aA6 (ajV++ajU) where
 jL:=k.jL
 size:=Nat.le_trans h.size k.size
 frame:=fun b hb hn=>by
  rw[k.frame b (Nat.lt_of_lt_of_le hb h.size) (fun ho=>by rcases h.own b ho with h1|h1;omega;exact hn h1),h.frame b hb hn]
 own:=fun b hb=>by
  rcases k.own b hb with h1|h1
  ·exact .inl (Nat.le_trans h.size h1)
  exact h.own b h1
 MS:=fun b hb=>by
  rcases k.MS b hb with h1|h1|h1
  ·exact .inl (Nat.le_trans h.size h1)
  ·exact h.MS b h1
  rcases h.own b h1 with h2|h2
  ·exact .inl h2
  exact .inr (.inr h2)
 os:=k.os.trans h.os
 output:=k.output.trans h.output
 tape:=k.tape.trans h.tape
 low:=fun e he b hb=>by
  rcases Array.mem_append.1 he with he|he
  ·exact Nat.lt_of_lt_of_le (h.low e he b hb) k.size
  exact k.low e he b hb
 vx:=fun e he=>by
  rcases Array.mem_append.1 he with he|he
  ·exact h.vx e he
  have:=k.vx e he
  unfold IY at*
  split at this
  ·rename_i a _
   refine⟨this.1,?_⟩
   rcases this.2 with h1|h1|h1
   ·exact .inl (Nat.le_trans h.size h1)
   ·rcases h.own _ h1 with h2|h2
    ·exact .inl h2
    exact .inr (.inl h2)
   rcases h.MS _ h1.2 with h2|h2|h2
   ·exact .inl h2
   ·exact .inr (.inr ⟨h1.1,h2⟩)
   exact .inr (.inl h2)
  ·rename_i r _
   refine⟨this.1,?_⟩
   rcases this.2 with h1|h1|h1
   ·exact .inl (Nat.le_trans h.size h1)
   ·rcases h.own _ h1 with h2|h2
    ·exact .inl h2
    exact .inr (.inl h2)
   rcases h.MS _ h1.2 with h2|h2|h2
   ·exact .inl h2
   ·exact .inr (.inr ⟨h1.1,h2⟩)
   exact .inr (.inl h2)
  ·exact this
  exact this
def single:Value→Bool
 | .agg _| .tuple _=>false
 |_=>true
def Obj.xB:Obj→Bool
 | .cells .. =>true
 |_=>false
def Obj.shapeOf:Obj→Option (TypeId×Nat)
 | .cells c t _=>some (t,c.size)
 |_=>none
def Obj.frozenAt(a:Addr):Obj→Bool
 | .cells _ _ (lo,hi)=>lo≤a.off&&a.off <hi
 |_=>false
def Obj.SD(a:Addr)(n:Nat):Obj→Obj
 | .cells c elem (lo,hi)=> .cells c elem (if lo==hi then (a.off,a.off+n) else (min lo a.off,max hi (a.off+n)))
 |o=>o
def bO(P:Program):Sem α→St→(α→St→Prop)→(Halt→St→Prop)→Prop
 | .pure a,s,Q,_=>Q a s
 | .load m a k,s,Q,E=>m= .plain∧a.spot=none∧∃c t fz v,s.has a.block (.cells c t fz)∧c[a.off]?=some v∧bO P (k v) s Q E
 | .store m a v k,s,Q,E=>m= .plain∧a.spot=none∧single v=true∧∃L c t fz R,s.rw=L++(a.block,.cells c t fz)::R∧a.off <c.size∧
  (fz.1≤a.off&&a.off <fz.2)=false∧bO P k ⟨s.ro,L++(a.block,.cells (c.setIfInBounds a.off v) t fz)::R⟩ Q E
 | .new o k,s,Q,E=>∀b,¬s.knows b→bO P (k b) ⟨s.ro,(b,o)::s.rw⟩ Q E
 | .shape r k,s,Q,E=>∃o,s.has r o∧bO P (k (Obj.shapeOf o)) s Q E
 | .freeze a n k,s,Q,E=>if n=0 then bO P k s Q E else
  ∃L o R,s.rw=L++(a.block,o)::R∧bO P k ⟨s.ro,L++(a.block,Obj.SD a n o)::R⟩ Q E
 | .frozen a k,s,Q,E=>∃o,s.has a.block o∧bO P (k (Obj.frozenAt a o)) s Q E
 | .getObj r k,s,Q,E=>∃o,s.has r o∧Obj.xB o=false∧o.isChan=false∧bO P (k o) s Q E
 | .setObj r o k,s,Q,E=>o.isChan=false∧∃L o' R,s.rw=L++(r,o')::R∧Obj.xB o'=false∧bO P k ⟨s.ro,L++(r,o)::R⟩ Q E
 | .choose q k,s,Q,E=>if q.forced then bO P (k 0) s Q E else ∀n,bO P (k (q.cut n)) s Q E
 | .sys _ _,_,_,_=>False
 | .program k,s,Q,E=>bO P (k P) s Q E
 | .mark m k,s,Q,E=>Co m=true∧bO P k s Q E
 | .halt h,s,_,E=>E h s
theorem PN(x:Sem α)(f:α→Sem β)(s:St)(Q:β→St→Prop)(E:Halt→St→Prop)
 (h:bO P x s (fun a s'=>bO P (f a) s' Q E) E):bO P (x.bind f) s Q E:=by
 induction x generalizing s with
 |pure a=>exact h
 |load m a k ih=>obtain⟨h1,h2,c,t,fz,v,h3,h4,h5⟩:=h;exact⟨h1,h2,c,t,fz,v,h3,h4,ih _ _ h5⟩
 |store m a v k ih=>obtain⟨h1,h2,h3,L,c,t,fz,R,h4,h5,h6,h7⟩:=h;exact⟨h1,h2,h3,L,c,t,fz,R,h4,h5,h6,ih _ h7⟩
 |new o k ih=>exact fun b hb=>ih _ _ (h b hb)
 |shape r k ih=>obtain⟨o,h1,h2⟩:=h;exact⟨o,h1,ih _ _ h2⟩
 |freeze a n k ih=>
  simp only[Sem.bind,bO] at h ⊢
  split
  ·rename_i hn;rw[if_pos hn] at h;exact ih _ h
  rename_i hn;rw[if_neg hn] at h;obtain⟨L,o,R,h1,h2⟩:=h;exact⟨L,o,R,h1,ih _ h2⟩
 |frozen a k ih=>obtain⟨o,h1,h2⟩:=h;exact⟨o,h1,ih _ _ h2⟩
 |getObj r k ih=>obtain⟨o,h1,h2,h3,h4⟩:=h;exact⟨o,h1,h2,h3,ih _ _ h4⟩
 |setObj r o k ih=>obtain⟨h1,L,o',R,h2,h3,h4⟩:=h;exact⟨h1,L,o',R,h2,h3,ih _ h4⟩
 |choose q k ih=>
  simp only[Sem.bind,bO] at h ⊢
  split
  ·rename_i hn;rw[if_pos hn] at h;exact ih _ _ h
  rename_i hn;rw[if_neg hn] at h;exact fun n=>ih _ _ (h n)
 |sys c k ih=>exact h.elim
 |program k ih=>exact ih _ _ h
 |mark m k ih=>exact⟨h.1,ih _ h.2⟩
 |halt hh=>exact h
theorem vI(x:Sem α)(s:St)(Q Q':α→St→Prop)(E E':Halt→St→Prop)
 (hq:∀a s,Q a s→Q' a s)(he:∀a s,E a s→E' a s)(h:bO P x s Q E):bO P x s Q' E':=by
 induction x generalizing s with
 |pure a=>exact hq _ _ h
 |load m a k ih=>obtain⟨h1,h2,c,t,fz,v,h3,h4,h5⟩:=h;exact⟨h1,h2,c,t,fz,v,h3,h4,ih _ _ h5⟩
 |store m a v k ih=>obtain⟨h1,h2,h3,L,c,t,fz,R,h4,h5,h6,h7⟩:=h;exact⟨h1,h2,h3,L,c,t,fz,R,h4,h5,h6,ih _ h7⟩
 |new o k ih=>exact fun b hb=>ih _ _ (h b hb)
 |shape r k ih=>obtain⟨o,h1,h2⟩:=h;exact⟨o,h1,ih _ _ h2⟩
 |freeze a n k ih=>
  simp only[bO] at h ⊢
  split
  ·rename_i hn;rw[if_pos hn] at h;exact ih _ h
  rename_i hn;rw[if_neg hn] at h;obtain⟨L,o,R,h1,h2⟩:=h;exact⟨L,o,R,h1,ih _ h2⟩
 |frozen a k ih=>obtain⟨o,h1,h2⟩:=h;exact⟨o,h1,ih _ _ h2⟩
 |getObj r k ih=>obtain⟨o,h1,h2,h3,h4⟩:=h;exact⟨o,h1,h2,h3,ih _ _ h4⟩
 |setObj r o k ih=>obtain⟨h1,L,o',R,h2,h3,h4⟩:=h;exact⟨h1,L,o',R,h2,h3,ih _ h4⟩
 |choose q k ih=>
  simp only[bO] at h ⊢
  split
  ·rename_i hn;rw[if_pos hn] at h;exact ih _ _ h
  rename_i hn;rw[if_neg hn] at h;exact fun n=>ih _ _ (h n)
 |sys c k ih=>exact h.elim
 |program k ih=>exact ih _ _ h
 |mark m k ih=>exact⟨h.1,ih _ h.2⟩
 |halt hh=>exact he _ _ h
theorem fp{L:List (Nat×Obj)}{o:Obj}:(b,o)∈L++(b,o)::R:=by simp
theorem W8{w:World}(h:aR s w){L:List (Nat×Obj)}{o:Obj}(hl:s.rw=L++(b,o)::R)
 (hw:∀j,w'.heap[j]?=if j=b then some o' else w.heap[j]?):aR ⟨s.ro,L++(b,o')::R⟩ w':=by
 have iX:(b,o)∈s.rw:=by rw[hl];exact fp
 have mb:=h.nodup
 rw[hl] at mb
 simp only[List.map_append,List.map_cons] at mb
 rw[List.nodup_append] at mb
 obtain⟨nL,nR,nLR⟩:=mb
 rw[List.nodup_cons] at nR
 have aq5:∀c x,(c,x)∈L∨(c,x)∈R→c≠b:=by
  rintro c x (hc|hc) rfl
  ·exact nLR c (List.mem_map.2 ⟨_,hc,rfl⟩) c (by simp) rfl
  exact nR.1 (List.mem_map.2 ⟨_,hc,rfl⟩)
 refine⟨fun c x hc=>?_,fun c x hc=>?_,?_,fun c x hc=>?_⟩
 ·rw[hw]
  by_cases e:c=b
  ·subst e;rw[h.apart c o iX] at hc;cases hc
  rw[if_neg e];exact h.ro c x hc
 ·simp only[List.mem_append,List.mem_cons] at hc
  rw[hw]
  rcases hc with hc|hc|hc
  ·rw[if_neg (aq5 c x (.inl hc))];exact h.rw c x (by rw[hl];simp[hc])
  ·cases hc;simp
  rw[if_neg (aq5 c x (.inr hc))];exact h.rw c x (by rw[hl];simp[hc])
 ·simp only[List.map_append,List.map_cons]
  rw[List.nodup_append]
  exact⟨nL,List.nodup_cons.2 nR,nLR⟩
 simp only[List.mem_append,List.mem_cons] at hc
 rcases hc with hc|hc|hc
 ·exact h.apart c x (by rw[hl];simp[hc])
 ·cases hc;exact h.apart b o iX
 exact h.apart c x (by rw[hl];simp[hc])
theorem afw{ro:Nat→Option Obj}{L:List (Nat×Obj)}{c:Nat}{o:Obj}(h:(⟨ro,L++(b,o')::R⟩:St).iW c):(⟨ro,L++(b,o)::R⟩:St).iW c:=by
 obtain⟨x,hx⟩:=h
 simp only[List.mem_append,List.mem_cons] at hx
 rcases hx with hx|hx|hx
 ·exact⟨x,by simp[hx]⟩
 ·cases hx;exact⟨o,by simp⟩
 exact⟨x,by simp[hx]⟩
theorem B5{w:World}(h:aR s w){L:List (Nat×Obj)}{o:Obj}(hl:s.rw=L++(b,o)::R)
 (hs:w'.heap.size=w.heap.size)(hw:∀j,w'.heap[j]?=if j=b then some o' else w.heap[j]?)
 (ho:w'.os=w.os) (hu:w'.output=w.output) (ht:w'.tape=w.tape) {es:Array Event} (he:∀e∈es,IY s w.heap.size e∧∀b,blk e.loc=some b→b <w.heap.size):
 Trans s w ⟨s.ro,L++(b,o')::R⟩ w' es where
 jL:=W8 h hl hw
 size:=by omega
 frame:=fun c _ hn=>by
  rw[hw]
  by_cases e:c=b
  ·subst e;exact absurd ⟨o,by rw[hl];simp⟩ hn
  rw[if_neg e]
 own:=fun c hc=> .inr (by have:=afw (o:=o) hc;obtain⟨x,hx⟩:=this;exact⟨x,by rw[hl];exact hx⟩)
 MS:=fun c hc=> .inr (.inl hc)
 os:=ho
 output:=hu
 tape:=ht
 vx:=fun e h'=>(he e h').1
 low:=fun e h' b hb=>hs▸(he e h').2 b hb
theorem aaA{w:World}(h:aR s w)(o:Obj):Trans s w ⟨s.ro,(w.heap.size,o)::s.rw⟩ {w with heap:=w.heap.push o} #[] where
 jL:=by
  refine⟨fun b x hb=>?_,fun b x hb=>?_,?_,fun b x hb=>?_⟩
  ·have:=h.ro b x hb
   have cJ:=h.lt (.inl hb)
   simp[Array.getElem?_push,Nat.ne_of_lt cJ,this]
  ·rcases List.mem_cons.1 hb with hb|hb
   ·cases hb;simp
   have:=h.rw b x hb
   have cJ:=h.lt (.inr hb)
   simp[Array.getElem?_push,Nat.ne_of_lt cJ,this]
  ·simp only[List.map_cons]
   refine List.nodup_cons.2 ⟨fun hm=>?_,h.nodup⟩
   obtain⟨⟨b,x⟩,hx,rfl⟩:=List.mem_map.1 hm
   have:=h.lt (.inr hx)
   simp at this
  rcases List.mem_cons.1 hb with hb|hb
  ·cases hb
   cases hr:s.ro w.heap.size with
   |none=>rfl
   |some y=>have:=h.lt (.inl hr);omega
  exact h.apart b x hb
 size:=by simp
 frame:=fun b hb _=>by simp[Array.getElem?_push,Nat.ne_of_lt hb]
 own:=fun b hb=>by
  obtain⟨x,hx⟩:=hb
  rcases List.mem_cons.1 hx with hx|hx
  ·cases hx;exact .inl (Nat.le_refl _)
  exact .inr ⟨x,hx⟩
 MS:=fun b hb=> .inr (.inl hb)
 os:=rfl
 output:=rfl
 tape:=rfl
 vx:=by simp
 low:=by simp
theorem SC{w:World}(h:aR s w):¬s.knows w.heap.size:=by
 rintro(hk| ⟨o,hk⟩)
 ·cases hr:s.ro w.heap.size with
  |none=>exact hk hr
  |some y=>have:=h.lt (.inl hr);omega
 have:=h.lt (.inr hk);omega
theorem DD{w:World}(h:aR s w)(n:Nat):Trans s w s {w with drawn:=n} #[] where
 jL:=⟨h.ro,h.rw,h.nodup,h.apart⟩
 size:=Nat.le_refl _
 frame:=fun _ _ _=>rfl
 own:=fun _ h=> .inr h
 MS:=fun _ h=> .inr (.inl h)
 os:=rfl
 output:=rfl
 tape:=rfl
 vx:=by simp
 low:=by simp
theorem Gc{w:World}(h:aR s w){e:Event}(he:IY s w.heap.size e)(hb:∀b,blk e.loc=some b→b <w.heap.size):Trans s w s w #[e] where
 jL:=h
 size:=Nat.le_refl _
 frame:=fun _ _ _=>rfl
 own:=fun _ h=> .inr h
 MS:=fun _ h=> .inr (.inl h)
 os:=rfl
 output:=rfl
 tape:=rfl
 vx:=by simpa using he
 low:=by simpa using hb
def u1(s:St)(w:World)(Q:α→St→Prop)(E:Halt→St→Prop)(es:Array Event):Result α→Prop
 | .ok a w'=>∃s',Trans s w s' w' es∧Q a s'
 | .halt h w'=>∃s',Trans s w s' w' es∧E h s'
theorem u1.after{w:World}{Q:α→St→Prop}{ajV ajU:Array Event}{r:Result α}
 (ht:Trans s w P2 adL ajV)(h:u1 P2 adL Q E ajU r):u1 s w Q E (ajV++ajU) r:=by
 cases r with
 |ok a w'=>obtain⟨s',h1,h2⟩:=h;exact⟨s',ht.trans h1,h2⟩
 |halt a w'=>obtain⟨s',h1,h2⟩:=h;exact⟨s',ht.trans h1,h2⟩
theorem World.cell_of{w:World}(h:aR s w){a:Addr}(ha:a.spot=none){c:Array Value}{fz:Nat×Nat}(hb:s.has a.block (.cells c t fz)):
 w.cell? a=c[a.off]?:=by
 simp[World.cell?,h.has hb,ha]
theorem gG(x:Sem α)(s:St)(Q:α→St→Prop)(E:Halt→St→Prop)(w:World)(es:Array Event)
 (h:bO P x s Q E)(ha:aR s w):∃r dZ,x.runT P w es=(r,es++dZ)∧u1 s w Q E dZ r:=by
 induction x generalizing s w es with
 |pure a=>exact⟨.ok a w,#[],by simp only[Sem.runT,Array.append_empty],s,Trans.refl ha,h⟩
 |load m a k ih=>
  obtain⟨rfl,Pc,c,t,fz,v,hb,hv,hk⟩:=h
  have hc:w.cell? a=some v:=by rw[World.cell_of ha Pc hb,hv]
  obtain⟨r,e',hr,hl⟩:=ih v s w (es.push ⟨.cell a,false,false⟩) hk ha
  refine⟨r,#[⟨.cell a,false,false⟩]++e',?_,u1.after (Gc ha ?_ (fun b h'=>by cases h';exact ha.lt hb)) hl⟩
  ·simp only[Sem.runT,hc]
   rw[show (Mode.plain==Mode.atomic)=false from rfl,hr,←Array.append_singleton,Array.append_assoc]
  refine⟨rfl,?_⟩
  rcases hb with hb|hb
  ·exact .inr (.inr ⟨rfl,by rw[hb];simp⟩)
  exact .inr (.inl ⟨_,hb⟩)
 |store m a v k ih=>
  obtain⟨rfl,Pc,ho,L,c,t,fz,R,hl,cJ,hfz,hk⟩:=h
  have hb:s.has a.block (.cells c t fz):= .inr (by rw[hl];exact fp)
  have hc:w.cell? a=some c[a.off]:=by rw[World.cell_of ha Pc hb];simp[cJ]
  have hh:=ha.has hb
  have aoS:=ha.lt hb
  have hfr:w.frozen? a=false:=by simp only[World.frozen?,hh];exact hfz
  have ht:Trans s w ⟨s.ro,L++(a.block,.cells (c.setIfInBounds a.off v) t fz)::R⟩ (w.setCell a v) #[⟨.cell a,true,false⟩]:=by
   refine B5 (w':=w.setCell a v) ha hl (by simp[World.setCell]) (fun j=>?_) rfl rfl rfl ?_
   ·simp only[World.setCell,Array.getElem?_modify]
    by_cases e:a.block=j
    ·subst e;simp[hh,Pc]
    simp[e,Ne.symm e]
   simp only[List.mem_toArray,List.mem_singleton,forall_eq]
   exact⟨⟨rfl,.inr (.inl ⟨_,hb.resolve_left (by rw[ha.apart _ _ (show (a.block,_)∈s.rw by rw[hl];exact fp)];simp)⟩)⟩,fun b h'=>by cases h';exact aoS⟩
  obtain⟨r,e',hr,zb⟩:=ih _ (w.setCell a v) (es.push ⟨.cell a,true,false⟩) hk ht.jL
  refine⟨r,#[⟨.cell a,true,false⟩]++e',?_,u1.after ht zb⟩
  cases v<;>simp only[single,Bool.false_eq_true] at ho<;>
   (simp only[Sem.runT,hc,hfr]
    rw[show (Mode.plain==Mode.atomic)=false from rfl]
    simp only[Bool.false_eq_true,if_false]
    rw[hr,←Array.append_singleton,Array.append_assoc])
 |new o k ih=>
  have ht:=aaA ha o
  obtain⟨r,e',hr,hl⟩:=ih _ _ {w with heap:=w.heap.push o} es (h w.heap.size (SC ha)) ht.jL
  exact⟨r,#[]++e',by simp only[Sem.runT];rw[hr,Array.empty_append],u1.after ht hl⟩
 |shape r k ih=>
  obtain⟨o,hb,hk⟩:=h
  have hs:w.shape? r=Obj.shapeOf o:=by
   simp only[World.shape?,ha.has hb];cases o<;>rfl
  obtain⟨r',e',hr,hl⟩:=ih _ s w es hk ha
  exact⟨r',e',by simp only[Sem.runT,hs];exact hr,hl⟩
 |freeze a n k ih=>
  simp only[bO] at h
  by_cases hn:n=0
  ·rw[if_pos hn] at h
   obtain⟨r',e',hr,hl⟩:=ih s w es h ha
   exact⟨r',e',by simp only[Sem.runT,World.freeze,hn,if_true];exact hr,hl⟩
  rw[if_neg hn] at h
  obtain⟨L,o,R,hl,hk⟩:=h
  have hb:s.has a.block o:= .inr (by rw[hl];exact fp)
  have hh:=ha.has hb
  have ht:Trans s w ⟨s.ro,L++(a.block,Obj.SD a n o)::R⟩ (w.freeze a n) #[]:=by
   refine B5 (w':=w.freeze a n) ha hl (by simp[World.freeze,hn]) (fun j=>?_) (by simp[World.freeze,hn]) (by simp[World.freeze,hn]) (by simp[World.freeze,hn]) (by simp)
   simp only[World.freeze,hn,if_false,Array.getElem?_modify]
   by_cases e:a.block=j
   ·subst e;simp only[hh,if_true,Option.map_some];cases o<;>rfl
   simp[e,Ne.symm e]
  obtain⟨r',e',hr,zb⟩:=ih _ (w.freeze a n) es hk ht.jL
  exact⟨r',#[]++e',by simp only[Sem.runT];rw[hr,Array.empty_append],u1.after ht zb⟩
 |frozen a k ih=>
  obtain⟨o,hb,hk⟩:=h
  have hs:w.frozen? a=Obj.frozenAt a o:=by
   simp only[World.frozen?,ha.has hb];cases o<;>rfl
  obtain⟨r',e',hr,hl⟩:=ih _ s w es hk ha
  exact⟨r',e',by simp only[Sem.runT,hs];exact hr,hl⟩
 |getObj r k ih=>
  obtain⟨o,hb,DX,vw,hk⟩:=h
  have hh:=ha.has hb
  obtain⟨r',e',hr,hl⟩:=ih o s w (es.push ⟨.obj r,false,false⟩) hk ha
  refine⟨r',#[⟨.obj r,false,false⟩]++e',?_,u1.after (Gc ha ?_ (fun b h'=>by cases h';exact ha.lt hb)) hl⟩
  ·cases o<;>simp only[Obj.xB,Obj.isChan,Bool.true_eq_false] at DX vw<;>
    (simp only[Sem.runT,hh,Obj.isChan];rw[hr,←Array.append_singleton,Array.append_assoc])
  refine⟨rfl,?_⟩
  rcases hb with hb|hb
  ·exact .inr (.inr ⟨rfl,by rw[hb];simp⟩)
  exact .inr (.inl ⟨_,hb⟩)
 |setObj r o k ih=>
  obtain⟨vw,L,o',R,hl,DX,hk⟩:=h
  have hb:s.has r o':= .inr (by rw[hl];exact fp)
  have hh:=ha.has hb
  have aoS:=ha.lt hb
  have ht:Trans s w ⟨s.ro,L++(r,o)::R⟩ {w with heap:=w.heap.setIfInBounds r o} #[⟨.obj r,true,false⟩]:=by
   refine B5 (w':={w with heap:=w.heap.setIfInBounds r o}) ha hl (by simp) (fun j=>?_) rfl rfl rfl ?_
   ·simp only[Array.getElem?_setIfInBounds]
    by_cases e:r=j
    ·subst e;simp[aoS]
    simp[e,Ne.symm e]
   simp only[List.mem_toArray,List.mem_singleton,forall_eq]
   exact⟨⟨rfl,.inr (.inl ⟨o',by rw[hl];exact fp⟩)⟩,fun b h'=>by cases h';exact aoS⟩
  obtain⟨r',e',hr,zb⟩:=ih _ _ (es.push ⟨.obj r,true,false⟩) hk ht.jL
  refine⟨r',#[⟨.obj r,true,false⟩]++e',?_,u1.after ht zb⟩
  cases o'<;>simp only[Obj.xB,Bool.true_eq_false] at DX<;>
   (simp only[Sem.runT,hh,vw];rw[hr,←Array.append_singleton,Array.append_assoc])
 |choose q k ih=>
  simp only[bO] at h
  by_cases hq:q.forced
  ·rw[if_pos hq] at h
   obtain⟨r',e',hr,hl⟩:=ih 0 s w es h ha
   exact⟨r',e',by simp only[Sem.runT,hq,if_true];exact hr,hl⟩
  rw[if_neg hq] at h
  have ht:=DD ha (w.drawn+1)
  obtain⟨r',e',hr,hl⟩:=ih _ s {w with drawn:=w.drawn+1} es (h (w.tape w.drawn q)) ht.jL
  exact⟨r',#[]++e',by simp only[Sem.runT,hq,Bool.false_eq_true,if_false];rw[hr,Array.empty_append],u1.after ht hl⟩
 |sys c k ih=>exact h.elim
 |program k ih=>
  obtain⟨r',e',hr,hl⟩:=ih P s w es h ha
  exact⟨r',e',by simp only[Sem.runT];exact hr,hl⟩
 |mark m k ih=>
  obtain⟨r',e',hr,hl⟩:=ih s w (es.push ⟨.mark m,false,true⟩) h.2 ha
  refine⟨r',#[⟨.mark m,false,true⟩]++e',?_,u1.after (Gc ha ?_ (fun b h'=>by cases h')) hl⟩
  ·simp only[Sem.runT];rw[hr,←Array.append_singleton,Array.append_assoc]
  exact h.1
 |halt hh=>exact⟨.halt hh w,#[],by simp only[Sem.runT,Array.append_empty],s,Trans.refl ha,h⟩
open Go.Conc
def St.le(s s':St):Prop:=∃R,s'.rw.Perm (s.rw++R)∧∀b o,s.ro b=some o→s'.ro b=some o∨(b,o)∈R
theorem St.le_refl(s:St):s.le s:=⟨[],by simp,fun _ _ h=> .inl h⟩
theorem aR.of_le{w:World}(hl:s.le s')(h:aR s' w):aR s w:=by
 obtain⟨R,hR,h1⟩:=hl
 have hm:∀x,x∈s.rw→x∈s'.rw:=fun x hx=>hR.mem_iff.2 (by simp[hx])
 have TO:∀x,x∈R→x∈s'.rw:=fun x hx=>hR.mem_iff.2 (by simp[hx])
 have mb:=(hR.map (·.1)).nodup_iff.1 h.nodup
 rw[List.map_append,List.nodup_append] at mb
 refine⟨fun b o hb=>(h1 b o hb).elim (h.ro b o) (fun hx=>h.rw b o (TO _ hx)),fun b o hb=>h.rw b o (hm _ hb),mb.1,fun b o hb=>?_⟩
 have:=h.apart b o (hm _ hb)
 cases hr:s.ro b with
 |none=>rfl
 |some y=>
  rcases h1 b y hr with h3|h3
  ·rw[h3] at this;cases this
  exact absurd rfl (mb.2.2 b (List.mem_map.2 ⟨_,hb,rfl⟩) b (List.mem_map.2 ⟨_,h3,rfl⟩))
structure Closed(P:Program)(main:Bool)(T:Goroutine→St→Prop):Prop where
 step:∀g s,g.status= .running→(∀w,aR s w→∃g' w' es s',stepG P main g w= .go g' w' es∧g'.status= .running∧Trans s w s' w' es∧T g' s')→T g s
 mono:∀g s s',s.le s'→T g s→T g s'
theorem Closed.go(C:Closed P main T){g g':Goroutine}(hs:g.status= .running)(mT:g'.status= .running)
 (h:∀w,stepG P main g w= .go g' w #[])(ht:T g' s):T g s:=
 C.step g s hs fun w hw=>⟨g',w,#[],s,h w,mT,Trans.refl hw,ht⟩
abbrev Class:=Bool→(Goroutine→St→Prop)→Prop
abbrev Post:=Exit→Act→St→Prop
def aL(b:Frame)(a:Act)(todo:List Item):Frame:={fn:=b.fn,tmps:=a.tmps,todo,defers:=a.defers,mode:= .run,kind:=b.kind,roundOf:=b.roundOf}
def jN(T:Goroutine→St→Prop)(b:Frame)(k:List Item)(cs:List Frame):Post
 | .normal,a,s=>T (G (aL b a k) cs) s
 | .exit id,a,s=>match exitTo id k with
  |some k'=>T (G (aL b a k') cs) s
  |none=>∀todo,exitTo id todo=none→T (G (aL b a (.code (.exit id)::todo)) cs) s
 | .ret,a,s=>∀todo,T (G (aL b a (.code .ret::todo)) cs) s
 | .panic ch,a,s=>∀todo,T (G {aL b a todo with mode:= .panicking ch} cs) s
 |_,_,_=>False
def Wp(C:Class)(fn:FuncId)(aA:Option Nat)(c:Code)(Q:Post)(a:Act)(s:St):Prop:=
 ∀main T,C main T→∀(b:Frame) (k:List Item) (cs:List Frame),b.fn=fn→b.kind≠ .early→b.roundOf=aA→
  (∀e a' s',Q e a' s'→jN T b k cs e a' s')→T (G (aL b a (.code c::k)) cs) s
def ab(C:Class)(fn:FuncId)(aA:Option Nat)(ops:Array Oper)(todo:List Nat)(Q:Post)(a:Act)(s:St):Prop:=
 ∀main T,C main T→∀(b:Frame) (k:List Item) (cs:List Frame),b.fn=fn→b.kind≠ .early→b.roundOf=aA→
  (∀e a' s',Q e a' s'→jN T b k cs e a' s')→T (G (aL b a (.inRegion ops todo::k)) cs) s
def Fn(C:Class)(P:Program)(f:FuncId)(args:Array Value)(s:St)(R:Ending→St→Prop):Prop:=
 ∀main T,C main T→∀(c:Frame) (cs:List Frame),(∀v s',R (.returned v) s'→T (G (c.finish v) cs) s')→(∀ch s',R (.panicked ch) s'→T (G (c.raise ch) cs) s')→
  T (G (Frame.enter P f args .normal) (c::cs)) s
def Round(C:Class)(l:Nat)(f:FuncId)(tmps:Array Value)(assign body:Code)(s:St)(R:Ending→St→Prop):Prop:=
 ∀main T,C main T→∀(c:Frame) (cs:List Frame),(∀v s',R (.returned v) s'→T (G (c.finish v) cs) s')→(∀ch s',R (.panicked ch) s'→T (G (c.raise ch) cs) s')→
  T (G (Frame.round l f tmps assign body .normal) (c::cs)) s
section rules
variable {P:Program} {C:Class} {fn:FuncId} {aA:Option Nat} {Q:Post} {a:Act} {s:St}
theorem Fn.mono{f:FuncId}{R R':Ending→St→Prop}(h:Fn C P f args s R)(hr:∀e s,R e s→R' e s):Fn C P f args s R':=
 fun main T hT c cs h1 h2=>h main T hT c cs (fun v s' hv=>h1 v s' (hr _ _ hv)) fun ch s' hv=>h2 ch s' (hr _ _ hv)
theorem Fn.weaken{C':Class}(hc:∀main T,C' main T→C main T){f:FuncId}{R:Ending→St→Prop}(h:Fn C P f args s R):Fn C' P f args s R:=
 fun main T hT=>h main T (hc _ _ hT)
theorem Wp.more(hC:∀main T,C main T→Closed P main T){c:Code}(hl:s.le s')(h:Wp C fn aA c Q a s):Wp C fn aA c Q a s':=
 fun main T hT b k cs h1 h2 h3 h4=>(hC _ _ hT).mono _ _ _ hl (h main T hT b k cs h1 h2 h3 h4)
theorem wp_skip(hC:∀main T,C main T→Closed P main T)(h:Q .normal a s):Wp C fn aA .skip Q a s:=
 fun main T hT b k cs _ _ _ h4=>(hC main T hT).go rfl rfl (g':=G (aL b a k) cs) (fun w=>by simp[G,stepG,stepG.exec,aL]) (h4 _ _ _ h)
theorem jN.push{b:Frame}{x:Item}{k:List Item}{e:Exit}(hx:x.plain=true)(he:e≠ .normal)
 (h:jN T b k cs e a s):jN T b (x::k) cs e a s:=by
 cases e with
 |normal=>exact absurd rfl he
 |exit id=>
  have hh:exitTo id (x::k)=exitTo id k:=by cases x<;>simp_all[exitTo,Item.plain]
  simp only[jN,hh] at h ⊢;exact h
 |ret=>exact h
 |panic ch=>exact h
 |goto l=>exact h
 |outgrown=>exact h
def lV(K:Act→St→Prop)(Q:Post):Post
 | .normal,a,s=>K a s
 |e,a,s=>Q e a s
theorem wp_seq(hC:∀main T,C main T→Closed P main T){x y:Code}(h:Wp C fn aA x (lV (fun a' s'=>Wp C fn aA y Q a' s') Q) a s):Wp C fn aA (.seq x y) Q a s:=by
 intro main T hT b k cs h1 h2 h3 h4
 refine(hC main T hT).go rfl rfl (g':=G (aL b a (.code x:: .code y::k)) cs) (fun w=>by simp[G,stepG,stepG.exec,aL]) ?_
 refine h main T hT b (.code y::k) cs h1 h2 h3 fun e a' s' q=>?_
 cases e with
 |normal=>exact q main T hT b k cs h1 h2 h3 h4
 |exit id=>exact(h4 _ _ _ q).push rfl (by simp)
 |ret=>exact(h4 _ _ _ q).push (x:= .code y) rfl (by simp)
 |panic ch=>exact(h4 _ _ _ q).push (x:= .code y) rfl (by simp)
 |goto l=>exact(h4 _ _ _ q).elim
 |outgrown=>exact(h4 _ _ _ q).elim
theorem Ic(b:Frame)(a:Act)(todo:List Item)(x:Operand):(aL b a todo).eval x=a.eval x:=by cases x<;>rfl
theorem kQ(b:Frame)(a:Act)(todo:List Item):(aL b a todo).eval=a.eval:=funext (Ic b a todo)
theorem wp_cond(hC:∀main T,C main T→Closed P main T){c:Operand}{x y:Code}{t:Bool}(hc:a.eval c= .bool t)(h:Wp C fn aA (if t then x else y) Q a s):Wp C fn aA (.cond c x y) Q a s:=by
 intro main T hT b k cs h1 h2 h3 h4
 refine(hC main T hT).go rfl rfl (g':=G (aL b a (.code (if t then x else y)::k)) cs) (fun w=>?_) (h main T hT b k cs h1 h2 h3 h4)
 have h':(aL b a (.code (.cond c x y)::k)).eval c= .bool t:=by rw[Ic];exact hc
 simp only[aL] at h'
 simp[G,stepG,stepG.exec,aL,h']
theorem wp_cond_split(hC:∀main T,C main T→Closed P main T){c:Operand}{x y:Code}{t:Bool}(hc:a.eval c= .bool t)(h1:t=true→Wp C fn aA x Q a s)(h2:t=false→Wp C fn aA y Q a s):
 Wp C fn aA (.cond c x y) Q a s:=by
 cases t
 ·exact wp_cond hC hc (h2 rfl)
 exact wp_cond hC hc (h1 rfl)
def qJ(id:Nat)(Q:Post):Post
 | .exit TD,a,s=>if TD=id then Q .normal a s else Q (.exit TD) a s
 |e,a,s=>Q e a s
theorem wp_block(hC:∀main T,C main T→Closed P main T){c:Code}(h:Wp C fn aA c (qJ id Q) a s):Wp C fn aA (.block id c) Q a s:=by
 intro main T hT b k cs h1 h2 h3 h4
 refine(hC main T hT).go rfl rfl (g':=G (aL b a (.code c:: .inBlock id::k)) cs) (fun w=>by simp[G,stepG,stepG.exec,aL]) ?_
 refine h main T hT b (.inBlock id::k) cs h1 h2 h3 fun e a' s' q=>?_
 cases e with
 |normal=>exact(hC main T hT).go rfl rfl (g':=G (aL b a' k) cs) (fun w=>by simp[G,stepG,stepG.exec,aL]) (h4 _ _ _ q)
 |exit TD=>
  by_cases Jc:TD=id
  ·simp only[qJ,Jc,if_true] at q
   have:=h4 _ _ _ q
   simp only[jN,exitTo,Jc,beq_self_eq_true,if_true]
   exact this
  simp only[qJ,Jc,if_false] at q
  have:=h4 _ _ _ q
  have dI:(id==TD)=false:=by simp;exact fun h=>Jc h.symm
  simp only[jN,exitTo,dI,Bool.false_eq_true,if_false] at this ⊢
  exact this
 |ret=>exact h4 _ _ _ q
 |panic ch=>exact h4 _ _ _ q
 |goto l=>exact(h4 _ _ _ q).elim
 |outgrown=>exact(h4 _ _ _ q).elim
theorem wp_exit(hC:∀main T,C main T→Closed P main T)(h:Q (.exit id) a s):Wp C fn aA (.exit id) Q a s:=by
 intro main T hT b k cs h1 h2 h3 h4
 have h':=h4 _ _ _ h
 simp only[jN] at h'
 cases hk:exitTo id k with
 |some k'=>
  rw[hk] at h'
  exact(hC main T hT).go rfl rfl (g':=G (aL b a k') cs) (fun w=>by simp[G,stepG,stepG.exec,aL,hk]) h'
 |none=>rw[hk] at h';exact h' k hk
theorem wp_ret{fn:FuncId}(h:Q .ret a s):Wp C fn aA .ret Q a s:=fun _ _ _ _ _ _ _ _ _ h4=>h4 _ _ _ h _
theorem wp_region(hC:∀main T,C main T→Closed P main T){ops:Array Oper}(h:ab C fn aA ops (List.range ops.size) Q a s):Wp C fn aA (.region id ops false) Q a s:=
 fun main T hT b k cs h1 h2 h3 h4=>(hC main T hT).go rfl rfl (g':=G (aL b a (.inRegion ops (List.range ops.size)::k)) cs) (fun w=>by simp[G,stepG,stepG.exec,aL]) (h main T hT b k cs h1 h2 h3 h4)
theorem wp_region_draw(hC:∀main T,C main T→Closed P main T){ops:Array Oper}(h:∀t,ab C fn aA ops (Region.schedule (P.follows .mixedOrders) ops t) Q a s):Wp C fn aA (.region id ops true) Q a s:=by
 intro main T hT b k cs h1 h2 h3 h4
 refine(hC main T hT).step _ _ rfl fun w hw=>?_
 refine⟨G (aL b a (.inRegion ops (Region.schedule (P.follows .mixedOrders) ops (w.tape w.drawn (.order b.fn id)))::k)) cs,{w with drawn:=w.drawn+1},#[],s,?_,rfl,DD hw _,h _ main T hT b k cs h1 h2 h3 h4⟩
 simp[G,stepG,stepG.exec,aL,choose,Sem.run,Question.forced,Question.cut]
theorem tY(hC:∀main T,C main T→Closed P main T){ops:Array Oper}(h:Q .normal a s):ab C fn aA ops [] Q a s:=
 fun main T hT b k cs _ _ _ h4=>(hC main T hT).go rfl rfl (g':=G (aL b a k) cs) (fun w=>by simp[G,stepG,stepG.exec,aL]) (h4 _ _ _ h)
theorem fH(b:Frame)(a:Act)(ops:Array Oper)(i:Nat)(rest:List Nat)(k:List Item)(v:Value):
 (aL b a (.inRegion ops (i::rest)::k)).finish v=aL b (a.put ((ops[i]?).bind (·.dst)) v) (.inRegion ops rest::k):=by
 cases h:(ops[i]?).bind (·.dst)<;>simp[Frame.finish,aL,Act.put,h]
theorem tX(hC:∀main T,C main T→Closed P main T){ops:Array Oper}{o:Oper}(ho:ops[i]?=some o) (hw:Region.wanted o (yielded ops a.tmps)=false)
 (h:ab C fn aA ops rest Q (a.put o.dst undef) s):ab C fn aA ops (i::rest) Q a s:=by
 intro main T hT b k cs h1 h2 h3 h4
 refine(hC main T hT).go rfl rfl (g':=G (aL b (a.put o.dst undef) (.inRegion ops rest::k)) cs) (fun w=>?_) (h main T hT b k cs h1 h2 h3 h4)
 have:=fH b a ops i rest k undef
 rw[ho] at this
 simp only[Option.bind_some] at this
 rw[←this]
 simp[G,stepG,stepG.exec,aL,ho,hw]
def auf(dst:Option Tmp)(a:Act)(K:Act→St→Prop)(Q:Post):Ending→St→Prop
 | .returned v,s=>K (a.put dst v) s
 | .panicked ch,s=>Q (.panic ch) a s
 | .outgrown,_=>False
def upon(C:Class)(P:Program)(aA:Option Nat)(dst:Option Tmp)(a:Act)(K:Act→St→Prop)(Q:Post):Next→St→Prop
 | .value v,s=>K (a.put dst v) s
 | .skip,s=>K (a.put dst undef) s
 | .enter f args,s=>Fn C P f args s (auf dst a K Q)
 | .round l f tmps assign body,s=>Round C l f tmps assign body s (auf dst a K Q)
 | .defer d,s=>aA=none∧K ({a with defers:=d::a.defers}.put dst undef) s
 |_,_=>False
def No(a:Act)(Q:Post):Halt→St→Prop
 | .panic v,s=>Q (.panic [{v,recovered:=false}]) a s
 |_,_=>False
theorem aco(g:Bool×Array Event→Event→Bool×Array Event)(hg:∀x y,(g x y).2=x.2∨(g x y).2=x.2.push y):
 ∀(l:List Event) (x:Bool×Array Event),∀e∈(l.foldl g x).2,e∈x.2∨e∈l:=by
 intro l
 induction l with
 |nil=>intro x e he;exact .inl he
 |cons y l ih=>
  intro x e he
  simp only[List.foldl_cons] at he
  rcases ih _ e he with h|h
  ·rcases hg x y with h'|h'
   ·rw[h'] at h;exact .inl h
   rw[h'] at h
   rcases Array.mem_push.1 h with h|h
   ·exact .inl h
   exact .inr (by simp[h])
  exact .inr (List.mem_cons_of_mem _ h)
theorem iC(P:Program)(f:FuncId)(es:Array Event):∀e∈seen P f es,e∈es:=by
 intro e he
 unfold seen at he
 simp only at he
 rw[←Array.foldl_toList] at he
 rcases aco _ (fun x y=>by
  rcases x with ⟨q,kept⟩
  dsimp only
  split
  ·exact .inl rfl
  dsimp only
  split
  ·exact .inl rfl
  exact .inr rfl) es.toList _ e he with h|h
 ·simp at h
 exact Array.mem_toList_iff.1 h
theorem Trans.sub{w:World}{es dZ:Array Event}(h:Trans s w s' w' es)(hs:∀e∈dZ,e∈es):Trans s w s' w' dZ:=
 ⟨h.jL,h.size,h.frame,h.own,h.MS,h.os,h.output,h.tape,fun e he=>h.vx e (hs e he),fun e he=>h.low e (hs e he)⟩
theorem Nm(hC:∀main T,C main T→Closed P main T){ops:Array Oper}{o:Oper}(ho:ops[i]?=some o) (hw:Region.wanted o (yielded ops a.tmps)=true)
 (hd:aA=none∨∀c,o.op≠ .defer c)
 (h:bO P (execOp a.eval o) s (upon C P aA o.dst a (fun a' s'=>ab C fn aA ops rest Q a' s') Q) (No a Q)):ab C fn aA ops (i::rest) Q a s:=by
 intro main T hT b k cs h1 h2 h3 h4
 have iM:=hC main T hT
 have mr:∀(a:Act) v,(aL b a (.inRegion ops (i::rest)::k)).finish v=aL b (a.put o.dst v) (.inRegion ops rest::k):=by
  intro a v;rw[fH,ho];rfl
 have hk:(b.kind==CallKind.early)=false:=by simpa using h2
 have gA:∀w,stepG P main (G (aL b a (.inRegion ops (i::rest)::k)) cs) w=stepG.apply P true (aL b a (.inRegion ops (i::rest)::k)) cs none (execOp a.eval o) w:=by
  intro w
  have he:=kQ b a (.inRegion ops (i::rest)::k)
  simp only[aL] at he
  simp only[G,stepG,stepG.exec,aL,ho,Option.map_some,Option.getD_some,hw,if_true,stepG.oper,Frame.oper?,he]
  rcases hd with hd|hd
  ·rw[h3,hd]
  split
  ·rename_i hx hy;exact absurd hy (hd _)
  rfl
 refine iM.step _ _ rfl fun w pJ=>?_
 obtain⟨r,es,hr,hl⟩:=gG _ _ _ _ w #[] h pJ
 rw[Array.empty_append] at hr
 have mI:=gA w
 simp only[stepG.apply,if_true,hr] at mI
 simp only[aL,hk,Bool.false_eq_true,if_false] at mI
 have fA:=iC P b.fn es
 cases r with
 |ok nx w'=>
  obtain⟨s',ht,hu⟩:=hl
  have ht':=ht.sub fA
  cases nx with
  |value v=>
   simp only[GStep.after,Array.append_empty] at mI
   refine⟨_,_,_,s',mI,rfl,ht',?_⟩
   have:=hu main T hT b k cs h1 h2 h3 h4
   rw[←mr] at this;exact this
  |skip=>
   simp only[GStep.after,Array.append_empty] at mI
   refine⟨_,_,_,s',mI,rfl,ht',?_⟩
   have:=hu main T hT b k cs h1 h2 h3 h4
   rw[←mr] at this;exact this
  |enter f args=>
   simp only[GStep.after,Array.append_empty] at mI
   refine⟨_,_,_,s',mI,rfl,ht',?_⟩
   refine hu main T hT (aL b a (.inRegion ops (i::rest)::k)) cs (fun v s'' hv=>?_) (fun ch s'' hv=>?_)
   ·rw[mr];exact hv main T hT b k cs h1 h2 h3 h4
   exact h4 _ _ _ hv _
  |round l f tmps assign body=>
   simp only[GStep.after,Array.append_empty] at mI
   refine⟨_,_,_,s',mI,rfl,ht',?_⟩
   refine hu main T hT (aL b a (.inRegion ops (i::rest)::k)) cs (fun v s'' hv=>?_) (fun ch s'' hv=>?_)
   ·rw[mr];exact hv main T hT b k cs h1 h2 h3 h4
   exact h4 _ _ _ hv _
  |defer d=>
   simp only[GStep.after,Array.append_empty] at mI
   refine⟨_,_,_,s',mI,rfl,ht',?_⟩
   have:=hu.2 main T hT b k cs h1 h2 h3 h4
   rw[←mr] at this
   exact this
  |_=>exact hu.elim
 |halt hh w'=>
  obtain⟨s',ht,hu⟩:=hl
  have ht':=ht.sub fA
  cases hh with
  |panic v=>
   simp only[GStep.after,Array.append_empty] at mI
   refine⟨_,_,_,s',mI,rfl,ht',?_⟩
   have hp:No a Q (.panic v) s':=hu
   exact h4 _ _ _ hp _
  |_=>exact absurd hu id
def rG(P:Program)(fn:Func)(R:Ending→St→Prop):Post
 | .normal,a,s| .ret,a,s=>a.defers=[]∧bO P (results fn a.tmps) s (fun v s'=>∃s0,s0.le s'∧R (.returned v) s0) (fun _ _=>False)
 | .panic ch,a,s=>a.defers=[]∧R (.panicked ch) s
 |_,_,_=>False
theorem sV(hC:∀main T,C main T→Closed P main T){main:Bool}{T:Goroutine→St→Prop}(hT:C main T){f:FuncId}{fn:Func}(hf:P.funcs[f]?=some fn) {fr c:Frame} {cs:List Frame}
 (h1:fr.fn=f) (h2:fr.kind= .normal) (h3:fr.mode= .returning) (h4:fr.defers=[]) {R:Ending→St→Prop} {s:St}
 (hr:bO P (results fn fr.tmps) s (fun v s'=>∃s0,s0.le s'∧R (.returned v) s0) (fun _ _=>False)) (hk:∀v s',R (.returned v) s'→T (G (c.finish v) cs) s'):T (G fr (c::cs)) s:=by
 refine(hC main T hT).step _ _ rfl fun w pJ=>?_
 obtain⟨r,es,bX,hl⟩:=gG _ _ _ _ w #[] hr pJ
 clear hr
 rw[Array.empty_append] at bX
 cases r with
 |ok v w'=>
  obtain⟨s',ht,hu⟩:=hl
  refine⟨G (c.finish v) cs,w',seen P fr.fn es,s',?_,rfl,ht.sub (iC _ _ _),by obtain⟨s0,hl0,vu⟩:=hu;exact(hC main T hT).mono _ _ _ hl0 (hk _ _ vu)⟩
  rcases fr with ⟨fn',tmps,todo,defers,mode,kind,ro⟩
  simp only at h1 h2 h3 h4 bX ⊢
  subst h1 h2 h3 h4
  simp only[G,stepG,unwind,hf,bX,doReturn,GStep.after,Array.append_empty]
 |halt _ _=>obtain⟨_,_,hu⟩:=hl;exact hu.elim
theorem SF(hC:∀main T,C main T→Closed P main T){f:FuncId}{fn:Func}{c:Code}{args:Array Value}{R:Ending→St→Prop}
 (hf:P.funcs[f]?=some fn) (hb:fn.body=some c) (h:Wp C f none c (rG P fn R) ⟨args++Array.replicate (fn.ntmps-args.size) undef,[]⟩ s):Fn C P f args s R:=by
 intro main T hT cl cs k1 k2
 let b:Frame:={(default:Frame) with fn:=f,kind:= .normal,roundOf:=none}
 have gY:Frame.enter P f args .normal=aL b ⟨args++Array.replicate (fn.ntmps-args.size) undef,[]⟩ [.code c]:=by
  simp[Frame.enter,aL,hf,hb,b]
 rw[gY]
 refine h main T hT b [] (cl::cs) rfl (by simp[b]) rfl fun e a' s' q=>?_
 have sq:∀(todo:List Item),a'.defers=[]→bO P (results fn a'.tmps) s' (fun v s'=>∃s0,s0.le s'∧R (.returned v) s0) (fun _ _=>False)→T (G {aL b a' todo with mode:= .returning} (cl::cs)) s':=
  fun todo hd hr=>sV hC hT hf rfl rfl rfl hd hr k1
 cases e with
 |normal=>
  exact(hC main T hT).go rfl rfl (g':=G {aL b a' [] with mode:= .returning} (cl::cs)) (fun w=>by simp[G,stepG,stepG.exec,aL,b]) (sq _ q.1 q.2)
 |ret=>
  exact fun todo=>(hC main T hT).go rfl rfl (g':=G {aL b a' (.code .ret::todo) with mode:= .returning} (cl::cs)) (fun w=>by simp[G,stepG,stepG.exec,aL,b]) (sq _ q.1 q.2)
 |panic ch=>
  intro todo
  refine(hC main T hT).go rfl rfl (g':=G (cl.raise ch) cs) (fun w=>?_) (k2 _ _ q.2)
  have DX:∀fr:Frame,fr.fn=f→fr.catches P=false:=by
   intro fr hfr;simp[Frame.catches,hfr,hf]
  have:=DX {aL b a' todo with mode:= .panicking ch} rfl
  simp only[aL,q.1] at this
  simp[G,stepG,unwind,aL,b,q.1,this]
 |exit id=>exact q.elim
 |goto l=>exact q.elim
 |outgrown=>exact q.elim
end rules
abbrev Env:=List (Nat×Value)
variable {env e:Env}
def get:Env→Nat→Value
 | [],_=>undef
 | (k,v)::r,t=>bif Nat.beq k t then v else get r t
def A(n:Nat)(env:Env)(D:List Deferred):Act:=⟨Array.ofFn (n:=n) fun i=>get env i,D⟩
def ev(n:Nat)(env:Env):Operand→Value
 | .tmp t=>bif Nat.blt t n then get env t else undef
 | .const v=>v
 | .global g=> .pointer (some ⟨g,0,none⟩)
 | .func f=> .func (.func f) #[] #[]
def gL:Env→Nat→Option Value
 | [],_=>none
 | (k,v)::r,t=>bif Nat.beq k t then some v else gL r t
def bp(n:Nat)(env:Env):Operand→Option Value
 | .tmp t=>bif Nat.blt t n then gL env t else none
 | .const v=>some v
 | .global g=>some (.pointer (some ⟨g,0,none⟩))
 | .func f=>some (.func (.func f) #[] #[])
def x6(n:Nat)(env:Env):List Operand→Option (List Value)
 | []=>some []
 |x::l=>match bp n env x with
  |some v=>match x6 n env l with
   |some r=>some (v::r)
   |none=>none
  |none=>none
def vx(n:Nat)(env:Env)(xs:Array Operand):Option (List Value):=x6 n env xs.toList
theorem mL{t:Nat}{v:Value}(h:gL env t=some v):get env t=v:=by
 induction env with
 |nil=>cases h
 |cons x env ih=>
  rcases x with ⟨k,u⟩
  simp only[gL,get] at h ⊢
  cases hb:Nat.beq k t with
  |true=>rw[hb] at h;simpa using h
  |false=>rw[hb] at h;exact ih h
theorem aF{v:Value}(h:bp n env x=some v):ev n env x=v:=by
 cases x with
 |tmp t=>
  simp only[bp,ev] at h ⊢
  cases hb:Nat.blt t n with
  |true=>rw[hb] at h;exact mL h
  |false=>rw[hb] at h;cases h
 |const u=>simpa [bp,ev] using h
 |global g=>simpa [bp,ev] using h
 |func f=>simpa [bp,ev] using h
theorem aj3:∀ {xs:List Operand} {l:List Value},x6 n env xs=some l→xs.map (ev n env)=l
 | [],l,h=>by simpa [x6] using h
 |x::xs,l,h=>by
  simp only[x6] at h
  cases hx:bp n env x with
  |none=>rw[hx] at h;cases h
  |some v=>
   rw[hx] at h
   cases hr:x6 n env xs with
   |none=>rw[hr] at h;cases h
   |some r=>rw[hr] at h;simp only[Option.some.injEq] at h;subst h;simp[aF hx,aj3 hr]
theorem sB(h:vx n env xs=some l):xs.map (ev n env)=⟨l⟩:=by
 have:=aj3 h
 rcases xs with ⟨xs⟩
 simpa using this
def upd(dst:Option Tmp)(v:Value)(env:Env):Env:=
 match dst with
 |some d=>(d,v)::env
 |none=>env
theorem O0(n:Nat)(env:Env)(D:List Deferred)(t:Nat):(A n env D).tmps[t]?=if t <n then some (get env t) else none:=by
 simp only[A,Array.getElem?_ofFn]
 split<;>rfl
theorem eg(n:Nat)(env:Env)(D:List Deferred):(A n env D).eval=ev n env:=by
 funext x
 cases x with
 |tmp t=>
  simp only[Act.eval,ev,Array.getD_eq_getD_getElem?,O0]
  by_cases h:t <n
  ·rw[if_pos h,show Nat.blt t n=true from by simpa [Nat.blt_eq] using h];rfl
  rw[if_neg h,show Nat.blt t n=false from by simpa [Nat.blt_eq,←Bool.not_eq_true] using h];rfl
 |_=>rfl
theorem cI(k t:Nat)(v:Value)(r:Env):get ((k,v)::r) t=if k=t then v else get r t:=by
 simp only[get]
 by_cases h:k=t
 ·subst h;simp
 rw[if_neg h,show Nat.beq k t=false from by simpa [←Bool.not_eq_true] using h];rfl
theorem aX(n:Nat)(env:Env)(D:List Deferred)(dst:Option Tmp)(v:Value):(A n env D).put dst v=A n (upd dst v env) D:=by
 cases dst with
 |none=>rfl
 |some d=>
  simp only[Act.put,upd,A,Act.mk.injEq,and_true]
  apply Array.ext_getElem?
  intro i
  rw[Array.getElem?_setIfInBounds]
  simp only[Array.getElem?_ofFn,Array.size_ofFn]
  by_cases h:d=i
  ·subst h
   by_cases h2:d <n<;>simp[h2,cI]
  simp only[h,if_false]
  split
  ·simp[cI,h]
  rfl
def Holds(n:Nat)(env:Env)(D:List Deferred)(a:Act):Prop:=∃rest,a=A n (env++rest) D
theorem get_append(env rest:Env)(t:Nat):get (env++rest) t=if (env.any fun x=>x.1==t) then get env t else get rest t:=by
 induction env with
 |nil=>simp
 |cons x env ih=>
  rcases x with ⟨k,v⟩
  simp only[List.cons_append,cI,List.any_cons]
  by_cases h:k=t
  ·simp[h]
  have hk:(k==t)=false:=by simpa using h
  rw[if_neg h,if_neg h,ih,hk,Bool.false_or]
theorem holds_of(n:Nat)(env lf:Env)(D:List Deferred)(h:∀x∈env,get lf x.1=x.2)(hd:∀x∈env,get env x.1=x.2):Holds n env D (A n lf D):=by
 refine⟨lf,?_⟩
 simp only[A,Act.mk.injEq,and_true]
 congr 1
 funext i
 rw[get_append]
 split
 ·rename_i ha
  obtain⟨x,hx,hk⟩:=List.any_eq_true.1 ha
  have hk:x.1=i.val:=by simpa using hk
  rw[←hk,h x hx,hd x hx]
 rfl
def ay(ops:Array Oper)(n:Nat)(env:Env):Option (Nat×Bool)→Bool
 |none=>true
 |some (j,want)=>match (ops[j]?).bind (·.dst) with
  |some d=>match bp n env (.tmp d) with
   |some (.bool b)=>b==want
   |_=>false
  |none=>false
theorem FL{ops:Array Oper}{D:List Deferred}{b:Bool}(hd:(ops[j]?).bind (·.dst)=some d) (hv:bp n env (.tmp d)=some (.bool b)):yielded ops (A n env D).tmps j=some b:=by
 simp only[yielded,hd,Option.bind_some,O0]
 simp only[bp] at hv
 by_cases cJ:d <n
 ·rw[show Nat.blt d n=true from by simpa [Nat.blt_eq] using cJ] at hv
  simp only[cond_true] at hv
  rw[if_pos cJ,mL hv]
 rw[show Nat.blt d n=false from by simpa [Nat.blt_eq,←Bool.not_eq_true] using cJ] at hv
 cases hv
theorem B1(ops:Array Oper)(n:Nat)(env:Env)(D:List Deferred)(o:Oper)(h:ay ops n env o.guard=true):Region.wanted o (yielded ops (A n env D).tmps)=true:=by
 unfold Region.wanted
 cases hg:o.guard with
 |none=>rfl
 |some x=>
  rcases x with ⟨j,want⟩
  rw[hg] at h
  simp only[ay] at h
  cases hd:(ops[j]?).bind (·.dst) with
  |none=>rw[hd] at h;cases h
  |some d=>
   rw[hd] at h
   simp only at h
   cases hv:bp n env (.tmp d) with
   |none=>rw[hv] at h;cases h
   |some v=>
    rw[hv] at h
    cases v<;>first
     | (simp only at h;simp only[FL hd hv];simpa using h)
     | (cases h;done)
theorem PM(ops:Array Oper)(n:Nat)(env:Env)(D:List Deferred)(o:Oper)(j:Nat)(want:Bool)(d:Tmp)(b:Bool)(hg:o.guard=some (j,want))(hd:(ops[j]?).bind (·.dst)=some d)
 (hv:bp n env (.tmp d)=some (.bool b)) (hb:(b==want)=false):Region.wanted o (yielded ops (A n env D).tmps)=false:=by
 unfold Region.wanted
 rw[hg]
 simp only[FL hd hv]
 simpa using hb
structure TF(P:Program)(t:TypeId)(d:TypeDesc)(size bytes:Nat)(zero:List Value)(agg:Bool):Prop where
 und:P.underlying t=some d
 info:∃i,P.info? t=some i∧i.size=size∧i.bytes=bytes∧∃z,i.zero=some z∧z.cells=⟨zero⟩∧z=if agg then .agg ⟨zero⟩ else zero.headD undef
 isAgg:agg=(match d with| .struct _| .array _ _=>true|_=>false)
structure FF(P:Program)(f:FuncId):Prop where
 ff:∃fn,P.funcs[f]?=some fn∧(fn.name== "runtime.NumGoroutine")=false∧fn.body.isNone=false
section rules
variable {P:Program} {C:Class} {fn:FuncId} {aA:Option Nat} {Q:Post} {s:St} {n:Nat} {env:Env} {D:List Deferred}
variable {ops:Array Oper} {i:Nat} {rest:List Nat} {dst:Option Tmp} {ty:TypeId} {pos:String} {cY:Array Edge} {g:Option (Nat×Bool)}
theorem bR(hC:∀main T,C main T→Closed P main T){o:Oper}(ho:ops[i]?=some o) (hw:ay ops n env o.guard=true) (hd:∀c,o.op≠ .defer c)
 (h:bO P (execOp (ev n env) o) s (upon C P aA o.dst (A n env D) (fun a' s'=>ab C fn aA ops rest Q a' s') Q) (No (A n env D) Q)):ab C fn aA ops (i::rest) Q (A n env D) s:=by
 rw[←eg n env D] at h
 exact Nm hC ho (B1 _ _ _ _ _ hw) (.inr hd) h
theorem ud(hC:∀main T,C main T→Closed P main T){o:Oper}(ho:ops[i]?=some o) {want:Bool} {b:Bool} (hg:o.guard=some (j,want)) (hd:(ops[j]?).bind (·.dst)=some d)
 (hv:bp n env (.tmp d)=some (.bool b)) (hb:(b==want)=false) (h:ab C fn aA ops rest Q (A n (upd o.dst undef env) D) s):ab C fn aA ops (i::rest) Q (A n env D) s:=by
 refine tX hC ho (PM _ _ _ _ _ _ _ _ _ hg hd hv hb) ?_
 rw[aX];exact h
theorem s8(hC:∀main T,C main T→Closed P main T){o:Oper}{v:Value}(ho:ops[i]?=some o) (hw:ay ops n env o.guard=true) (hd:∀c,o.op≠ .defer c)
 (hv:execOp (ev n env) o=Sem.pure (.value v)) (h:ab C fn aA ops rest Q (A n (upd o.dst v env) D) s):ab C fn aA ops (i::rest) Q (A n env D) s:=by
 refine bR hC ho hw hd ?_
 rw[hv]
 show ab _ _ _ _ _ _ _ _
 rw[aX];exact h
theorem QX(hC:∀main T,C main T→Closed P main T){op:BinOp}{T:TypeId}{k:IntKind}{a b:Int}{v:Value}(ho:ops[i]?=some ⟨dst,.binOp op T x y T',ty,pos,cY,g⟩) (hw:ay ops n env g=true)
 (hx:bp n env x=some (.int k a)) (hy:bp n env y=some (.int k b)) (hv:binOp op T (.int k a) (.int k b)=Sem.pure v) (h:ab C fn aA ops rest Q (A n (upd dst v env) D) s):ab C fn aA ops (i::rest) Q (A n env D) s:=by
 refine s8 hC ho hw (by simp) ?_ h
 simp only[execOp,aF hx,aF hy]
 have he:eqGuard op T x y (.int k a) (.int k b)=Sem.pure ():=by
  unfold eqGuard
  cases op<;>rfl
 rw[he]
 show Sem.bind (Sem.bind (Sem.pure ()) fun _=>binOp op T (.int k a) (.int k b)) _=_
 simp only[Sem.bind,hv]
 rfl
theorem kD(x:Int)(h: -9223372036854775808≤x∧x≤9223372036854775807):IntKind.i64.wrap x=x:=IntWalk.i64_in x h
end rules
section sem
variable {P:Program} {α:Type} {s:St} {Q:α→St→Prop} {E:Halt→St→Prop} {t:TypeId} {d:TypeDesc} {sz bE:Nat} {z:List Value} {ag:Bool}
theorem ae{a:β}{k:β→Sem α}:bO P (pure a >>= k) s Q E=bO P (k a) s Q E:=rfl
theorem aa{γ:Type}{x:Sem β}{f:β→Sem γ}{k:γ→Sem α}:bO P ((x >>= f) >>= k) s Q E=bO P (x >>= fun a=>f a >>= k) s Q E:=by
 have:∀(x:Sem β),((x.bind f).bind k)=x.bind fun a=>(f a).bind k:=by
  intro x
  induction x with
  |pure a=>rfl
  |halt h=>rfl
  |load m a k ih=>simp only[Sem.bind,ih]
  |store m a v k ih=>simp only[Sem.bind,ih]
  |new o k ih=>simp only[Sem.bind,ih]
  |shape r k ih=>simp only[Sem.bind,ih]
  |freeze a n k ih=>simp only[Sem.bind,ih]
  |frozen a k ih=>simp only[Sem.bind,ih]
  |getObj r k ih=>simp only[Sem.bind,ih]
  |setObj r o k ih=>simp only[Sem.bind,ih]
  |choose q k ih=>simp only[Sem.bind,ih]
  |sys c k ih=>simp only[Sem.bind,ih]
  |program k ih=>simp only[Sem.bind,ih]
  |mark m k ih=>simp only[Sem.bind,ih]
 show bO P ((x.bind f).bind k) s Q E=bO P (x.bind fun a=>(f a).bind k) s Q E
 rw[this]
theorem eN{k:Program→Sem α}:bO P (program >>= k) s Q E=bO P (k P) s Q E:=rfl
theorem a8(h:TF P t d sz bE z ag){k:TypeDesc→Sem α}:bO P (underlying t >>= k) s Q E=bO P (k d) s Q E:=by
 simp only[underlying,aa,eN,h.und,ae]
theorem cu(h:TF P t d sz bE z ag){k:Nat→Sem α}:bO P (sizeOf t >>= k) s Q E=bO P (k sz) s Q E:=by
 obtain⟨i,hi,h1,_⟩:=h.info
 simp only[sizeOf,typeInfo,aa,eN,hi,ae,h1]
def Pr(z:List Value)(ag:Bool):Value:=if ag then .agg ⟨z⟩ else z.headD undef
theorem jZ(h:TF P t d sz bE z ag){k:Value→Sem α}:bO P (zeroValue t >>= k) s Q E=bO P (k (Pr z ag)) s Q E:=by
 obtain⟨i,hi,h1,h2,x,hx,hc,he⟩:=h.info
 simp only[zeroValue,typeInfo,aa,eN,hi,ae,hx,he,Pr]
theorem dW(h:TF P t d sz bE z ag):(Pr z ag).cells=⟨z⟩:=by
 obtain⟨i,hi,h1,h2,x,hx,hc,he⟩:=h.info
 rw[←hc,he];rfl
theorem kF(h:TF P t d sz bE z ag){k:Bool→Sem α}:bO P (isAgg t >>= k) s Q E=bO P (k ag) s Q E:=by
 simp only[isAgg,aa,a8 h]
 rw[h.isAgg]
 cases d<;>rfl
theorem oh{o:Obj}{k:Nat→Sem α}:bO P (newObj o >>= k) s Q E=∀b,¬s.knows b→bO P (k b) ⟨s.ro,(b,o)::s.rw⟩ Q E:=rfl
theorem jo{e:TypeId}{cs:Array Value}{k:Addr→Sem α}:bO P (newRow e cs >>= k) s Q E=∀b,¬s.knows b→bO P (k ⟨b,0,none⟩) ⟨s.ro,(b,.cells cs e)::s.rw⟩ Q E:=rfl
theorem sO{e:TypeId}{v:Value}{k:Addr→Sem α}:bO P (newVar e v >>= k) s Q E=∀b,¬s.knows b→bO P (k ⟨b,0,none⟩) ⟨s.ro,(b,.cells v.cells e)::s.rw⟩ Q E:=rfl
theorem dK(b o k:Nat):(⟨b,o,none⟩:Addr).add k=⟨b,o+k,none⟩:=by
 unfold Addr.add;split
 ·rename_i h;subst h;rfl
 rfl
def nth:List Value→Nat→Option Value
 | [],_=>none
 |v::_,0=>some v
 |_::l,o+1=>nth l o
def jY:List Value→Nat→Option (List Value)
 |_,0=>some []
 | [],_+1=>none
 |v::l,n+1=>match jY l n with
  |some r=>some (v::r)
  |none=>none
def sub:List Value→Nat→Nat→Option (List Value)
 |l,0,n=>jY l n
 | [],_+1,_=>none
 |_::l,o+1,n=>sub l o n
def dD:List Value→Nat→List Value→List Value
 | [],_,_=>[]
 |x::l,_,[]=>x::l
 |_::l,0,v::vs=>v::dD l 0 vs
 |x::l,o+1,v::vs=>x::dD l o (v::vs)
theorem r5:∀(l:List Value) (o:Nat),nth l o=l[o]?
 | [],_=>rfl
 |_::_,0=>rfl
 |_::l,o+1=>by simp[nth,r5 l o]
theorem PY:∀(l:List Value) (n:Nat) (vs:List Value),jY l n=some vs→vs.length=n∧∀(j:Nat) (v:Value),vs[j]?=some v→l[j]?=some v
 |l,0,vs,h=>by simp[jY] at h;subst h;simp
 | [],n+1,vs,h=>by simp[jY] at h
 |x::l,n+1,vs,h=>by
  simp only[jY] at h
  cases hr:jY l n with
  |none=>rw[hr] at h;cases h
  |some r=>
   rw[hr] at h;simp only[Option.some.injEq] at h;subst h
   obtain⟨h1,h2⟩:=PY l n r hr
   refine⟨by simp[h1],fun j v hj=>?_⟩
   cases j with
   |zero=>simpa using hj
   |succ j=>simp at hj ⊢;exact h2 j v hj
theorem sub_eq:∀(l:List Value) (o n:Nat) (vs:List Value),sub l o n=some vs→vs.length=n∧∀(j:Nat) (v:Value),vs[j]?=some v→l[o+j]?=some v
 |l,0,n,vs,h=>by
  have h:jY l n=some vs:=by cases l<;>exact h
  obtain⟨h1,h2⟩:=PY l n vs h
  exact⟨h1,fun j v hj=>by rw[Nat.zero_add];exact h2 j v hj⟩
 | [],o+1,n,vs,h=>by simp[sub] at h
 |x::l,o+1,n,vs,h=>by
  obtain⟨h1,h2⟩:=sub_eq l o n vs (by simpa [sub] using h)
  refine⟨h1,fun j v hj=>?_⟩
  rw[show o+1+j=(o+j)+1 from by omega]
  simpa using h2 j v hj
theorem lD:∀(l:List Value) (o:Nat) (vs:List Value),(dD l o vs).length=l.length
 | [],_,_=>rfl
 |_::_,_,[]=>by simp[dD]
 |_::l,0,v::vs=>by simp[dD,lD l 0 vs]
 |x::l,o+1,v::vs=>by simp[dD,lD l o (v::vs)]
theorem lB(l:List Value)(o:Nat):dD l o []=l:=by cases l<;>cases o<;>rfl
theorem Cj:∀(l:List Value) (o:Nat) (v:Value) (vs:List Value),o <l.length→dD l o (v::vs)=dD (l.set o v) (o+1) vs
 |x::l,0,v,vs,_=>by
  cases vs with
  |nil=>simp[dD,lB]
  |cons w ws=>simp[dD]
 |x::l,o+1,v,vs,h=>by
  have:=Cj l o v vs (by simpa using h)
  cases vs with
  |nil=>simp only[dD,this,lB,List.set_cons_succ]
  |cons w ws=>simp only[dD,this,List.set_cons_succ]
def Reads(s:St)(b o:Nat)(v:Value):Prop:=∃l t fz,s.has b (.cells ⟨l⟩ t fz)∧nth l o=some v
def cD(s:St)(b o n:Nat)(vs:List Value):Prop:=∃l t fz,s.has b (.cells ⟨l⟩ t fz)∧sub l o n=some vs
theorem vK{v:Value}(h:Reads s b o v){k:Value→Sem α}(hk:bO P (k v) s Q E):bO P (load ⟨b,o,none⟩ >>= k) s Q E:=by
 obtain⟨l,t,fz,h1,h2⟩:=h
 exact⟨rfl,rfl,⟨l⟩,t,fz,v,h1,by rw[r5] at h2;simpa using h2,hk⟩
theorem Et{c:List Value}{fz:Nat×Nat}(hb:s.has b (.cells ⟨c⟩ t fz))(l:List Value):∀(i:Nat) (acc:Array Value) {k:Array Value→Sem α},(∀(j:Nat) (v:Value),l[j]?=some v→c[o+i+j]?=some v)→bO P (k (acc++l.toArray)) s Q E→
 bO P (loadCellsFrom ⟨b,o,none⟩ i l.length acc >>= k) s Q E:=by
 induction l with
 |nil=>intro i acc k _ hk;simpa [loadCellsFrom,ae] using hk
 |cons v l ih=>
  intro i acc k h2 hk
  simp only[List.length_cons,loadCellsFrom,aa,dK]
  refine vK ⟨c,t,fz,hb,by rw[r5];exact h2 0 v rfl⟩ ?_
  refine ih (i+1) (acc.push v) (fun j x hx=>?_) (by simpa using hk)
  have:=h2 (j+1) x (by simpa using hx)
  rw[show o+(i+1)+j=o+i+(j+1) from by omega];exact this
theorem iP{m:Nat}(h:cD s b o m l){k:Array Value→Sem α}(hk:bO P (k ⟨l⟩) s Q E):bO P (loadCells ⟨b,o,none⟩ m >>= k) s Q E:=by
 obtain⟨c,t,fz,h1,h2⟩:=h
 obtain⟨h3,h4⟩:=sub_eq _ _ _ _ h2
 subst h3
 exact Et h1 l 0 #[] (by simpa using h4) (by simpa using hk)
theorem amx{L:List (Nat×Obj)}{v:Value}{c:List Value}{e:TypeId}(hs:s.rw=L++(b,.cells ⟨c⟩ e (0,0))::R)(ho:o <c.length)(h1:single v=true){k:Unit→Sem α}
 (hk:bO P (k ()) ⟨s.ro,L++(b,.cells ⟨c.set o v⟩ e (0,0))::R⟩ Q E):bO P (store ⟨b,o,none⟩ v >>= k) s Q E:=
 ⟨rfl,rfl,h1,L,⟨c⟩,e,(0,0),R,hs,by simpa using ho,by simp,by
  rw[show (⟨c⟩:Array Value).setIfInBounds o v=⟨c.set o v⟩ from by simp];exact hk⟩
theorem mA{L:List (Nat×Obj)}{e:TypeId}(l:List Value):∀(i:Nat) (c:List Value) (s:St) {k:Unit→Sem α},s.rw=L++(b,.cells ⟨c⟩ e (0,0))::R→o+i+l.length≤c.length→(∀v∈l,single v=true)→
 bO P (k ()) ⟨s.ro,L++(b,.cells ⟨dD c (o+i) l⟩ e (0,0))::R⟩ Q E→bO P (storeCells ⟨b,o,none⟩ l i >>= k) s Q E:=by
 induction l with
 |nil=>intro i c s k hs _ _ hk;rcases s with ⟨ro,Jq⟩;simp only at hs;subst hs;rw[lB] at hk;simpa [storeCells,ae] using hk
 |cons v l ih=>
  intro i c s k hs ho h1 hk
  simp only[List.length_cons] at ho
  simp only[storeCells,aa,dK]
  refine amx hs (by omega) (h1 v (by simp))<|ih (i+1) _ _ rfl (by simp;omega) (fun x hx=>h1 x (by simp[hx])) ?_
  rw[Cj _ _ _ _ (by omega)] at hk
  simpa [Nat.add_assoc] using hk
end sem
section rules
variable {P:Program} {C:Class} {fn:FuncId} {aA:Option Nat} {Q:Post} {s:St} {n:Nat} {env:Env} {D:List Deferred}
variable {ops:Array Oper} {i:Nat} {rest:List Nat} {dst:Option Tmp} {ty:TypeId} {pos:String} {cY:Array Edge} {g:Option (Nat×Bool)}
variable {T:TypeId} {d:TypeDesc} {sz bE:Nat} {z:List Value} {ag:Bool}
theorem ano(hC:∀main T,C main T→Closed P main T)(ho:ops[i]?=some ⟨dst,.alloc T,ty,pos,cY,g⟩) (hw:ay ops n env g=true) (tf:TF P T d sz bE z ag)
 (h:∀b,¬s.knows b→ab C fn aA ops rest Q (A n (upd dst (.pointer (some ⟨b,0,none⟩)) env) D) ⟨s.ro,(b,.cells ⟨z⟩ T)::s.rw⟩):ab C fn aA ops (i::rest) Q (A n env D) s:=by
 refine bR hC ho hw (by simp) ?_
 simp only[execOp,Instr.alloc,aa,jZ tf,sO,ae,dW tf]
 intro b hb
 have:=h b hb
 rw[←aX] at this
 exact this
theorem aDV(hC:∀main T,C main T→Closed P main T){v:Value}(ho:ops[i]?=some ⟨dst,.box T x,ty,pos,cY,g⟩) (hw:ay ops n env g=true) (hx:bp n env x=some (v)) (hl:v.cells=⟨l⟩)
 (h:∀b,¬s.knows b→ab C fn aA ops rest Q (A n (upd dst (.pointer (some ⟨b,0,none⟩)) env) D) ⟨s.ro,(b,.cells ⟨l⟩ T)::s.rw⟩):ab C fn aA ops (i::rest) Q (A n env D) s:=by
 refine bR hC ho hw (by simp) ?_
 simp only[execOp,Instr.box,aa,sO,ae,aF hx,hl]
 intro b hb
 have:=h b hb
 rw[←aX] at this
 exact this
theorem Fi(hC:∀main T,C main T→Closed P main T){v:Value}{L:List (Nat×Obj)}{c:List Value}{e:TypeId}(ho:ops[i]?=some ⟨dst,.store T x y,ty,pos,cY,g⟩) (hw:ay ops n env g=true) (tf:TF P T d sz bE z ag)
 (hx:bp n env x=some (.pointer (some ⟨b,o,none⟩))) (hy:bp n env y=some (v)) (hl:v.cells=⟨l⟩) (hn:l.length=sz) (h1:∀v∈l,single v=true) (hs:s.rw=L++(b,.cells ⟨c⟩ e (0,0))::R) (hb:o+l.length≤c.length)
 (h:ab C fn aA ops rest Q (A n (upd dst undef env) D) ⟨s.ro,L++(b,.cells ⟨dD c o l⟩ e (0,0))::R⟩):ab C fn aA ops (i::rest) Q (A n env D) s:=by
 refine bR hC ho hw (by simp) ?_
 have u9:v.cells.size=sz:=by rw[hl];simpa using hn
 simp only[execOp,Instr.storeAt,aF hx,aF hy,Instr.sureAddr,storeVar,aa,ae,cu tf,u9,ne_eq,not_true,if_false]
 rw[show v.cells.toList=l from by rw[hl]]
 refine mA l 0 c s hs (by simpa using hb) h1 ?_
 rw[←aX] at h
 rw[Nat.add_zero]
 exact h
theorem aDR(hC:∀main T,C main T→Closed P main T){E:TypeId}{a:Option Addr}{len:Nat}(ho:ops[i]?=some ⟨dst,.call ⟨.builtin .len,#[x],#[T]⟩,ty,pos,cY,g⟩) (hw:ay ops n env g=true)
 (tf:TF P T (.slice E) sz bE z ag) (hx:bp n env x=some (.slice a len cap)) (h:ab C fn aA ops rest Q (A n (upd dst (.int .i64 len) env) D) s):ab C fn aA ops (i::rest) Q (A n env D) s:=by
 refine bR hC ho hw (by simp) ?_
 simp only[execOp,resolve,invoke,builtin,Builtin.len_,List.map_toArray,List.map_cons,List.map_nil,aF hx,ae]
 simp only[List.getElem?_toArray,List.getElem?_cons_zero,a8 tf,ae,aa]
 rw[←aX] at h
 exact h
theorem j5{f:FuncId}{Q:Next→St→Prop}(ff:FF P f)(h:Q (.enter f args) s):bO P (callFunc f args) s Q E:=by
 obtain⟨fn,h1,h2,h3⟩:=ff.ff
 simp only[callFunc,eN,h1,h2,h3,Bool.false_eq_true,if_false]
 exact h
theorem uf(hC:∀main T,C main T→Closed P main T){f:FuncId}{fi ca:Array Value}{at_:Array TypeId}{ws:List Value}{R:Ending→St→Prop}(ho:ops[i]?=some ⟨dst,.call ⟨.value x,xs,at_⟩,ty,pos,cY,g⟩) (hw:ay ops n env g=true)
 (hv:bp n env x=some (.func (.func f) fi ca)) (ff:FF P f) (hx:vx n env xs=some vs) (si:fi++⟨vs⟩++ca=⟨ws⟩) (hf:Fn C P f ⟨ws⟩ s R) (h:∀v s',R (.returned v) s'→ab C fn aA ops rest Q (A n (upd dst v env) D) s') (hp:∀ch s',R (.panicked ch) s'→Q (.panic ch) (A n env D) s') (hg:∀s',¬R .outgrown s'):
 ab C fn aA ops (i::rest) Q (A n env D) s:=by
 refine bR hC ho hw (by simp) ?_
 simp only[execOp,resolve,aF hv,Deferred.ofValue,ae,sB hx]
 simp only[invoke,si]
 refine j5 ff<|Fn.mono hf fun e s' hr=>?_
 cases e with
 |returned v=>have:=h v s' hr;rw[←aX] at this;exact this
 |panicked ch=>exact hp ch s' hr
 |outgrown=>exact(hg s' hr).elim
theorem Pz(hC:∀main T,C main T→Closed P main T){c:Operand}{x y:Code}{t:Bool}(hc:bp n env c=some (.bool t))(h1:t=true→Wp C fn aA x Q (A n env D) s)(h2:t=false→Wp C fn aA y Q (A n env D) s):
 Wp C fn aA (.cond c x y) Q (A n env D) s:=
 wp_cond_split hC (by rw[eg];exact aF hc) h1 h2
theorem Xq(hC:∀main T,C main T→Closed P main T){c:Operand}{x y:Code}{t:Bool}(hc:bp n env c=some (.bool t))(ht:t=true)(h1:Wp C fn aA x Q (A n env D) s):Wp C fn aA (.cond c x y) Q (A n env D) s:=
 Pz hC hc (fun _=>h1) (fun h=>by rw[ht] at h;cases h)
theorem Xr(hC:∀main T,C main T→Closed P main T){c:Operand}{x y:Code}{t:Bool}(hc:bp n env c=some (.bool t))(ht:t=false)(h1:Wp C fn aA y Q (A n env D) s):Wp C fn aA (.cond c x y) Q (A n env D) s:=
 Pz hC hc (fun h=>by rw[ht] at h;cases h) (fun _=>h1)
theorem tL{j:Nat}{want:Bool}{d:Tmp}{b:Bool}(hd:(ops[j]?).bind (·.dst)=some d) (hv:bp n env (.tmp d)=some (.bool b)) (hb:b=want):ay ops n env (some (j,want))=true:=by
 simp only[ay,hd,hv,hb,beq_self_eq_true]
def fM:Nat→List Value→Env
 |_,[]=>[]
 |i,v::l=>(i,v)::fM (i+1) l
theorem Sx:∀(l:List Value) (i t:Nat),get (fM i l) t=if i≤t then l.getD (t-i) undef else undef
 | [],i,t=>by simp[fM,get]
 |v::l,i,t=>by
  simp only[fM,cI,Sx l (i+1) t]
  by_cases h:i=t
  ·subst h;simp
  by_cases h2:i≤t
  ·rw[if_neg h,if_pos h2,if_pos (by omega)]
   obtain⟨d,rfl⟩:∃d,t=i+1+d:=⟨t-i-1,by omega⟩
   rw[show i+1+d-i=d+1 from by omega,show i+1+d-(i+1)=d from by omega]
   simp
  rw[if_neg h,if_neg h2,if_neg (by omega)]
theorem kR(args:List Value)(n:Nat)(h:args.length≤n):(⟨(⟨args⟩:Array Value)++Array.replicate (n-args.length) undef,[]⟩:Act)=A n (fM 0 args) []:=by
 simp only[A,Act.mk.injEq,and_true]
 apply Array.ext_getElem?
 intro i
 rw[Array.getElem?_append]
 simp only[Array.getElem?_ofFn,Array.getElem?_replicate,Sx]
 by_cases h1:i <args.length
 ·have h2:i <n:=by omega
  simp[h1,h2]
 by_cases h2:i <n
 ·simp[h1,h2];omega
 simp[h1,h2];omega
theorem SE(hC:∀main T,C main T→Closed P main T){f:FuncId}{fn:Func}{c:Code}{args:List Value}{R:Ending→St→Prop}
 (hf:P.funcs[f]?=some fn) (hb:fn.body=some c) (hn:fn.ntmps=n) (hl:Nat.ble args.length n=true) (h:Wp C f none c (rG P fn R) (A n (fM 0 args) []) s):Fn C P f ⟨args⟩ s R:=by
 refine SF hC hf hb ?_
 subst hn
 have:=kR args fn.ntmps (Nat.le_of_ble_eq_true hl)
 rw[←this] at h
 exact h
theorem pM{t:Tmp}{v:Value}(hv:bp n env (.tmp t)=some v):(A n env D).tmps[t]?.getD undef=v:=by
 have:=aF hv
 rw[←eg n env D] at this
 simpa [Act.eval,Array.getD_eq_getD_getElem?] using this
theorem wW{fn:Func}{R:Ending→St→Prop}{e:Exit}{a:Act}(he:e= .ret∨e= .normal)(hd:a.defers=[])(h:bO P (results fn a.tmps) s (fun v s'=>∃s0,s0.le s'∧R (.returned v) s0) (fun _ _=>False)):rG P fn R e a s:=by
 rcases he with rfl|rfl<;>exact⟨hd,h⟩
end rules
theorem aod{i:TypeInfo}{w:World}(h:(typeInfo t).run P w= .ok i w):P.info? t=some i:=by
 simp only[typeInfo] at h
 change (Sem.program fun p=>Sem.bind (Sem.pure p) fun p=>match p.info? t with|some i=>Sem.pure i|none=>stuck "no such type").run P w=_ at h
 simp only[Sem.run,Sem.bind] at h
 cases hi:P.info? t with
 |none=>rw[hi] at h;simp[stuck,Sem.run] at h
 |some j=>rw[hi] at h;simp[Sem.run] at h;rw[h]
theorem m9{i:TypeInfo}{d:TypeDesc}{bE:Nat}{z:Value}{ag:Bool}(h:∀w,(typeInfo t).run P w= .ok i w)(hu:P.underlying t=some d)
 (h1:i.size=sz)(h2:i.bytes=bE)(h3:i.zero=some z)(h4:z=if ag then .agg ⟨l⟩ else l.headD undef)(h5:z.cells=⟨l⟩)(h6:ag=(match d with| .struct _| .array _ _=>true|_=>false)):TF P t d sz bE l ag:=
 ⟨hu,⟨i,aod (h default),h1,h2,z,h3,h5,h4⟩,h6⟩
def kV(env:Env):Env→Prop
 | []=>True
 | (t,v)::r=>gL env t=some v∧kV env r
theorem kV.mem:∀ {e:Env},kV env e→∀x∈e,get env x.1=x.2
 | (t,v)::r,h,x,hx=>by
  rcases List.mem_cons.1 hx with rfl|hx
  ·exact mL h.1
  exact kV.mem h.2 x hx
theorem fX{D:List Deferred}(h:kV env e)(hd:kV e e):∃rest,A n env D=A n (e++rest) D:=by
 obtain⟨rest,hr⟩:=holds_of n e env D (kV.mem h) (kV.mem hd)
 exact⟨rest,hr⟩
def Ext(s s':St):Prop:=∀b o,s.has b o→s'.has b o
theorem Ext.refl(s:St):Ext s s:=fun _ _ h=>h
theorem Ext.trans(h:Ext P2 aex)(k:Ext aex aew):Ext P2 aew:=fun b o hb=>k b o (h b o hb)
theorem cD.ext{v:List Value}(h:cD s b o n v)(e:Ext s s'):cD s' b o n v:=by
 obtain⟨l,t,fz,h1,h2⟩:=h;exact⟨l,t,fz,e _ _ h1,h2⟩
section rules
variable {P:Program} {C:Class} {fn:FuncId} {aA:Option Nat} {Q:Post} {s:St} {n:Nat} {env:Env} {D:List Deferred}
variable {ops:Array Oper} {i:Nat} {rest:List Nat} {dst:Option Tmp} {ty:TypeId} {pos:String} {cY:Array Edge} {g:Option (Nat×Bool)}
variable {T:TypeId} {d:TypeDesc} {sz bE:Nat} {z:List Value} {ag:Bool}
def Tq(n:Nat)(D:List Deferred)(pP:ι→Env)(sf:ι→St)(Inv:ι→Prop)(μ:ι→Nat)(m:Nat)(a:Act)(s:St):Prop:=
 ∃j rest,Inv j∧μ j <m∧a=A n (pP j++rest) D∧(sf j).le s
theorem anr{pP:ι→Env}{sf:ι→St}{Inv:ι→Prop}{μ:ι→Nat}{m:Nat}(j:ι)(h:Inv j)(hm:μ j <m)(hc:kV env (pP j))(hd:kV (pP j) (pP j))(hs:(sf j).le s):
 Tq n D pP sf Inv μ m (A n env D) s:=by
 obtain⟨r,hr⟩:=fX (n:=n) (D:=D) hc hd
 exact⟨j,r,h,hm,hr,hs⟩
theorem adM(hC:∀main T,C main T→Closed P main T)(pP:ι→Env)(sf:ι→St)(Inv:ι→Prop)(μ:ι→Nat){c:Code}(i0:ι)(h0:Inv i0)(hc:kV env (pP i0))(hd:kV (pP i0) (pP i0))(hs:(sf i0).le s)
 (round:∀i,Inv i→∀rest,Wp C fn aA c (lV (Tq n D pP sf Inv μ (μ i)) Q) (A n (pP i++rest) D) (sf i)):Wp C fn aA (.loop c) Q (A n env D) s:=by
 obtain⟨r0,vu⟩:=fX (n:=n) (D:=D) hc hd
 rw[vu]
 intro main T hT b k cs h1 h2 h3 h4
 have key:∀m i rest s,μ i=m→Inv i→(sf i).le s→T (G (aL b (A n (pP i++rest) D) (.code c:: .inLoop c::k)) cs) s:=by
  intro m
  induction m using Nat.strongRecOn with
  |_ m ih=>
   intro i rest s hm hI hle
   refine(hC main T hT).mono _ _ _ hle ?_
   refine round i hI rest main T hT b (.inLoop c::k) cs h1 h2 h3 fun e a' s' q=>?_
   cases e with
   |normal=>
    obtain⟨j,aeW,zl,cJ,rfl,x3⟩:=q
    exact(hC main T hT).go rfl rfl (g':=G (aL b _ (.code c:: .inLoop c::k)) cs) (fun w=>by simp[G,stepG,stepG.exec,aL]) (ih _ (hm▸cJ) j aeW s' rfl zl x3)
   |exit id=>exact(h4 _ _ _ q).push rfl (by simp)
   |ret=>exact(h4 _ _ _ q).push (x:= .inLoop c) rfl (by simp)
   |panic ch=>exact(h4 _ _ _ q).push (x:= .inLoop c) rfl (by simp)
   |goto l=>exact(h4 _ _ _ q).elim
   |outgrown=>exact(h4 _ _ _ q).elim
 exact(hC main T hT).go rfl rfl (g':=G (aL b (A n (pP i0++r0) D) (.code c:: .inLoop c::k)) cs) (fun w=>by simp[G,stepG,stepG.exec,aL]) (key _ i0 r0 s rfl h0 hs)
end rules
section rules
variable {P:Program} {C:Class} {fn:FuncId} {aA:Option Nat} {Q:Post} {s:St} {n:Nat} {env:Env} {D:List Deferred}
variable {ops:Array Oper} {i:Nat} {rest todo:List Nat} {dst:Option Tmp} {ty:TypeId} {pos:String} {cY:Array Edge} {g:Option (Nat×Bool)}
variable {T:TypeId} {d:TypeDesc} {sz bE:Nat} {z:List Value} {ag:Bool}
theorem Ef{a:Act}(h:Q .normal a s):qJ id Q (.exit id) a s:=by simp only[qJ,if_true];exact h
theorem Ee{TD:Nat}{a:Act}(dI:Nat.beq TD id=false)(h:Q (.exit TD) a s):qJ id Q (.exit TD) a s:=by
 have:¬TD=id:=by intro e;subst e;simp at dI
 simp only[qJ,this,if_false];exact h
theorem AW(hC:∀main T,C main T→Closed P main T){op:BinOp}{T:TypeId}{a b:ByteArray}{v:Value}(ho:ops[i]?=some ⟨dst,.binOp op T x y T',ty,pos,cY,g⟩) (hw:ay ops n env g=true)
 (hx:bp n env x=some (.string a)) (hy:bp n env y=some (.string b)) (hv:Op.stringOp op a b=Sem.pure v) (az:(match op with| .shl| .shr=>false|_=>true)=true) (h:ab C fn aA ops rest Q (A n (upd dst v env) D) s):ab C fn aA ops (i::rest) Q (A n env D) s:=by
 refine s8 hC ho hw (by simp) ?_ h
 simp only[execOp,aF hx,aF hy]
 have he:eqGuard op T x y (.string a) (.string b)=Sem.pure ():=by
  unfold eqGuard
  cases op<;>rfl
 have hb:binOp op T (.string a) (.string b)=Op.stringOp op a b:=by cases op<;>first|rfl|cases az
 rw[he,hb,hv]
 rfl
end rules
def Ea:List Edge→List Nat
 | []=>[]
 |e::l=>bif Region.binds .any e then e.on::Ea l else Ea l
def bu(ops:Array Oper)(i:Nat):List Nat:=
 match ops[i]? with
 |some o=>Ea o.after.toList
 |none=>[]
theorem Cu{e:Edge}:∀ {l:List Edge},e∈l→Region.binds .any e=true→e.on∈Ea l
 |x::l,h,hb=>by
  rcases List.mem_cons.1 h with rfl|h
  ·simp[Ea,hb]
  simp only[Ea]
  cases Region.binds .any x
  ·exact Cu h hb
  exact List.mem_cons_of_mem _ (Cu h hb)
theorem ub:∀ {l:List Edge},j∈Ea l→∃e∈l,Region.binds .any e=true∧e.on=j
 |x::l,h=>by
  simp only[Ea] at h
  cases hb:Region.binds .any x
  ·rw[hb] at h
   obtain⟨e,he,h2⟩:=ub h
   exact⟨e,List.mem_cons_of_mem _ he,h2⟩
  rw[hb] at h
  rcases List.mem_cons.1 h with rfl|h
  ·exact⟨x,by simp,hb,rfl⟩
  obtain⟨e,he,h2⟩:=ub h
  exact⟨e,List.mem_cons_of_mem _ he,h2⟩
def Lin(ops:Array Oper):List Nat→List Nat→Prop
 |X,[]=>∀i,i <ops.size→i∈X
 |X,i::l=>i <ops.size∧i∉X∧(∀j∈bu ops i,j∈X)∧Lin ops (i::X) l
def zt(ops:Array Oper):Bool:=(List.range ops.size).all fun i=>(bu ops i).all fun j=>Nat.blt j i
theorem xy[BEq α][LawfulBEq α]:∀ {l₁ l₂:List α},l₁.Nodup→(∀x∈l₁,x∈l₂)→l₁.length≤l₂.length
 | [],_,_,_=>by simp
 |x::l,l₂,hn,hs=>by
  rw[List.nodup_cons] at hn
  have hx:=hs x (by simp)
  have h1:(l₂.erase x).length=l₂.length-1:=List.length_erase_of_mem hx
  have h2:=xy (l₁:=l) (l₂:=l₂.erase x) hn.2 (fun y hy=>by
   have dI:y≠x:=fun e=>hn.1 (e▸hy)
   exact(List.mem_erase_of_ne dI).2 (hs y (by simp[hy])))
  have h3:=List.length_pos_of_mem hx
  simp only[List.length_cons]
  omega
theorem avo(ops:Array Oper)(hd:zt ops=true):∀(fuel t:Nat) (listed:Array Bool) (acc:List Nat),listed.size=ops.size→acc.Nodup→(∀i∈acc,i <ops.size)→
 (∀i,i <ops.size→(listed.getD i true=true↔i∈acc))→fuel+acc.length=ops.size→∃l,Region.linearise.go .any ops fuel t listed acc=acc.reverse++l∧Lin ops acc l:=by
 intro fuel
 induction fuel with
 |zero=>
  intro t listed acc hs hn cJ hl hf
  refine⟨[],by simp[Region.linearise.go],fun i hi=>?_⟩
  apply Classical.byContradiction
  intro qS
  have h1:(i::acc).Nodup:=List.nodup_cons.2 ⟨qS,hn⟩
  have h2:∀x∈i::acc,x∈List.range ops.size:=by
   intro x hx
   rcases List.mem_cons.1 hx with rfl|hx
   ·exact List.mem_range.2 hi
   exact List.mem_range.2 (cJ x hx)
  have h3:=xy h1 h2
  simp at h3
  omega
 |succ fuel ih=>
  intro t listed acc hs hn cJ hl hf
  simp only[Region.linearise.go]
  generalize hrs:(List.range ops.size).filter (fun i=> !listed.getD i true&&((ops[i]?).map (·.after.all fun e=> !Region.binds .any e||listed.getD e.on false)).getD false)=rs
  have dI:∃i,i <ops.size∧i∉acc:=by
   apply Classical.byContradiction
   intro CW
   have h2:∀x∈List.range ops.size,x∈acc:=by
    intro x hx
    apply Classical.byContradiction
    intro hx2
    exact CW ⟨x,List.mem_range.1 hx,hx2⟩
   have h3:=xy List.nodup_range h2
   simp at h3
   omega
  have iX:∀i,i∈rs↔(i <ops.size∧i∉acc∧∀j∈bu ops i,j∈acc):=by
   intro i
   rw[←hrs,List.mem_filter,List.mem_range]
   constructor
   ·rintro⟨h1,h2⟩
    rw[Bool.and_eq_true] at h2
    refine⟨h1,fun hm=>?_,fun j hj=>?_⟩
    ·have:=(hl i h1).2 hm
     rw[this] at h2;simp at h2
    obtain⟨h3,h4⟩:=h2
    have ho:ops[i]?=some ops[i]:=by simp[h1]
    simp only[bu,ho] at hj
    obtain⟨e,he,hb,rfl⟩:=ub hj
    rw[ho] at h4
    simp only[Option.map_some,Option.getD_some,Array.all_eq_true'] at h4
    have h5:=h4 e (Array.mem_toList_iff.1 he)
    rw[hb] at h5
    simp only[Bool.not_true,Bool.false_or] at h5
    have C1:e.on <ops.size:=by
     apply Classical.byContradiction
     intro hc
     have:listed.getD e.on false=false:=by
      rw[Array.getD_eq_getD_getElem?,Array.getElem?_eq_none (by omega)];rfl
     rw[this] at h5;cases h5
    have:listed.getD e.on true=true:=by
     rw[Array.getD_eq_getD_getElem?] at h5 ⊢
     have:listed[e.on]?=some listed[e.on]:=by simp[hs,C1]
     rw[this] at h5 ⊢;exact h5
    exact(hl _ C1).1 this
   rintro⟨h1,h2,h3⟩
   refine⟨h1,?_⟩
   have hf':listed.getD i true=false:=by
    cases hh:listed.getD i true with
    |false=>rfl
    |true=>exact absurd ((hl i h1).1 hh) h2
   rw[hf']
   have ho:ops[i]?=some ops[i]:=by simp[h1]
   rw[ho]
   simp only[Bool.not_false,Bool.true_and,Option.map_some,Option.getD_some,Array.all_eq_true']
   intro e he
   cases hb:Region.binds .any e with
   |false=>rfl
   |true=>
    have hj:e.on∈acc:=h3 _ (by simp only[bu,ho];exact Cu (Array.mem_toList_iff.2 he) hb)
    have C1:=cJ _ hj
    have h4:=(hl _ C1).2 hj
    rw[Array.getD_eq_getD_getElem?] at h4 ⊢
    have:listed[e.on]?=some listed[e.on]:=by simp[hs,C1]
    rw[this] at h4 ⊢
    simpa using h4
  have hrn:rs≠[]:=by
   obtain⟨i,hi,qS⟩:=dI
   have aw4:∃i,i <ops.size∧i∉acc∧∀j,j <i→j∈acc:=by
    have:∀m i,i≤m→i <ops.size→i∉acc→∃i,i <ops.size∧i∉acc∧∀j,j <i→j∈acc:=by
     intro m
     induction m with
     |zero=>intro i h1 h2 h3;exact⟨i,h2,h3,fun j hj=>by omega⟩
     |succ m ihm=>
      intro i h1 h2 h3
      by_cases hex:∃j,j <i∧j∉acc
      ·obtain⟨j,hj,hnj⟩:=hex
       exact ihm j (by omega) (by omega) hnj
      refine⟨i,h2,h3,fun j hj=>?_⟩
      apply Classical.byContradiction
      intro hc
      exact hex ⟨j,hj,hc⟩
    exact this i i (Nat.le_refl _) hi qS
   obtain⟨i,h1,h2,h3⟩:=aw4
   have:i∈rs:=(iX i).2 ⟨h1,h2,fun j hj=>by
    have:=(List.all_eq_true.1 hd) i (List.mem_range.2 h1)
    have:=(List.all_eq_true.1 this) j hj
    exact h3 j (by simpa [Nat.blt_eq] using this)⟩
   intro he;rw[he] at this;cases this
  have aFq:0 <rs.length:=List.length_pos_iff.2 hrn
  have aRK:=Nat.mod_lt t aFq
  have oE:rs[t % rs.length]?=some rs[t % rs.length]:=by simp[aRK]
  rw[oE]
  simp only
  generalize hi:rs[t % rs.length]=i
  have hir:i∈rs:=by rw[←hi];exact List.getElem_mem _
  obtain⟨h1,h2,h3⟩:=(iX i).1 hir
  obtain⟨l,C2,qT⟩:=ih (t / rs.length) (listed.setIfInBounds i true) (i::acc) (by simpa using hs) (List.nodup_cons.2 ⟨h2,hn⟩)
   (fun j hj=>by rcases List.mem_cons.1 hj with rfl|hj;exact h1;exact cJ j hj)
   (fun j hj=>by
    rw[Array.getD_eq_getD_getElem?,Array.getElem?_setIfInBounds]
    by_cases e:i=j
    ·subst e;simp[hs,h1]
    have:=hl j hj
    rw[Array.getD_eq_getD_getElem?] at this
    simp only[e,if_false,this,List.mem_cons]
    constructor
    ·exact .inr
    rintro(h|h)
    ·exact absurd h.symm e
    exact h)
   (by simp;omega)
  exact⟨i::l,by rw[C2];simp,h1,h2,h3,qT⟩
theorem A3{ops:Array Oper}(hd:zt ops=true)(t:Nat):Lin ops [] (Region.schedule true ops t):=by
 have:Region.schedule true ops t=Region.linearise .any ops t:=by simp[Region.schedule]
 rw[this]
 obtain⟨l,h1,h2⟩:=avo ops hd ops.size t (Array.replicate ops.size false) [] (by simp) (by simp) (by simp) (fun i hi=>by simp[Array.getD_eq_getD_getElem?,hi]) (by simp)
 unfold Region.linearise
 rw[h1];simpa using h2
def aQ(ops:Array Oper)(i:Nat):Option Tmp:=(ops[i]?).bind (·.dst)
def iZ(ops:Array Oper)(base:Env):List (Nat×Value)→Env
 | []=>base
 | (i,v)::r=>upd (aQ ops i) v (iZ ops base r)
def bk:Nat→List Nat→Bool
 |_,[]=>false
 |i,x::l=>Nat.beq i x||bk i l
theorem aJ:∀ {l:List Nat},bk i l=true↔i∈l
 | []=>by simp[bk]
 |x::l=>by
  simp only[bk,Bool.or_eq_true,List.mem_cons,aJ (l:=l),Nat.beq_eq]
def cw(ops:Array Oper)(base:Env)(j:Nat):List (Nat×Value)→Env
 | []=>base.filter fun x=> !((List.range ops.size).any fun i=>aQ ops i==some x.1&& !bk j (bu ops i))
 | (i,v)::r=>bif bk i (bu ops j) then upd (aQ ops i) v (cw ops base j r) else cw ops base j r
def ak:List (Nat×Value)→List Nat
 | []=>[]
 | (i,_)::r=>i::ak r
theorem aO:∀ {l:List (Nat×Value)},i∈ak l↔∃v,(i,v)∈l
 | []=>by simp[ak]
 | (j,w)::r=>by
  simp only[ak,List.mem_cons,aO (l:=r),Prod.mk.injEq]
  constructor
  ·rintro(rfl| ⟨v,hv⟩)
   ·exact⟨w,.inl ⟨rfl,rfl⟩⟩
   exact⟨v,.inr hv⟩
  rintro⟨v,⟨rfl,_⟩|hv⟩
  ·exact .inl rfl
  exact .inr ⟨v,hv⟩
def fE(ops:Array Oper):Bool:=
 (List.range ops.size).all fun i=>(List.range ops.size).all fun j=>Nat.beq i j||(match aQ ops i,aQ ops j with|some a,some b=> !Nat.beq a b|_,_=>true)
section any
variable {P:Program} {C:Class} {fn:FuncId} {aA:Option Nat} {Q:Post} {s:St} {n:Nat} {D:List Deferred} {ops:Array Oper} {base:Env}
def eL(C:Class)(fn:FuncId)(aA:Option Nat)(ops:Array Oper)(n:Nat)(D:List Deferred)(i:Nat)(v:Value)(e:Env)(s:St):Prop:=
 ∀s',Ext s s'→∀rest todo Q,ab C fn aA ops todo Q (A n (upd (aQ ops i) v (e++rest)) D) s'→ab C fn aA ops (i::todo) Q (A n (e++rest) D) s'
structure Fits(ops:Array Oper)(base:Env)(Pl:List (Nat×Value))(X:List Nat)(env:Env):Prop where
 done:∀i v,(i,v)∈Pl→i∈X→∀d,aQ ops i=some d→get env d=v
 old:∀t,(∀i∈X,aQ ops i≠some t)→get env t=get base t
 cl:∀i∈X,i <ops.size∧∀j∈bu ops i,j∈X
def tG(C:Class)(fn:FuncId)(aA:Option Nat)(ops:Array Oper)(n:Nat)(D:List Deferred)(base:Env)(Pl:List (Nat×Value))(Sl:List (Nat×Value))(Q:Post)(s:St):Prop:=
 (∀i v,(i,v)∈Sl→eL C fn aA ops n D i v (cw ops base i Pl) s)→∀X l env,(∀i∈X,i∈ak Pl)→(∀i v,(i,v)∈Pl→i∉X→(i,v)∈Sl)→Lin ops X l→Fits ops base Pl X env→
  ab C fn aA ops l Q (A n env D) s
def fF(l k:List Nat):Bool:=l.all fun j=>bk j k
theorem bL{l k:List Nat}:fF l k=true↔∀j∈l,j∈k:=by
 simp only[fF,List.all_eq_true,aJ]
theorem wY(h:fE ops=true)(hi:i <ops.size)(hj:j <ops.size)(dI:i≠j){a b:Tmp}(ha:aQ ops i=some a)(hb:aQ ops j=some b):a≠b:=by
 have h1:=(List.all_eq_true.1 h) i (List.mem_range.2 hi)
 have h2:=(List.all_eq_true.1 h1) j (List.mem_range.2 hj)
 rw[ha,hb] at h2
 have:Nat.beq i j=false:=by
  cases hb:Nat.beq i j with
  |false=>rfl
  |true=>exact absurd (Nat.eq_of_beq_eq_true hb) dI
 rw[this] at h2
 intro e;subst e
 simp at h2
theorem zr(h:aQ ops i=some d):i <ops.size:=by
 apply Classical.byContradiction
 intro hc
 simp[aQ,Array.getElem?_eq_none (show ops.size≤i by omega)] at h
theorem wI(hf:Fits ops base Pl X env)(j0:Nat)(hds:∀j∈bu ops j0,j∈X)(hj0:j0∉X):∃rest,A n env D=A n (cw ops base j0 Pl++rest) D:=by
 have key:∀Pl',(∀x∈Pl',x∈Pl)→∀t,((cw ops base j0 Pl').any fun x=>x.1==t)=true→get (cw ops base j0 Pl') t=get env t:=by
  intro Pl'
  induction Pl' with
  |nil=>
   intro _ t ht
   simp only[cw] at ht ⊢
   obtain⟨x,hx,hk⟩:=List.any_eq_true.1 ht
   have hk:x.1=t:=by simpa using hk
   rw[List.mem_filter] at hx
   have CW:∀i,i <ops.size→aQ ops i=some t→bk j0 (bu ops i)=true:=by
    intro i hi hd
    have h2:=hx.2
    rw[Bool.not_eq_true'] at h2
    have h3:=(List.any_eq_false.1 h2) i (List.mem_range.2 hi)
    rw[hd,hk] at h3
    simpa using h3
   rw[hf.old t fun i hi hd=>hj0 ((hf.cl i hi).2 j0 (aJ.1 (CW i (hf.cl i hi).1 hd)))]
   have vv:∀(b:Env) (p:Nat×Value→Bool),(∀v,p (t,v)=true)→get (b.filter p) t=get b t:=by
    intro b p hp
    induction b with
    |nil=>rfl
    |cons y b ih=>
     rcases y with ⟨k,v⟩
     by_cases e:k=t
     ·subst e;simp[List.filter_cons,hp,cI]
     simp only[List.filter_cons]
     split
     ·simp only[cI,e,if_false,ih]
     simp only[cI,e,if_false,ih]
   refine vv base _ fun v=>?_
   simp only[Bool.not_eq_true',List.any_eq_false,List.mem_range]
   intro i hi
   have:=CW i hi
   simp only[Bool.and_eq_true,beq_iff_eq,Bool.not_eq_true',not_and,Bool.not_eq_false]
   exact this
  |cons x Pl' ih=>
   intro fA t ht
   rcases x with ⟨i,v⟩
   simp only[cw] at ht ⊢
   cases hm:bk i (bu ops j0) with
   |false=>rw[hm] at ht;simp only[cond_false] at ht ⊢;exact ih (fun x hx=>fA x (by simp[hx])) t ht
   |true=>
    rw[hm] at ht
    simp only[cond_true] at ht ⊢
    cases hd:aQ ops i with
    |none=>rw[hd] at ht;simp only[upd] at ht ⊢;exact ih (fun x hx=>fA x (by simp[hx])) t ht
    |some d=>
     rw[hd] at ht
     simp only[upd] at ht ⊢
     rw[cI]
     by_cases e:d=t
     ·subst e
      rw[if_pos rfl]
      exact(hf.done i v (fA _ (by simp)) (hds i (aJ.1 hm)) d hd).symm
     rw[if_neg e]
     refine ih (fun x hx=>fA x (by simp[hx])) t ?_
     simpa [e] using ht
 refine⟨env,?_⟩
 simp only[A,Act.mk.injEq,and_true]
 congr 1
 funext i
 rw[get_append]
 split
 ·rename_i ha
  exact(key Pl (fun _ h=>h) _ ha).symm
 rfl
theorem tx(mI:fE ops=true)(hf:Fits ops base Pl X env){v:Value}(hi:i <ops.size)(hx:i∉X)(hdp:∀j∈bu ops i,j∈X)(hv:∀w,(i,w)∈Pl→w=v):
 Fits ops base Pl (i::X) (upd (aQ ops i) v env):=by
 refine⟨fun j w hj hjx d hd=>?_,fun t ht=>?_,fun j hj=>?_⟩
 ·rcases List.mem_cons.1 hjx with rfl|hjx
  ·rw[hd];simp only[upd,cI,if_true];exact(hv w hj).symm
  cases hdi:aQ ops i with
  |none=>simp only[upd];exact hf.done j w hj hjx d hd
  |some d'=>
   have dI:d'≠d:=wY mI hi (zr hd) (by intro e;subst e;exact hx hjx) hdi hd
   simp only[upd,cI,if_neg dI]
   exact hf.done j w hj hjx d hd
 ·cases hdi:aQ ops i with
  |none=>simp only[upd];exact hf.old t fun j hj=>ht j (List.mem_cons_of_mem _ hj)
  |some d'=>
   have dI:d'≠t:=by intro e;subst e;exact ht i List.mem_cons_self hdi
   simp only[upd,cI,if_neg dI]
   exact hf.old t fun j hj=>ht j (List.mem_cons_of_mem _ hj)
 rcases List.mem_cons.1 hj with rfl|hj
 ·exact⟨hi,fun k hk=>List.mem_cons_of_mem _ (hdp k hk)⟩
 exact⟨(hf.cl j hj).1,fun k hk=>List.mem_cons_of_mem _ ((hf.cl j hj).2 k hk)⟩
theorem Dc(hf:Fits ops base Pl X env){v:Value}(hx:i∉X):Fits ops base ((i,v)::Pl) X env:=
 ⟨fun j w hj hjx d hd=>by
  rcases List.mem_cons.1 hj with hj|hj
  ·cases hj;exact absurd hjx hx
  exact hf.done j w hj hjx d hd,hf.old,hf.cl⟩
theorem Dz{lf:Env}(h:A n env D=A n lf D)(d:Option Tmp)(v:Value):A n (upd d v env) D=A n (upd d v lf) D:=by
 rw[←aX,←aX,h]
theorem cT{v:Value}(h:i∉bu ops j):cw ops base j ((i,v)::Pl)=cw ops base j Pl:=by
 simp only[cw]
 cases hm:bk i (bu ops j) with
 |false=>rfl
 |true=>exact absurd (aJ.1 hm) h
theorem eL.ext{v:Value}(h:eL C fn aA ops n D i v e s)(he:Ext s s'):eL C fn aA ops n D i v e s':=
 fun s'' h2=>h s'' (he.trans h2)
def oW(ops:Array Oper)(ks:List Nat):Bool:=ks.all fun i=>fF (bu ops i) ks
def nodupB:List Nat→Bool
 | []=>true
 |i::l=> !bk i l&&nodupB l
theorem IP{Sl:List (Nat×Value)}(i:Nat){v:Value}(hn:bk i (ak Pl)=false)(hk:fF (bu ops i) (ak Pl)=true)(jJ:oW ops (ak Pl)=true)(hs:fF (ak Sl) (ak Pl)=true)
 (bW:eL C fn aA ops n D i v (cw ops base i Pl) s)(h:tG C fn aA ops n D base ((i,v)::Pl) ((i,v)::Sl) Q s):tG C fn aA ops n D base Pl Sl Q s:=by
 have qS:i∉ak Pl:=fun hm=>by rw[aJ.2 hm] at hn;cases hn
 intro hSl X l env hX hl pd hf
 have BT:i∉X:=fun hm=>qS (hX i hm)
 have NY:∀j,j∈ak Pl→i∉bu ops j:=by
  intro j hj hm
  have:=(List.all_eq_true.1 jJ) j hj
  exact qS (bL.1 this i hm)
 refine h (fun j w hj=>?_) X l env (fun j hj=>List.mem_cons_of_mem _ (hX j hj)) (fun j w hj hjx=>?_) pd (Dc hf BT)
 ·rcases List.mem_cons.1 hj with hj|hj
  ·cases hj
   rw[cT (fun hm=>qS (bL.1 hk i hm))];exact bW
  rw[cT (NY j (bL.1 hs j (aO.2 ⟨w,hj⟩)))];exact hSl j w hj
 rcases List.mem_cons.1 hj with hj|hj
 ·cases hj;simp
 exact List.mem_cons_of_mem _ (hl j w hj hjx)
def pending(ops:Array Oper)(i:Nat)(Sl:List (Nat×Value)):List (Nat×Value):=Sl.filter fun x=> !bk x.1 (bu ops i)
theorem akT(hC:∀main T,C main T→Closed P main T){Sl:List (Nat×Value)}(mI:fE ops=true)(mb:nodupB (ak Pl)=true)(di:fF (List.range ops.size) (ak Pl)=true)(cJ:fF (ak Pl) (List.range ops.size)=true)(h:Q .normal (A n (iZ ops base Pl) D) s):tG C fn aA ops n D base Pl Sl Q s:=by
 intro hSl X l
 have Ho:∀(l:List (Nat×Value)),nodupB (ak l)=true→∀j v w,(j,v)∈l→(j,w)∈l→w=v:=by
  intro l
  induction l with
  |nil=>intro _ j v w h;cases h
  |cons x l ih=>
   rcases x with ⟨k,u⟩
   intro hb j v w h1 h2
   simp only[ak,nodupB,Bool.and_eq_true,Bool.not_eq_true'] at hb
   have hk:k∉ak l:=fun hm=>by rw[aJ.2 hm] at hb;cases hb.1
   rcases List.mem_cons.1 h1 with h1|h1<;>rcases List.mem_cons.1 h2 with h2|h2
   ·cases h1;cases h2;rfl
   ·cases h1;exact absurd (aO.2 ⟨_,h2⟩) hk
   ·cases h2;exact absurd (aO.2 ⟨_,h1⟩) hk
   exact ih hb.2 j v w h1 h2
 have LV:∀(l:List (Nat×Value)),(∀j∈ak l,j <ops.size)→nodupB (ak l)=true→(∀i v,(i,v)∈l→∀d,aQ ops i=some d→get (iZ ops base l) d=v)∧(∀t,(∀i∈ak l,aQ ops i≠some t)→get (iZ ops base l) t=get base t):=by
  intro l
  induction l with
  |nil=>intro _ _;exact⟨fun _ _ h=>((by cases h)),fun _ _=>rfl⟩
  |cons x l ih=>
   rcases x with ⟨k,u⟩
   intro cJ hb
   simp only[ak,nodupB,Bool.and_eq_true,Bool.not_eq_true'] at hb
   have hk:k∉ak l:=fun hm=>by rw[aJ.2 hm] at hb;cases hb.1
   obtain⟨i1,i2⟩:=ih (fun j hj=>cJ j (by simp[ak,hj])) hb.2
   have hk1:k <ops.size:=cJ k (by simp[ak])
   refine⟨fun i v hi d hd=>?_,fun t ht=>?_⟩
   ·simp only[iZ]
    rcases List.mem_cons.1 hi with hi|hi
    ·cases hi;rw[hd];simp only[upd,cI,if_true]
    have dI:k≠i:=fun e=>hk (e▸aO.2 ⟨_,hi⟩)
    cases hdk:aQ ops k with
    |none=>simp only[upd];exact i1 i v hi d hd
    |some d'=>simp only[upd,cI,if_neg (wY mI hk1 (zr hd) dI hdk hd)];exact i1 i v hi d hd
   simp only[iZ]
   cases hdk:aQ ops k with
   |none=>simp only[upd];exact i2 t fun i hi=>ht i (by simp[ak,hi])
   |some d'=>
    have dI:d'≠t:=fun e=>ht k (by simp[ak]) (by rw[hdk,e])
    simp only[upd,cI,if_neg dI];exact i2 t fun i hi=>ht i (by simp[ak,hi])
 obtain⟨a1,a2⟩:=LV Pl (fun j hj=>List.mem_range.1 (bL.1 cJ j hj)) mb
 induction l generalizing X with
 |nil=>
  intro env hX hl pd hf
  refine tY hC ?_
  have:A n env D=A n (iZ ops base Pl) D:=by
   simp only[A,Act.mk.injEq,and_true]
   congr 1
   funext i
   by_cases he:∃j,j <ops.size∧aQ ops j=some i.val
   ·obtain⟨j,hj,hd⟩:=he
    obtain⟨v,hv⟩:=aO.1 (bL.1 di j (List.mem_range.2 hj))
    rw[hf.done j v hv (pd j hj) _ hd,a1 j v hv _ hd]
   rw[hf.old _ (fun j hj hd=>he ⟨j,(hf.cl j hj).1,hd⟩),a2 _ (fun j hj hd=>he ⟨j,List.mem_range.1 (bL.1 cJ j hj),hd⟩)]
  rw[this];exact h
 |cons j l ih=>
  intro env hX hl pd hf
  obtain⟨h1,h2,h3,h4⟩:=pd
  obtain⟨w,hw⟩:=aO.1 (bL.1 di j (List.mem_range.2 h1))
  obtain⟨rest,hr⟩:=wI (n:=n) (D:=D) hf j h3 h2
  rw[hr]
  refine hSl j w (hl j w hw h2) s (Ext.refl s) rest l Q ?_
  rw[←Dz hr]
  refine ih (j::X) _ (fun k hk=>?_) (fun k u hk BS=>hl k u hk (fun h=>BS (List.mem_cons_of_mem _ h))) h4 (tx mI hf h1 h2 h3 (fun u hu=>Ho Pl mb j w u hw hu))
  rcases List.mem_cons.1 hk with rfl|hk
  ·exact aO.2 ⟨w,hw⟩
  exact hX k hk
def QA:List (Nat×Value)→Nat→Option Value
 | [],_=>none
 | (i,v)::r,j=>bif Nat.beq i j then some v else QA r j
theorem acV(hC:∀main T,C main T→Closed P main T)(hm:P.follows .mixedOrders=true)(hd:zt ops=true)(h:tG C fn aA ops n D env [] [] Q s):Wp C fn aA (.region id ops true) Q (A n env D) s:=by
 refine wp_region_draw (P:=P) hC fun t=>?_
 rw[hm]
 exact h (fun _ _ h=>((by cases h))) [] _ env (fun _ h=>((by cases h))) (fun _ _ h=>((by cases h))) (A3 hd t) ⟨fun _ _ h=>((by cases h)),fun _ _=>rfl,fun _ h=>((by cases h))⟩
end any
def oI(place:Nat→Option (Nat×Nat)):List Value→List (Nat×List Value)→Option (List Value)
 |cs,[]=>some cs
 |cs,(i,vs)::r=>match place i with
  |some (off,size)=>bif Nat.beq vs.length size&&Nat.ble (off+vs.length) cs.length then oI place (dD cs off vs) r else none
  |none=>none
theorem Mb(off:Nat):∀(vs:List Value) (k:Nat) (cs:Array Value),off+k+vs.length≤cs.size→
 (vs.zipIdx k).foldl (fun(cs:Array Value) (x:Value×Nat)=>cs.setIfInBounds (off+x.2) x.1) cs=⟨dD cs.toList (off+k) vs⟩
 | [],k,cs,_=>by simp[lB]
 |v::vs,k,cs,h=>by
  simp only[List.length_cons] at h
  simp only[List.zipIdx_cons,List.foldl_cons]
  rw[Mb off vs (k+1) _ (by simp;omega),Cj _ _ _ _ (by simp;omega)]
  simp[Nat.add_assoc]
theorem fill_eq(place:Nat→Option (Nat×Nat)):∀(parts:List (Nat×Value)) (cs l:List Value),oI place cs (parts.map fun x=>(x.1,x.2.cells.toList))=some l→Instr.fill place ⟨cs⟩ parts=some ⟨l⟩
 | [],cs,l,h=>by simp[oI] at h;subst h;rfl
 | (i,v)::r,cs,l,h=>by
  simp only[List.map_cons,oI] at h
  simp only[Instr.fill]
  cases hp:place i with
  |none=>rw[hp] at h;cases h
  |some x=>
   rcases x with ⟨off,size⟩
   rw[hp] at h
   simp only at h ⊢
   cases hb:(Nat.beq v.cells.toList.length size&&Nat.ble (off+v.cells.toList.length) cs.length) with
   |false=>rw[hb] at h;cases h
   |true=>
    rw[hb] at h
    simp only[cond_true] at h
    rw[Bool.and_eq_true] at hb
    have h1:v.cells.size=size:=by simpa using Nat.eq_of_beq_eq_true hb.1
    have h2:off+v.cells.size≤cs.length:=by simpa using Nat.le_of_ble_eq_true hb.2
    rw[if_neg (by simp[h1];omega)]
    rw[show v.cells.zipIdx.foldl (fun(cs:Array Value) (x:Value×Nat)=>cs.setIfInBounds (off+x.2) x.1) (⟨cs⟩:Array Value)=⟨dD cs off v.cells.toList⟩ from by
     rw[←Array.foldl_toList,Array.toList_zipIdx]
     have:=Mb off v.cells.toList 0 ⟨cs⟩ (by simpa using h2)
     simpa using this]
    exact fill_eq place r _ l h
def Pm(n:Nat)(env:Env):List (Nat×Operand)→Option (List (Nat×Value))
 | []=>some []
 | (i,x)::l=>match bp n env x with
  |some v=>match Pm n env l with
   |some r=>some ((i,v)::r)
   |none=>none
  |none=>none
theorem aj2:∀ {xs:List (Nat×Operand)} {l:List (Nat×Value)},Pm n env xs=some l→xs.map (fun x=>(x.1,ev n env x.2))=l
 | [],l,h=>by simpa [Pm] using h
 | (i,x)::xs,l,h=>by
  simp only[Pm] at h
  cases hx:bp n env x with
  |none=>rw[hx] at h;cases h
  |some v=>
   rw[hx] at h
   cases hr:Pm n env xs with
   |none=>rw[hr] at h;cases h
   |some r=>rw[hr] at h;simp only[Option.some.injEq] at h;subst h;simp[aF hx,aj2 hr]
def dR:Value→List Value
 | .agg ⟨l⟩=>l
 |v=>[v]
theorem mg(v:Value):dR v=v.cells.toList:=by cases v<;>rfl
def tW:List (Nat×Value)→List (Nat×List Value)
 | []=>[]
 | (i,v)::r=>(i,dR v)::tW r
theorem kL:∀(l:List (Nat×Value)),tW l=l.map fun x=>(x.1,x.2.cells.toList)
 | []=>rfl
 | (i,v)::r=>by simp[tW,mg,kL r]
def cX(z:List Value):Nat→List Value
 |0=>[]
 |n+1=>z++cX z n
theorem iT(z:List Value):∀n,(cX z n).length=n*z.length
 |0=>by simp[cX]
 |n+1=>by simp[cX,iT z n,Nat.add_mul,Nat.add_comm]
theorem FJ(z:List Value)(hz:0 <z.length):∀n i,i <n*z.length→(cX z n)[i]?=z[i % z.length]?
 |0,i,h=>by simp at h
 |n+1,i,h=>by
  simp only[cX,List.getElem?_append]
  split
  ·rename_i hl;rw[Nat.mod_eq_of_lt hl]
  rename_i hl
  rw[FJ z hz n (i-z.length) (by rw[Nat.add_mul,Nat.one_mul] at h;omega)]
  rw[show i % z.length=(i-z.length) % z.length from by rw[Nat.mod_eq_sub_mod (by omega)]]
theorem sI(z:List Value)(n:Nat):((Array.range (n*z.length)).map fun i=>(⟨z⟩:Array Value)[i % (⟨z⟩:Array Value).size]!)=⟨cX z n⟩:=by
 apply Array.ext_getElem?
 intro i
 simp only[Array.getElem?_map,Array.getElem?_range]
 by_cases h:i <n*z.length
 ·have hz:0 <z.length:=by
   rcases Nat.eq_zero_or_pos z.length with h0|h0
   ·rw[h0] at h;simp at h
   exact h0
  have hm:i % z.length <z.length:=Nat.mod_lt _ hz
  simp only[h,if_true,Option.map_some]
  have:=FJ z hz n i h
  simp only[List.size_toArray,List.getElem?_toArray]
  rw[this]
  simp[hm,getElem!_pos]
 simp only[h,if_false,Option.map_none]
 simp[iT,List.getElem?_eq_none (show (cX z n).length≤i by rw[iT];omega)]
inductive Dv(P:Program):List Field→List (Nat×Nat)→Prop
 |nil:Dv P [] []
 |cons {f:Field} {d:TypeDesc} {sz bE:Nat} {z:List Value} {ag:Bool} {fs:List Field} {ps:List (Nat×Nat)} (h:TF P f.type d sz bE z ag) (t:Dv P fs ps):Dv P (f::fs) ((f.offset,sz)::ps)
theorem n6{Q:α→St→Prop}:∀ {fs:List Field} {ps:List (Nat×Nat)} (_:Dv P fs ps) {k:List (Nat×Nat)→Sem α},
 bO P (fs.mapM (fun f=>do pure (f.offset,←sizeOf f.type)) >>= k) s Q E=bO P (k ps) s Q E
 |_,_,.nil,k=>by simp only[List.mapM_nil,ae]
 |_,_,.cons h t,k=>by
  simp only[List.mapM_cons,aa,cu h,ae]
  exact n6 t
section rules
variable {P:Program} {C:Class} {fn:FuncId} {aA:Option Nat} {Q:Post} {s:St} {n:Nat} {env:Env} {D:List Deferred}
variable {ops:Array Oper} {i:Nat} {rest:List Nat} {dst:Option Tmp} {ty:TypeId} {pos:String} {cY:Array Edge} {g:Option (Nat×Bool)}
variable {T:TypeId} {d:TypeDesc} {sz bE:Nat} {z:List Value} {ag:Bool}
theorem KR(ps:Array (Nat×Operand)){l:List (Nat×Value)}(h:Pm n env ps.toList=some l):(ps.map fun x=>(x.1,ev n env x.2)).toList=l:=by
 rw[Array.toList_map];exact aj2 h
theorem Np(hC:∀main T,C main T→Closed P main T){E:TypeId}{m:Nat}{ps:Array (Nat×Operand)}{pv:List (Nat×Value)}{d':TypeDesc}(ho:ops[i]?=some ⟨dst,.buildSlice T m ps,ty,pos,cY,g⟩) (hw:ay ops n env g=true)
 (tf:TF P T (.slice E) sz bE z ag) (jO:TF P E d' ir vi z' xa) (hz:Nat.beq z'.length ir=true) (hp:Pm n env ps.toList=some pv) (hm:Nat.ble (m*ir) 16777216=true) (hf:oI (fun i=>some (i*ir,ir)) (cX z' m) (tW pv)=some l)
 (h:∀b,¬s.knows b→ab C fn aA ops rest Q (A n (upd dst (.slice (some ⟨b,0,none⟩) m m) env) D) ⟨s.ro,(b,.cells ⟨l⟩ E)::s.rw⟩):ab C fn aA ops (i::rest) Q (A n env D) s:=by
 refine bR hC ho hw (by simp) ?_
 have hle:¬m*ir>2^24:=by have:=Nat.le_of_ble_eq_true hm;omega
 have EI:z'.length=ir:=Nat.eq_of_beq_eq_true hz
 rw[kL] at hf
 have h1:=fill_eq _ _ _ _ hf
 have h2:=KR ps hp
 simp only[execOp,Instr.buildSlice,aa,a8 tf,cu jO,hle,if_false]
 by_cases h0:m*ir=0
 ·rw[if_pos h0]
  have JH:((Array.range (m*ir)).map fun i=>(#[]:Array Value)[i % (#[]:Array Value).size]!)=⟨cX z' m⟩:=by
   rw[h0]
   have:cX z' m=[]:=List.eq_nil_of_length_eq_zero (by rw[iT,EI,h0])
   rw[this];simp
  simp only[aa,ae]
  rw[JH,h2,h1]
  simp only[aa,jo,ae]
  intro b hb
  have:=h b hb
  rw[←aX] at this
  exact this
 rw[if_neg h0]
 have JH:((Array.range (m*ir)).map fun i=>(⟨z'⟩:Array Value)[i % (⟨z'⟩:Array Value).size]!)=⟨cX z' m⟩:=by rw[←EI];exact sI z' m
 simp only[aa,jZ jO,ae,dW jO,JH,h2,h1,jo]
 intro b hb
 have:=h b hb
 rw[←aX] at this
 exact this
end rules
def Sl(s:St)(v:Value)(sz:Nat)(enc:α→List Value)(ps:List α):Prop:=
 ∃a b o cap,v= .slice a ps.length cap∧(∀k,k <ps.length→a=some ⟨b,o,none⟩)∧∀i p,ps[i]?=some p→cD s b (o+i*sz) sz (enc p)
theorem Sl.nil(s:St)(sz:Nat)(enc:α→List Value)(a:Option Addr)(cap:Nat):Sl s (.slice a 0 cap) sz enc []:=
 ⟨a,0,0,cap,rfl,fun k h=>absurd h (Nat.not_lt_zero k),fun i p hp=>by simp at hp⟩
theorem cD.cell{m:Nat}(h:cD s b o m vs)(j:Nat)(v:Value)(hj:vs[j]?=some v):Reads s b (o+j) v:=by
 obtain⟨l,t,fz,h1,h2⟩:=h
 exact⟨l,t,fz,h1,by rw[r5];exact(sub_eq _ _ _ _ h2).2 j v hj⟩
theorem cD.len{m:Nat}(h:cD s b o m vs):vs.length=m:=by
 obtain⟨l,t,fz,h1,h2⟩:=h
 exact(sub_eq _ _ _ _ h2).1
section sem
variable {P:Program} {α:Type} {s:St} {Q:α→St→Prop} {E:Halt→St→Prop}
theorem Ue(l:List Value):∀(i:Nat) (acc:Array Value) {k:Array Value→Sem α},(∀(j:Nat) (v:Value),l[j]?=some v→Reads s b (o+i+j) v)→bO P (k (acc++l.toArray)) s Q E→
 bO P (loadCellsFrom ⟨b,o,none⟩ i l.length acc >>= k) s Q E:=by
 induction l with
 |nil=>intro i acc k _ hk;simpa [loadCellsFrom,ae] using hk
 |cons v l ih=>
  intro i acc k h2 hk
  simp only[List.length_cons,loadCellsFrom,aa,dK]
  refine vK (h2 0 v rfl)<|ih (i+1) (acc.push v) (fun j x hx=>?_) (by simpa using hk)
  have:=h2 (j+1) x (by simpa using hx)
  rw[show o+(i+1)+j=o+i+(j+1) from by omega];exact this
theorem Ud{m:Nat}(hm:l.length=m)(h:∀(j:Nat) (v:Value),l[j]?=some v→Reads s b (o+j) v) {k:Array Value→Sem α} (hk:bO P (k ⟨l⟩) s Q E):bO P (loadCells ⟨b,o,none⟩ m >>= k) s Q E:=by
 subst hm
 exact Ue l 0 #[] (by simpa using h) (by simpa using hk)
end sem
theorem SH{enc:α→List Value}:∀(ps:List α),(∀p∈ps,(enc p).length=sz)→∀(j:Nat) (v:Value),((ps.map enc).flatten)[j]?=some v→∃i p r,ps[i]?=some p∧j=i*sz+r∧(enc p)[r]?=some v
 | [],_,j,v,h=>by simp at h
 |p::ps,hl,j,v,h=>by
  simp only[List.map_cons,List.flatten_cons,List.getElem?_append] at h
  have hp:=hl p (by simp)
  split at h
  ·exact⟨0,p,j,rfl,by simp,h⟩
  rename_i hj
  obtain⟨i,q,r,h1,h2,h3⟩:=SH ps (fun x hx=>hl x (by simp[hx])) _ v h
  refine⟨i+1,q,r,by simpa using h1,?_,h3⟩
  rw[Nat.add_mul,Nat.one_mul];omega
theorem ku{enc:α→List Value}:∀(ps:List α),(∀p∈ps,(enc p).length=sz)→((ps.map enc).flatten).length=ps.length*sz
 | [],_=>by simp
 |p::ps,hl=>by
  have:=ku ps (fun x hx=>hl x (by simp[hx]))
  simp only[List.map_cons,List.flatten_cons,List.length_append,this,hl p (by simp),List.length_cons,Nat.add_mul,Nat.one_mul];omega
theorem Sl.flat{enc:α→List Value}{ps:List α}(h:∀(i:Nat) (p:α),ps[i]?=some p→cD s b (o+i*sz) sz (enc p)):
 (∀p∈ps,(enc p).length=sz)∧∀(j:Nat) (v:Value),((ps.map enc).flatten)[j]?=some v→Reads s b (o+j) v:=by
 have hl:∀p∈ps,(enc p).length=sz:=by
  intro p hp
  obtain⟨i,hi⟩:=List.mem_iff_getElem?.1 hp
  exact(h i p hi).len
 refine⟨hl,fun j v hv=>?_⟩
 obtain⟨i,p,r,h1,rfl,h3⟩:=SH ps hl j v hv
 have:=(h i p h1).cell r v h3
 rw[show o+(i*sz+r)=o+i*sz+r from by omega];exact this
def aw(v:Value)(sz:Nat)(T:TypeId)(enc:α→List Value)(ps:List α)(L:List (Nat×Obj)):Prop:=
 (v= .slice none 0 0∧ps=[]∧L=[])∨
 ∃b l cap,v= .slice (some ⟨b,0,none⟩) ps.length cap∧L=[(b,.cells ⟨l⟩ T (0,0))]∧l.length=cap*sz∧ps.length≤cap∧(∀p∈ps,(enc p).length=sz)∧l.take (ps.length*sz)=(ps.map enc).flatten
theorem aw.nil(sz:Nat)(T:TypeId)(enc:α→List Value):aw (.slice none 0 0) sz T enc [] []:= .inl ⟨rfl,rfl,rfl⟩
theorem iQ{m:Nat}(h:o+m≤l.length):sub l o m=some ((l.drop o).take m):=by
 have ht:∀(m:Nat) (l:List Value),m≤l.length→jY l m=some (l.take m):=by
  intro m
  induction m with
  |zero=>intro l _;cases l<;>simp[jY]
  |succ m ih=>
   intro l hl
   cases l with
   |nil=>simp at hl
   |cons x l=>simp only[jY,ih l (by simpa using hl),List.take_succ_cons]
 induction o generalizing l with
 |zero=>have:=ht m l (by omega);cases l<;>simpa [sub] using this
 |succ o ih=>
  cases l with
  |nil=>simp at h
  |cons x l=>simp only[sub,List.drop_succ_cons];exact ih (by simp at h;omega)
theorem Db{enc:α→List Value}:∀(ps:List α),(∀p∈ps,(enc p).length=sz)→∀(i:Nat) (p:α),ps[i]?=some p→(((ps.map enc).flatten).drop (i*sz)).take sz=enc p
 | [],_,i,p,h=>by simp at h
 |q::ps,hl,0,p,h=>by
  simp at h;subst h
  have:=hl q (by simp)
  simp[←this]
 |q::ps,hl,i+1,p,h=>by
  have hq:=hl q (by simp)
  simp only[List.map_cons,List.flatten_cons]
  rw[show (i+1)*sz=(enc q).length+i*sz from by rw[hq,Nat.add_mul,Nat.one_mul];omega,←List.drop_drop,List.drop_left]
  exact Db ps (fun x hx=>hl x (by simp[hx])) i p (by simpa using h)
theorem aw.sl{v:Value}{T:TypeId}{enc:α→List Value}{ps:List α}{L:List (Nat×Obj)}(h:aw v sz T enc ps L)(hs:∀x∈L,s.has x.1 x.2):Sl s v sz enc ps:=by
 rcases h with ⟨rfl,rfl,rfl⟩| ⟨b,l,cap,rfl,rfl,h1,h2,h3,h4⟩
 ·exact Sl.nil s sz enc none 0
 refine⟨_,b,0,cap,rfl,fun _ _=>rfl,fun i p hp=>⟨l,T,(0,0),hs (b,.cells ⟨l⟩ T (0,0)) (by simp),?_⟩⟩
 have hi:i <ps.length:=by
  rcases Nat.lt_or_ge i ps.length with h|h
  ·exact h
  rw[List.getElem?_eq_none h] at hp;cases hp
 have hb:i*sz+sz≤ps.length*sz:=by
  have:=Nat.mul_le_mul_right sz hi
  rw[Nat.succ_mul] at this;exact this
 have fL:ps.length*sz≤cap*sz:=Nat.mul_le_mul_right _ h2
 rw[Nat.zero_add,iQ (by omega)]
 have h5:=Db ps h3 i p hp
 rw[←h4,List.drop_take,List.take_take] at h5
 rw[←h5,Nat.min_eq_left (by omega)]
def wj(eQ bE:Nat):Prop:=eQ≤1048576∧bE≤65536
theorem LZ(eQ:Nat):∀(r c:Nat),c≤2*eQ+768→Builtin.growBy eQ r c≤2*eQ+768
 |0,c,h=>h
 |r+1,c,h=>by
  simp only[Builtin.growBy]
  split
  ·exact h
  exact LZ eQ r _ (by omega)
theorem GZ{eQ:Nat}(h:cap <eQ):Builtin.nextslicecap eQ cap≤2*eQ+768:=by
 simp only[Builtin.nextslicecap]
 split
 ·omega
 split
 ·omega
 exact LZ eQ 4 cap (by omega)
theorem q9:∀(l:List Value) (o:Nat) (vs:List Value),o+vs.length≤l.length→dD l o vs=l.take o++vs++l.drop (o+vs.length)
 | [],o,vs,h=>by
  simp only[List.length_nil] at h
  have h0:o=0:=by omega
  have h1:vs=[]:=List.eq_nil_of_length_eq_zero (by omega)
  subst h0;subst h1;rfl
 |x::l,0,[],_=>by simp[dD]
 |x::l,o+1,[],_=>by simp[dD]
 |x::l,0,v::vs,h=>by
  have:=q9 l 0 vs (by simp only[List.length_cons] at h;omega)
  simp[dD,this]
 |x::l,o+1,v::vs,h=>by
  have:=q9 l o (v::vs) (by simp only[List.length_cons] at h ⊢;omega)
  simp only[dD,this,List.take_succ_cons,List.cons_append]
  rw[show o+1+(v::vs).length=(o+(v::vs).length)+1 from by omega,List.drop_succ_cons]
theorem nz{Q:β→St→Prop}{ti:TypeInfo}(h:P.info? t=some ti){k:TypeInfo→Sem β}:bO P (typeInfo t >>= k) s Q E=bO P (k ti) s Q E:=by
 simp only[typeInfo,aa,eN,h,ae]
theorem aer{Q:β→St→Prop}{q:Question}{k:Nat→Sem β}(hq:q.forced=false)(h:∀n,bO P (k (q.cut n)) s Q E):bO P (choose q >>= k) s Q E:=by
 show (if q.forced=true then _ else _)
 rw[if_neg (by rw[hq];simp)]
 exact h
theorem Ki{Q:β→St→Prop}{q:Question}{k:Nat→Sem β}(hq:q.forced=false):bO P (choose q >>= k) s Q E=∀n,bO P (k (q.cut n)) s Q E:=by
 show (if q.forced=true then _ else _)=_
 rw[if_neg (by rw[hq];simp)]
 rfl
theorem sP{Q:β→St→Prop}{m:Nat}{k:Unit→Sem β}(h:bO P (k ()) s Q E):bO P (askRoom m >>= k) s Q E:=by
 unfold askRoom
 split
 ·exact⟨rfl,h⟩
 exact h
section rules
variable {P:Program} {C:Class} {fn:FuncId} {aA:Option Nat} {Q:Post} {s:St} {n:Nat} {env:Env} {D:List Deferred}
variable {ops:Array Oper} {i:Nat} {rest:List Nat} {dst:Option Tmp} {ty:TypeId} {pos:String} {cY:Array Edge} {g:Option (Nat×Bool)}
variable {T:TypeId} {d:TypeDesc} {sz bE:Nat} {z:List Value} {ag:Bool}
theorem tO{Q:β→St→Prop}{v:Value}{enc:α→List Value}{ps:List α}(h:Sl s v sz enc ps){k:Array Value→Sem β}(hk:bO P (k ⟨(ps.map enc).flatten⟩) s Q E):bO P (Builtin.firstCells sz ps.length v >>= k) s Q E:=by
 obtain⟨a,b,o,cap,rfl,ha,hr⟩:=h
 obtain⟨hl,hf⟩:=Sl.flat hr
 cases ps with
 |nil=>
  cases a with
  |none=>simpa [Builtin.firstCells,ae] using hk
  |some a=>
   simp only[Builtin.firstCells,List.length_nil,Nat.zero_mul,loadCells,loadCellsFrom,ae]
   simpa using hk
 |cons p ps=>
  have:=ha 0 (by simp)
  subst this
  simp only[Builtin.firstCells]
  exact Ud (by rw[ku _ hl]) hf hk
theorem Q1(hC:∀main T,C main T→Closed P main T){E:TypeId}{v w:Value}{enc:α→List Value}{ps qs:List α}{L pre:List (Nat×Obj)}{d':TypeDesc}{E2:TypeId}{sz2 Ap:Nat}{z2:List Value}{ag2:Bool}{U:TypeId}
 (ho:ops[i]?=some ⟨dst,.call ⟨.builtin .append,#[x,y],#[T,U]⟩,ty,pos,cY,g⟩) (hw:ay ops n env g=true) (tf:TF P T (.slice E) sz bE z ag) (Tz:TF P U (.slice E2) sz2 Ap z2 ag2) (jO:TF P E d' ir vi z' xa) (hz:z'.length=ir)
 (hx:bp n env x=some v) (hy:bp n env y=some w) (kP:aw v ir E enc ps L) (Hq:Sl s w ir enc qs) (hs:s.rw=pre++(L++R)) (hq:∀p∈qs,∀c∈enc p,single c=true) (hb:wj (ps.length+qs.length) vi)
 (h:∀v' L',aw v' ir E enc (ps++qs) L'→ab C fn aA ops rest Q (A n (upd dst v' env) D) ⟨s.ro,pre++(L'++R)⟩):ab C fn aA ops (i::rest) Q (A n env D) s:=by
 refine bR hC ho hw (by simp) ?_
 have VT:∀s s':St,s.le s'→∀a,ab C fn aA ops rest Q a s→ab C fn aA ops rest Q a s':=
  fun s s' hl a ho main T hT b k cs h1 h2 h3 h4=>(hC main T hT).mono _ _ _ hl (ho main T hT b k cs h1 h2 h3 h4)
 obtain⟨hql,_⟩:=(show (∀p∈qs,(enc p).length=ir)∧True from by
  obtain⟨a,b,o,cap,rfl,ha,hr⟩:=Hq
  exact⟨(Sl.flat hr).1,trivial⟩)
 have tq:((qs.map enc).flatten).length=qs.length*ir:=ku qs hql
 have LI:∀amD,amD <ps.length+qs.length→¬(Builtin.nextslicecap (ps.length+qs.length) amD*vi>2^48):=by
  intro amD cJ
  have h1:=GZ cJ
  obtain⟨h2,h3⟩:=hb
  have h4:Builtin.nextslicecap (ps.length+qs.length) amD≤2097920:=by omega
  have h5:=Nat.mul_le_mul h4 h3
  have:(2097920*65536:Nat)≤2^48:=by decide
  omega
 have hlen:∀w',Sl s w' ir enc qs→∃a cap,w'= .slice a qs.length cap:=by
  rintro w' ⟨a,b,o,cap,rfl,_,_⟩;exact⟨a,cap,rfl⟩
 obtain⟨wa,aZ7,hwe⟩:=hlen w Hq
 simp only[execOp,resolve,invoke,builtin,Builtin.append_,List.map_toArray,List.map_cons,List.map_nil,aF hx,aF hy,ae,aa,List.getElem?_toArray,List.getElem?_cons_zero,List.getElem?_cons_succ,a8 tf]
 have hv:∃a cap,v= .slice a ps.length cap:=by
  rcases kP with ⟨rfl,rfl,_⟩| ⟨b,l,cap,rfl,_⟩
  ·exact⟨_,_,rfl⟩
  exact⟨_,_,rfl⟩
 obtain⟨va,vG,hve⟩:=hv
 have Ba:∀ {β:Type} (k:Nat→Sem β) (Q:β→St→Prop) (E:Halt→St→Prop),bO P (Builtin.lenOf w >>= k) s Q E=bO P (k qs.length) s Q E:=by
  intro β k Q E;rw[hwe];rfl
 simp only[hve,aa,cu jO,a8 Tz,ae,Bool.false_eq_true,if_false,Bool.not_false,if_true,Ba]
 obtain⟨ti,dM,aQH,NN,_⟩:=jO.info
 by_cases fK:ps.length+qs.length≤vG
 ·rw[if_pos fK]
  simp only[aa]
  refine tO Hq ?_
  rcases kP with ⟨hv0,rfl,rfl⟩| ⟨b,l,cap,hv1,rfl,h1,h2,h3,h4⟩
  ·rw[hv0] at hve
   cases hve
   have Za:qs=[]:=List.eq_nil_of_length_eq_zero (by simp only[List.length_nil] at fK;omega)
   subst Za
   simp only[ae]
   have:=h (.slice none 0 0) [] (aw.nil ir E enc)
   rw[←aX] at this
   rcases s with ⟨ro,Jq⟩
   simp only at hs
   subst hs
   exact this
  rw[hv1] at hve
  cases hve
  simp only[aa,dK,Nat.zero_add]
  have mX:ps.length*ir+((qs.map enc).flatten).length≤l.length:=by
   rw[tq,h1,←Nat.add_mul];exact Nat.mul_le_mul_right _ fK
  refine mA (L:=pre) (R:=R) ((qs.map enc).flatten) 0 l s (by rw[hs];rfl) (by omega) (fun c hc=>?_) ?_
  ·obtain⟨e,he,hce⟩:=List.mem_flatten.1 hc
   obtain⟨p,hp,rfl⟩:=List.mem_map.1 he
   exact hq p hp c hce
  have:=h (.slice (some ⟨b,0,none⟩) (ps++qs).length vG) [(b,.cells ⟨dD l (ps.length*ir) ((qs.map enc).flatten)⟩ E (0,0))]
   (.inr ⟨b,_,vG,rfl,rfl,by rw[lD,h1],by simpa using fK,fun p hp=>(List.mem_append.1 hp).elim (h3 p) (hql p),by
    rw[q9 _ _ _ mX,List.length_append,Nat.add_mul,List.append_assoc]
    rw[List.map_append,List.flatten_append,←h4]
    rw[show ps.length*ir+qs.length*ir=(l.take (ps.length*ir)).length+qs.length*ir from by rw[List.length_take];omega]
    rw[List.take_append,List.take_of_length_le (by omega)]
    congr 1
    rw[show (l.take (ps.length*ir)).length+qs.length*ir-(l.take (ps.length*ir)).length=((qs.map enc).flatten).length from by rw[tq];omega,List.take_left]⟩)
  rw[←aX] at this
  simp only[ae,Nat.add_zero]
  rw[List.length_append] at this
  exact this
 rw[if_neg fK]
 have cJ:vG <ps.length+qs.length:=by omega
 have awX:¬(((ps.length+qs.length:Nat):Int)>IntKind.i64.max):=by
  have:IntKind.i64.max=9223372036854775807:=by decide
  obtain⟨h2,_⟩:=hb
  rw[this];omega
 have hc:=LI vG cJ
 simp only[aa,nz dM,awX,false_and,if_false]
 rw[NN,if_neg hc]
 simp only[aa]
 rw[Ki rfl]
 intro tp
 generalize oF:Question.cut (.appendCap (ps.length+qs.length) vG E) tp=fQ
 have Sc:ps.length+qs.length≤fQ:=by rw[←oF];simp[Question.cut]
 simp only[aa]
 rw[nz dM]
 simp only[aa]
 refine sP ?_
 simp only[aa]
 have hold:Sl s (.slice va ps.length vG) ir enc ps:=by
  rw[←hve]
  refine kP.sl fun x hx=> .inr ?_
  rw[hs];simp[hx]
 refine tO hold ?_
 simp only[aa]
 refine tO Hq ?_
 simp only[aa,jZ jO,dW jO,Builtin.zeroCells]
 have JH:((Array.range ((fQ-(ps.length+qs.length))*(⟨z'⟩:Array Value).size)).map fun i=>(⟨z'⟩:Array Value)[i % (⟨z'⟩:Array Value).size]!)=⟨cX z' (fQ-(ps.length+qs.length))⟩:=sI z' _
 rw[JH]
 simp only[jo,ae]
 intro b' mv
 have TG:∀p∈ps,(enc p).length=ir:=by
  rcases kP with ⟨_,rfl,_⟩| ⟨_,_,_,_,_,_,_,h3,_⟩
  ·intro p hp;cases hp
  exact h3
 have hol:=ku ps TG
 have aFz:aw (.slice (some ⟨b',0,none⟩) (ps++qs).length fQ) ir E enc (ps++qs) [(b',.cells ⟨(ps.map enc).flatten++(qs.map enc).flatten++cX z' (fQ-(ps.length+qs.length))⟩ E (0,0))]:=
  .inr ⟨b',_,fQ,rfl,rfl,by
   simp only[List.length_append,hol,tq,iT,hz,←Nat.add_mul]
   congr 1;omega,by simpa using Sc,fun p hp=>(List.mem_append.1 hp).elim (TG p) (hql p),by
   rw[List.map_append,List.flatten_append,List.length_append,Nat.add_mul,←hol,←tq,←List.length_append,List.take_left]⟩
 have:=h _ _ aFz
 rw[←aX,List.length_append] at this
 have axR:((⟨(ps.map enc).flatten⟩:Array Value)++⟨(qs.map enc).flatten⟩++⟨cX z' (fQ-(ps.length+qs.length))⟩)=⟨(ps.map enc).flatten++(qs.map enc).flatten++cX z' (fQ-(ps.length+qs.length))⟩:=by simp
 rw[axR]
 refine VT ⟨s.ro,pre++([(b',.cells ⟨(ps.map enc).flatten++(qs.map enc).flatten++cX z' (fQ-(ps.length+qs.length))⟩ E (0,0))]++R)⟩ _ ?_ _ ?_
 ·refine⟨L,?_,fun _ _ h=> .inl h⟩
  rw[hs]
  rw[List.append_assoc pre,List.append_assoc [_] R L]
  simp only[List.cons_append,List.nil_append]
  refine List.Perm.trans ?_ List.perm_middle.symm
  refine List.Perm.cons _<|List.Perm.append_left pre<|List.perm_append_comm
 simpa using this
end rules
section rules
variable {P:Program} {C:Class} {fn:FuncId} {aA:Option Nat} {Q:Post} {s:St} {n:Nat} {env:Env} {D:List Deferred}
variable {ops:Array Oper} {i:Nat} {rest:List Nat} {dst:Option Tmp} {ty:TypeId} {pos:String} {cY:Array Edge} {g:Option (Nat×Bool)}
variable {T:TypeId} {d:TypeDesc} {sz bE:Nat} {z:List Value} {ag:Bool}
def EqV(P:Program)(t:TypeId)(x y:Value)(r:Bool):Prop:=
 ∀(s:St) (k:Bool→Sem Next) (Q:Next→St→Prop) (E:Halt→St→Prop),bO P (Op.equal t x y >>= k) s Q E=bO P (k r) s Q E
def oe(P:Program)(t:TypeId):Prop:=P.eqGuardType P.depth t=false
theorem anm(hC:∀main T,C main T→Closed P main T){T:TypeId}{m:List Value}(ho:ops[i]?=some ⟨dst,.binOp .eql T x y T',ty,pos,cY,g⟩) (hw:ay ops n env g=true)
 (hx:bp n env x=some (.agg ⟨l⟩)) (hy:bp n env y=some (.agg ⟨m⟩)) (hg:oe P T) (he:EqV P T (.agg ⟨l⟩) (.agg ⟨m⟩) r) (h:ab C fn aA ops rest Q (A n (upd dst (.bool r) env) D) s):ab C fn aA ops (i::rest) Q (A n env D) s:=by
 refine bR hC ho hw (by simp) ?_
 have hg':P.eqGuardType P.depth T=false:=hg
 simp only[execOp,aF hx,aF hy,eqGuard,Bool.not_true,Bool.false_eq_true,if_false,aa,eN,hg',Bool.not_false,if_true,ae,binOp]
 rw[he]
 rw[←aX] at h
 exact h
theorem afR(hC:∀main T,C main T→Closed P main T){T:TypeId}{m:List Value}(ho:ops[i]?=some ⟨dst,.binOp .neq T x y T',ty,pos,cY,g⟩) (hw:ay ops n env g=true)
 (hx:bp n env x=some (.agg ⟨l⟩)) (hy:bp n env y=some (.agg ⟨m⟩)) (hg:oe P T) (he:EqV P T (.agg ⟨l⟩) (.agg ⟨m⟩) r) (h:ab C fn aA ops rest Q (A n (upd dst (.bool !r) env) D) s):ab C fn aA ops (i::rest) Q (A n env D) s:=by
 refine bR hC ho hw (by simp) ?_
 have hg':P.eqGuardType P.depth T=false:=hg
 simp only[execOp,aF hx,aF hy,eqGuard,Bool.not_true,Bool.false_eq_true,if_false,aa,eN,hg',Bool.not_false,if_true,ae,binOp]
 rw[he]
 rw[←aX] at h
 exact h
def EqD(P:Program)(dep:Nat)(t:TypeId)(x y:Value)(r:Bool):Prop:=
 ∀(α:Type) (s:St) (k:Bool→Sem α) (Q:α→St→Prop) (E:Halt→St→Prop),bO P (Op.equalIn dep t x y >>= k) s Q E=bO P (k r) s Q E
theorem n9{k:IntKind}(tf:TF P t (.int k) sz bE z ag)(a b:Int):EqD P (dep+1) t (.int k a) (.int k b) (a==b):=by
 intro α s kk Q E
 simp only[Op.equalIn,aa,a8 tf,if_true,ae]
theorem MI{d:TypeDesc}(tf:TF P t d sz bE z false){v:Value}(hv:nth l o=some v){k:Value→Sem α}{Q:α→St→Prop}:bO P (part t ⟨l⟩ o >>= k) s Q E=bO P (k v) s Q E:=by
 rw[r5] at hv
 simp only[part,aa,kF tf,Bool.false_eq_true,if_false,List.getElem?_toArray]
 rw[hv]
 simp only[ae]
theorem MH{d:TypeDesc}(tf:TF P t d sz bE z true){m:List Value}(hv:sub l o sz=some m){k:Value→Sem α}{Q:α→St→Prop}:bO P (part t ⟨l⟩ o >>= k) s Q E=bO P (k (.agg ⟨m⟩)) s Q E:=by
 obtain⟨h1,h2⟩:=sub_eq _ _ _ _ hv
 simp only[part,aa,kF tf,if_true,cu tf,ae]
 have:(⟨l⟩:Array Value).extract o (o+sz)=⟨m⟩:=by
  apply Array.ext'
  simp only[Array.toList_extract,List.extract_eq_take_drop]
  apply List.ext_getElem?
  intro j
  rw[List.getElem?_take]
  split
  ·rename_i hj
   rw[List.getElem?_drop]
   have Zn:j <m.length:=by omega
   have h3:=h2 j m[j] (by simp[Zn])
   rw[h3];simp[Zn]
  rename_i hj
  rw[List.getElem?_eq_none (by omega)]
 rw[this]
def IV(P:Program)(t:TypeId)(l:List Value)(o:Nat)(v:Value):Prop:=
 ∀(α:Type) (s:St) (k:Value→Sem α) (Q:α→St→Prop) (E:Halt→St→Prop),bO P (part t ⟨l⟩ o >>= k) s Q E=bO P (k v) s Q E
theorem j8{d:TypeDesc}(tf:TF P t d sz bE z false){v:Value}(hv:nth l o=some v):IV P t l o v:=fun _ _ _ _ _=>MI tf hv
theorem GO{d:TypeDesc}(tf:TF P t d sz bE z true){m:List Value}(hv:sub l o sz=some m):IV P t l o (.agg ⟨m⟩):=fun _ _ _ _ _=>MH tf hv
inductive BM(P:Program)(dep:Nat)(l m:List Value):List Field→Bool→Prop
 |nil:BM P dep l m [] true
 |cons {f:Field} {fs:List Field} {v w:Value} {r r':Bool} (hn:f.name≠ "_") (hv:IV P f.type l f.offset v) (hw:IV P f.type m f.offset w) (he:EqD P dep f.type v w r) (ht:BM P dep l m fs r'):BM P dep l m (f::fs) (r&&r')
theorem uA{fields:Array Field}{m:List Value}(tf:TF P t (.struct fields) sz bE z true)(hs:P.stoodInHeld t=false)(hf:BM P dep l m fields.toList r):EqD P (dep+1) t (.agg ⟨l⟩) (.agg ⟨m⟩) r:=by
 intro α s k Q E
 simp only[Op.equalIn,aa,a8 tf,eN,hs,Bool.false_eq_true,if_false]
 rw[←Array.forIn_toList]
 generalize fields.toList=fl at hf
 clear tf
 induction hf with
 |nil=>simp only[List.forIn_nil,ae,aa,Bool.and_true]
 | @cons f fs v w r r' hn hv hw he ht ih=>
  simp only[List.forIn_cons,hn,ne_eq,not_false_eq_true,if_true,aa]
  rw[hv]
  simp only[aa]
  rw[hw]
  simp only[aa]
  rw[he]
  cases r with
  |false=>simp only[Bool.not_false,if_true,ae,aa,Bool.false_and]
  |true=>
   simp only[Bool.not_true,Bool.false_eq_true,if_false,ae,Bool.true_and]
   exact ih
theorem Ol{x y:Value}(h:EqD P 10000 t x y r):EqV P t x y r:=fun s k Q E=>h Go.Next s k Q E
end rules
section rules
variable {P:Program} {C:Class} {fn:FuncId} {aA:Option Nat} {Q:Post} {s:St} {n:Nat} {env:Env} {D:List Deferred}
variable {ops:Array Oper} {i:Nat} {rest:List Nat} {dst:Option Tmp} {ty:TypeId} {pos:String} {cY:Array Edge} {g:Option (Nat×Bool)}
variable {T:TypeId} {d:TypeDesc} {sz bE:Nat} {z:List Value} {ag:Bool}
def uO:List Value→Value
 | [x]=>x
 |l=> .tuple ⟨l⟩
inductive E6(P:Program)(s:St)(n:Nat)(env:Env):List ResultVar→List Value→Prop
 |nil:E6 P s n env [] []
 |tmp {t:Tmp} {v:Value} {rs:List ResultVar} {vs:List Value} (h:bp n env (.tmp t)=some v) (hr:E6 P s n env rs vs):E6 P s n env (.tmp t::rs) (v::vs)
 |agg {t:Tmp} {T:TypeId} {d:TypeDesc} {sz bE:Nat} {z l:List Value} {b o:Nat} {rs:List ResultVar} {vs:List Value} (tf:TF P T d sz bE z true) (h:bp n env (.tmp t)=some (.pointer (some ⟨b,o,none⟩))) (hl:cD s b o sz l) (hr:E6 P s n env rs vs):E6 P s n env (.cell t T::rs) (.agg ⟨l⟩::vs)
 |cell {t:Tmp} {T:TypeId} {d:TypeDesc} {sz bE:Nat} {z:List Value} {v:Value} {b o:Nat} {rs:List ResultVar} {vs:List Value} (tf:TF P T d sz bE z false) (h:bp n env (.tmp t)=some (.pointer (some ⟨b,o,none⟩))) (hl:Reads s b o v) (hr:E6 P s n env rs vs):E6 P s n env (.cell t T::rs) (v::vs)
theorem Gf:∀ {rs:List ResultVar} {vs:List Value} (_:E6 P s n env rs vs) {k:List Value→Sem α} {Q:α→St→Prop} {E:Halt→St→Prop},bO P (k vs) s Q E→
 bO P (rs.mapM (fun| .tmp t=>pure ((A n env D).tmps.getD t undef)| .cell a t=>do loadVar t (←asAddr ((A n env D).tmps.getD a undef))) >>= k) s Q E
 |_,_,.nil,k,Q,E,h=>by simpa only[List.mapM_nil,ae] using h
 |_,_,.tmp (t:=t) (v:=v) h hr,k,Q,E,hk=>by
  have hv:(A n env D).tmps.getD t undef=v:=by have:=pM (D:=D) h;rwa[←Array.getD_eq_getD_getElem?] at this
  simp only[List.mapM_cons,aa,ae,hv]
  exact Gf hr hk
 |_,_,.agg (t:=t) (l:=l) (b:=b) (o:=o) tf h hl hr,k,Q,E,hk=>by
  have hv:(A n env D).tmps.getD t undef= .pointer (some ⟨b,o,none⟩):=by have:=pM (D:=D) h;rwa[←Array.getD_eq_getD_getElem?] at this
  simp only[List.mapM_cons,aa,ae,hv,asAddr,loadVar,kF tf,if_true,cu tf]
  refine iP hl ?_
  try simp only[aa,ae]
  exact Gf hr hk
 |_,_,.cell (t:=t) (v:=v) (b:=b) (o:=o) tf h hl hr,k,Q,E,hk=>by
  have hv:(A n env D).tmps.getD t undef= .pointer (some ⟨b,o,none⟩):=by have:=pM (D:=D) h;rwa[←Array.getD_eq_getD_getElem?] at this
  simp only[List.mapM_cons,aa,ae,hv,asAddr,loadVar,kF tf,Bool.false_eq_true,if_false]
  refine vK hl ?_
  try simp only[aa,ae]
  exact Gf hr hk
theorem Qk{fn:Func}{R:Ending→St→Prop}{e:Exit}{s0:St}{vs:List Value}{v:Value}(he:e= .ret∨e= .normal)(hr:E6 P s n env fn.results.toList vs)(hv:uO vs=v)(hl:s0.le s)(h:R (.returned v) s0):rG P fn R e (A n env []) s:=by
 refine wW he rfl ?_
 unfold results
 rw[Array.mapM_eq_mapM_toList]
 simp only[map_eq_pure_bind,aa,ae]
 refine Gf (D:=[]) hr ?_
 refine⟨s0,hl,?_⟩
 subst hv
 have:(if h:(⟨vs⟩:Array Value).size=1 then (⟨vs⟩:Array Value)[0] else .tuple ⟨vs⟩)=uO vs:=by
  match vs with
  | []=>rfl
  | [x]=>rfl
  |x::y::l=>simp[uO]
 rw[←this] at h
 exact h
theorem aDO(hC:∀main T,C main T→Closed P main T){T:TypeId}{k:IntKind}{a b:Int}(ho:ops[i]?=some ⟨dst,.binOp .rem T x y T',ty,pos,cY,g⟩) (hw:ay ops n env g=true)
 (hx:bp n env x=some (.int k a)) (hy:bp n env y=some (.int k b)) (hb:b≠0) (h:ab C fn aA ops rest Q (A n (upd dst (.int k (a.tmod b)) env) D) s):ab C fn aA ops (i::rest) Q (A n env D) s:=
 QX hC ho hw hx hy (v:= .int k (a.tmod b)) (by
  show (if (k≠k) then _ else _)=_
  rw[if_neg (by simp)]
  show Op.intDiv .rem k a b=_
  simp only[Op.intDiv,hb,if_false];rfl) h
end rules
abbrev aU:=Nat→Option (Nat×Nat)
def tC:Nat:=18446744073709551616
def oL:Nat:=36893488147419103232
def AQ:Go.Fn→Bool
 | .yield _=>false
 |_=>true
mutual
inductive VR (ρ:aU):Value→Value→Prop
 |bool (b:Bool):VR ρ (.bool b) (.bool b)
 |int (k:IntKind) (n:Int):VR ρ (.int k n) (.int k n)
 |string (b:ByteArray):VR ρ (.string b) (.string b)
 |UP:VR ρ (.pointer none) (.pointer none)
 |ptr (i b c o:Nat):ρ i=some (b,c)→VR ρ (.pointer (some ⟨i,o,none⟩)) (.pointer (some ⟨b,o,none⟩))
 |qe (l c:Nat):VR ρ (.slice none l c) (.slice none l c)
 |slice (i b c o l k:Nat):ρ i=some (b,c)→k≤tC→VR ρ (.slice (some ⟨i,o,none⟩) l k) (.slice (some ⟨b,o,none⟩) l k)
 |gD (i b c o l k:Nat):ρ i=some (b,c)→tC <k→k≤oL→l+(oL-k)≤c→VR ρ (.slice (some ⟨i,o,none⟩) l k) (.slice (some ⟨b,o,none⟩) l (c-(oL-k)))
 |U2:VR ρ (.map none) (.map none)
 |map (i b c:Nat):ρ i=some (b,c)→VR ρ (.map (some i)) (.map (some b))
 |Iw:VR ρ (.chan none) (.chan none)
 |chan (i b c:Nat):ρ i=some (b,c)→VR ρ (.chan (some i)) (.chan (some b))
 |func (f:Go.Fn) (x y x' y':List Value):AQ f=true→jM ρ x x'→jM ρ y y'→VR ρ (.func f ⟨x⟩ ⟨y⟩) (.func f ⟨x'⟩ ⟨y'⟩)
 |yield (i b c:Nat):ρ i=some (b,c)→VR ρ (.func (.yield i) #[] #[]) (.func (.yield b) #[] #[])
 |nilFunc:VR ρ .nilFunc .nilFunc
 |iface (t:TypeId) (v v':Value):VR ρ v v'→VR ρ (.iface t v) (.iface t v')
 |nilIface:VR ρ .nilIface .nilIface
 |agg (l l':List Value):jM ρ l l'→VR ρ (.agg ⟨l⟩) (.agg ⟨l'⟩)
 |tuple (l l':List Value):jM ρ l l'→VR ρ (.tuple ⟨l⟩) (.tuple ⟨l'⟩)
inductive jM (ρ:aU):List Value→List Value→Prop
 |nil:jM ρ [] []
 |cons (v v':Value) (l l':List Value):VR ρ v v'→jM ρ l l'→jM ρ (v::l) (v'::l')
end
def flatAll(f:Value→Bool):List Value→Bool
 | []=>true
 |v::l=>f v&&flatAll f l
def nt:Nat→Value→Bool
 |0,_=>false
 |_+1,.bool _|_+1,.int _ _|_+1,.string _|_+1,.pointer none|_+1,.slice none _ _|_+1,.map none|_+1,.chan none|_+1,.nilFunc|_+1,.nilIface=>true
 |n+1,.func f x y=>AQ f&&(flatAll (nt n) x.toList&&flatAll (nt n) y.toList)
 |n+1,.iface _ v=>nt n v
 |n+1,.agg l=>flatAll (nt n) l.toList
 |n+1,.tuple l=>flatAll (nt n) l.toList
 |_,_=>false
def flat(v:Value):Bool:=nt 12 v
inductive Tr(α:Type) where
 |nil
 |node (v:Option α) (l r:Tr α)
theorem beq_false{a:Nat}(h:a≠b):Nat.beq a b=false:=by
 cases hb:Nat.beq a b with
 |false=>rfl
 |true=>exact absurd (Nat.eq_of_beq_eq_true hb) h
structure cF where
 key:Value
 val:Value
 born:Nat
inductive kz where
 |cells (l:List Value) (t:TypeId)
 |map (es:List cF) (clock:Nat)
 |fO (s:ByteArray) (pos:Nat)
 |mapIter (m:Option Nat) (since:Nat) (seen:List Nat) (AD:Nat)
 |loop (st:LoopState) (pend:Option Code) (fn n:Nat) (env:Env) (params:Array Tmp) (assign body:Code) (defers:Nat)
 |defer (taken:Bool)
 |IL (es:List cF)
structure CB where
 ro:Bool
 o:kz
structure Mem where
 t:Tr CB
 next:Nat
def cQ(n:Nat)(ce:Env):Operand→Option Value
 | .tmp t=>bif Nat.blt t n then gL ce t else none
 | .const v=>bif flat v then some v else none
 | .global _=>none
 | .func f=>some (.func (.func f) #[] #[])
def uz(n:Nat)(ce:Env):List Operand→Option (List Value)
 | []=>some []
 |x::l=>match cQ n ce x with
  |some v=>match uz n ce l with
   |some r=>some (v::r)
   |none=>none
  |none=>none
theorem ajy{rest:Env}{t:Nat}{v:Value}(h:gL e t=some v):gL (e++rest) t=some v:=by
 induction e with
 |nil=>cases h
 |cons x e ih=>
  rcases x with ⟨k,u⟩
  simp only[gL,List.cons_append] at h ⊢
  cases hb:Nat.beq k t with
  |true=>rw[hb] at h;exact h
  |false=>rw[hb] at h;exact ih h
theorem aZ{rest:Env}{v:Value}(h:bp n e x=some v):bp n (e++rest) x=some v:=by
 cases x with
 |tmp t=>
  simp only[bp] at h ⊢
  cases hb:Nat.blt t n with
  |true=>rw[hb] at h;exact ajy h
  |false=>rw[hb] at h;cases h
 |_=>exact h
theorem xH{rest:Env}:∀ {xs:List Operand} {vs:List Value},x6 n e xs=some vs→x6 n (e++rest) xs=some vs
 | [],vs,h=>h
 |x::xs,vs,h=>by
  simp only[x6] at h ⊢
  cases hx:bp n e x with
  |none=>rw[hx] at h;cases h
  |some v=>
   rw[hx] at h
   cases hr:x6 n e xs with
   |none=>rw[hr] at h;cases h
   |some r=>rw[hr] at h;rw[aZ hx,xH hr];exact h
structure TI where
 d:TypeDesc
 size:Nat
 zero:List Value
 agg:Bool
def ND:TypeDesc→Bool
 | .struct _| .array _ _=>true
 |_=>false
def FK:Bool→Value→Option (List Value)
 |true,.agg ⟨l⟩=>some l
 |true,_=>none
 |false,.agg _=>none
 |false,v=>some [v]
def ba(P:Program)(t:TypeId):Option TI:=
 match P.underlying t with
 |some d=>match P.info? t with
  |some i=>match i.zero with
   |some z=>match FK (ND d) z with
    |some l=>some ⟨d,i.size,l,ND d⟩
    |none=>none
   |none=>none
  |none=>none
 |none=>none
theorem av{x:TI}(h:ba P t=some x):∃bE,TF P t x.d x.size bE x.zero x.agg:=by
 unfold ba at h
 split at h<;>try (cases h;done)
 rename_i d hd
 split at h<;>try (cases h;done)
 rename_i i hi
 split at h<;>try (cases h;done)
 rename_i z hz
 split at h<;>try (cases h;done)
 rename_i l hl
 cases h
 refine⟨i.bytes,hd,⟨i,hi,rfl,rfl,z,hz,?_,?_⟩,?_⟩
 ·revert hl
  simp only
  cases hb:ND d
  ·intro hl;cases z<;>simp_all[FK,Value.cells]
  intro hl;cases z<;>simp_all[FK,Value.cells]
  cases hl;rfl
 ·revert hl
  simp only
  cases hb:ND d
  ·intro hl;cases z<;>simp_all[FK]<;>subst hl<;>rfl
  intro hl;cases z<;>simp_all[FK]
  cases hl;rfl
 cases d<;>rfl
def bw(P:Program):Sem α→Option α
 | .pure a=>some a
 | .program k=>bw P (k P)
 |_=>none
theorem ov:∀ {x:Sem α} {a:α},bw P x=some a→∀ {s:St} {Q:α→St→Prop} {E:Halt→St→Prop},Q a s→bO P x s Q E
 | .pure _,_,h,_,_,_,hq=>by simp only[bw,Option.some.injEq] at h;subst h;exact hq
 | .program k,_,h,_,_,_,hq=>ov (x:=k P) h hq
 | .load ..,_,h,_,_,_,_=>by cases h
 | .store ..,_,h,_,_,_,_=>by cases h
 | .new ..,_,h,_,_,_,_=>by cases h
 | .shape ..,_,h,_,_,_,_=>by cases h
 | .freeze ..,_,h,_,_,_,_=>by cases h
 | .frozen ..,_,h,_,_,_,_=>by cases h
 | .getObj ..,_,h,_,_,_,_=>by cases h
 | .setObj ..,_,h,_,_,_,_=>by cases h
 | .choose ..,_,h,_,_,_,_=>by cases h
 | .sys ..,_,h,_,_,_,_=>by cases h
 | .mark ..,_,h,_,_,_,_=>by cases h
 | .halt ..,_,h,_,_,_,_=>by cases h
theorem aY{x:Sem α}{a:α}{k:α→Sem β}{Q:β→St→Prop}(h:bw P x=some a)(hk:bO P (k a) s Q E):bO P (x >>= k) s Q E:=
 PN x k s Q E (ov h hk)
def Ev(n:Nat)(e:Env)(f:Operand→Value):Prop:=∀x v,bp n e x=some v→f x=v
theorem Ev.list(h:Ev n e f):∀ {xs:List Operand} {vs:List Value},x6 n e xs=some vs→xs.map f=vs
 | [],vs,hx=>by simpa [x6] using hx
 |x::xs,vs,hx=>by
  simp only[x6] at hx
  cases h1:bp n e x with
  |none=>rw[h1] at hx;cases hx
  |some v=>
   rw[h1] at hx
   cases h2:x6 n e xs with
   |none=>rw[h2] at hx;cases hx
   |some r=>rw[h2] at hx;simp only[Option.some.injEq] at hx;subst hx;simp[h _ _ h1,Ev.list h h2]
theorem Ev.arr(h:Ev n e f)(hx:x6 n e xs.toList=some vs):xs.map f=⟨vs⟩:=by
 have:=h.list hx
 rcases xs with ⟨xs⟩
 simpa using this
def Yields(P:Program)(n:Nat)(e:Env)(o:Oper)(s:St)(v:Value):Prop:=
 ∀s',Ext s s'→∀f,Ev n e f→∀(K:Next→St→Prop) (E:Halt→St→Prop),K (.value v) s'→bO P (execOp f o) s' K E
def GK:Op→Option (List Operand)
 | .binOp _ _ x y _=>some [x,y]
 | .unOp _ _ x=>some [x]
 | .convert _ _ x=>some [x]
 | .index _ x y=>some [x,y]
 | .field _ x _=>some [x]
 | .slice _ x none none none=>some [x]
 | .slice _ x (some a) none none=>some [x,a]
 | .slice _ x none (some a) none=>some [x,a]
 | .slice _ x (some a) (some b) none=>some [x,a,b]
 | .call ⟨.builtin .min,xs,_⟩=>some xs.toList
 | .call ⟨.builtin .max,xs,_⟩=>some xs.toList
 | .typeAssert x _ _ _=>some [x]
 |_=>none
theorem tU{o:Oper}{xs:List Operand}(h:GK o.op=some xs){f g:Operand→Value}(hfg:∀x∈xs,f x=g x):execOp f o=execOp g o:=by
  unfold GK at h
  split at h<;>try (cases h;done)
  all_goals (rename_i heq;simp only[Option.some.injEq] at h;subst h)
  all_goals first
    | (simp[execOp,heq,hfg];done)
    | (simp only[execOp,heq,resolve]
       rename_i xs at_
       have:xs.map f=xs.map g:=by
         apply Array.map_congr_left
         intro a ha;exact hfg a (by simpa using ha)
       rw[this])
theorem Ev.parts(hf:Ev n e f):∀ {xs:List (Nat×Operand)} {l:List (Nat×Value)},Pm n e xs=some l→xs.map (fun x=>(x.1,f x.2))=l
 | [],l,h=>by simpa [Pm] using h
 | (i,x)::xs,l,h=>by
  simp only[Pm] at h
  cases hx:bp n e x with
  |none=>rw[hx] at h;cases h
  |some v=>
   rw[hx] at h
   cases hr:Pm n e xs with
   |none=>rw[hr] at h;cases h
   |some r=>rw[hr] at h;simp only[Option.some.injEq] at h;subst h;simp[hf _ _ hx,Ev.parts hf hr]
theorem Ev.v9(hf:Ev n e f){ps:Array (Nat×Operand)}{l:List (Nat×Value)}(h:Pm n e ps.toList=some l):(ps.map fun x=>(x.1,f x.2)).toList=l:=by
 rw[Array.toList_map];exact hf.parts h
def xu(P:Program):List Field→Option (List (Nat×Nat))
 | []=>some []
 |f::fs=>match ba P f.type with
  |some ti=>match xu P fs with
   |some r=>some ((f.offset,ti.size)::r)
   |none=>none
  |none=>none
theorem yS:∀ {fs:List Field} {pl:List (Nat×Nat)},xu P fs=some pl→Dv P fs pl
 | [],pl,h=>by simp only[xu,Option.some.injEq] at h;subst h;exact .nil
 |f::fs,pl,h=>by
  simp only[xu] at h
  split at h<;>try (cases h;done)
  rename_i ti dM
  split at h<;>try (cases h;done)
  rename_i r hr
  simp only[Option.some.injEq] at h;subst h
  obtain⟨bE,tf⟩:=av dM
  exact .cons tf (yS hr)
def tM(P:Program)(t:TypeId):Nat:=match P.info? t with|some i=>i.bytes|none=>1000000
theorem cG{r:Nat}{o:Obj}{k:Obj→Sem α}{Q:α→St→Prop}(h:s.has r o)(h1:Obj.xB o=false)(h2:o.isChan=false)(hk:bO P (k o) s Q E):bO P (getObj r >>= k) s Q E:=⟨o,h,h1,h2,hk⟩
theorem ei{r:Nat}{o:Obj}{L:List (Nat×Obj)}{k:Unit→Sem α}{Q:α→St→Prop}(h2:o.isChan=false)(hs:s.rw=L++(r,o')::R)(h1:Obj.xB o'=false)(hk:bO P (k ()) ⟨s.ro,L++(r,o)::R⟩ Q E):bO P (setObj r o >>= k) s Q E:=⟨h2,L,o',R,hs,h1,hk⟩
def ez:Op→Bool
 | .defer _=>false
 |_=>true
theorem oA{op:Op}(h:ez op=true):∀c,op≠ .defer c:=by
 intro c e;subst e;cases h
section ops
variable {P:Program} {C:Class} {fn:FuncId} {aA:Option Nat} {Q:Post} {s:St} {n:Nat} {D:List Deferred} {ops:Array Oper} {i:Nat} {todo:List Nat} {ρ:aU} {ce e:Env} {o:Oper} {v:Value} {m m':Mem} {F:Nat×Obj→Prop} {R:Nat→Option Obj}
theorem Ev.GW(rest:Env):Ev n e (ev n (e++rest)):=fun _ _ h=>aF (aZ h)
theorem lQ(hC:∀main T,C main T→Closed P main T)(ho:ops[i]?=some o) (rest:Env) (hw:ay ops n (e++rest) o.guard=true) (hd:ez o.op=true) (hy:Yields P n e o s v) (hx:Ext s s') (hk:ab C fn aA ops todo Q (A n (upd o.dst v (e++rest)) D) s'):
 ab C fn aA ops (i::todo) Q (A n (e++rest) D) s':=by
 refine bR hC ho hw (oA hd) (hy s' hx _ (Ev.GW rest) _ _ ?_)
 show ab _ _ _ _ _ _ _ _
 rw[aX];exact hk
end ops
inductive CR where
 |ret (v:Value)
 |panic (v:Value)
inductive Tgt where
 |fn (f:FuncId)
 |yield (l:Nat)
abbrev cq:=Tgt→List Value→Mem→Option (CR×Mem)
def BU(P:Program)(f:FuncId):Bool:=
 match P.funcs[f]? with
 |some fn=> !(fn.name== "runtime.NumGoroutine")&& !fn.body.isNone
 |none=>false
theorem ld{f:FuncId}(h:BU P f=true):FF P f:=by
 unfold BU at h
 split at h
 ·rename_i fn uR
  simp only[Bool.and_eq_true,Bool.not_eq_true'] at h
  exact⟨fn,uR,h.1,h.2⟩
 cases h
def target(P:Program)(n:Nat)(ce:Env):Op→Option (Tgt×List Value)
 | .call ⟨.value x,xs,_⟩=>match cQ n ce x with
  |some (.func (.func f) ⟨fi⟩ ⟨ca⟩)=>match uz n ce xs.toList with
   |some vs=>bif BU P f then some (.fn f,fi++vs++ca) else none
   |none=>none
  |some (.func (.yield l) ⟨[]⟩ ⟨[]⟩)=>match uz n ce xs.toList with
   |some vs=>some (.yield l,vs)
   |none=>none
  |_=>none
 | .call ⟨.invoke x name,xs,_⟩=>match cQ n ce x with
  |some (.iface t v)=>bif flat v then (match bw P (method (P.types.size+Made.depth) t v name) with
   |some (f,r)=>match uz n ce xs.toList with
    |some vs=>bif BU P f&&flat r then some (.fn f,r::vs) else none
    |none=>none
   |none=>none) else none
  |_=>none
 |_=>none
def J1(d:Nat):Env→Env
 | []=>[]
 | (k,v)::r=>bif Nat.beq k d then r else (k,v)::J1 d r
def eV(dst:Option Tmp)(v:Value)(env:Env):Env:=
 match dst with
 |some d=>(d,v)::J1 d env
 |none=>env
theorem SW{d t:Nat}(h:d≠t):∀(e:Env),get (J1 d e) t=get e t
 | []=>rfl
 | (k,v)::r=>by
  simp only[J1]
  cases hb:Nat.beq k d with
  |true=>
   have:=Nat.eq_of_beq_eq_true hb
   subst this
   simp only[cond_true,cI,if_neg h]
  |false=>simp only[cond_false,cI,SW h r]
theorem jW(n:Nat)(dst:Option Tmp)(v:Value)(e:Env)(D:List Deferred):A n (upd dst v e) D=A n (eV dst v e) D:=by
 cases dst with
 |none=>rfl
 |some d=>
  simp only[A,upd,eV,Act.mk.injEq,and_true]
  congr 1
  funext i
  rw[cI,cI]
  split
  ·rfl
  rename_i h;rw[SW h]
structure AL where
 i:Nat
 id:Nat
 ob:kz
section rounds
variable {P:Program} {C:Class} {s:St}
def Dw(s:St)(l:Nat)(K:Loop→(Loop→St)→Prop):Prop:=∃L r Rr,s.rw=L++(l,.loop r)::Rr∧K r fun r'=>⟨s.ro,L++(l,.loop r')::Rr⟩
def WC(R:Ending→St→Prop)(l:Nat)(jump:Option Code)(s:St):Prop:=
 Dw s l fun r up=>R (.returned (.bool jump.isNone)) (up {r with state:=if jump.isNone then .ready else .done,pending:=jump})
def Ca(R:Ending→St→Prop)(l:Nat):Post
 | .normal,_,s=>WC R l none s
 | .ret,_,s=>WC R l (some .ret) s
 | .exit id,_,s=>WC R l (some (.exit id)) s
 | .panic ch,a,s=>a.defers=[]∧R (.panicked ch) s
 |_,_,_=>False
def IK(C:Class)(R:Ending→St→Prop)(l:Nat)(f:FuncId)(body:Code):Post
 | .normal,a,s=>Dw s l fun r up=>r.state= .ready∧Wp C f (some l) body (Ca R l) a (up {r with state:= .busy})
 | .panic ch,a,s=>a.defers=[]∧R (.panicked ch) s
 |_,_,_=>False
theorem xj{l:Nat}{L Rr:List (Nat×Obj)}{r:Loop}(hs:s.rw=L++(l,.loop r)::Rr){k:Loop→Sem α}{Q:α→St→Prop}(hk:bO P (k r) s Q E):bO P (Instr.getLoop l >>= k) s Q E:=by
 simp only[Instr.getLoop,aa]
 exact cG (o:= .loop r) (.inr (by rw[hs];exact fp)) rfl rfl hk
theorem vQ(hC:∀main T,C main T→Closed P main T)(hT:C main T){fr c:Frame}{l:Nat}{jump:Option Code}{R:Ending→St→Prop}(h1:fr.kind= .normal)
 (gA:∀w,stepG P main (G fr (c::cs)) w=(let (r,es):=(Instr.endRound l jump).runT P w #[];GStep.after (seen P fr.fn es)<|match r with
  | .ok v w=>doReturn P main fr (c::cs) none v w
  | .halt _ w=> .ended (.stuck "range over a function: no such loop" (fr.pos P)) w))
 (hr:WC R l jump s)(hk:∀v s',R (.returned v) s'→T (G (c.finish v) cs) s'):T (G fr (c::cs)) s:=by
 obtain⟨L,r,Rr,hs,hR⟩:=hr
 have wz:bO P (Instr.endRound l jump) s (fun v s'=>R (.returned v) s') (fun _ _=>False):=by
  simp only[Instr.endRound]
  refine xj hs<|ei rfl hs rfl hR
 refine(hC main T hT).step _ _ rfl fun w pJ=>?_
 obtain⟨res,es,bX,hl⟩:=gG _ _ _ _ w #[] wz pJ
 rw[Array.empty_append] at bX
 cases res with
 |ok v w'=>
  obtain⟨s',ht,hu⟩:=hl
  refine⟨G (c.finish v) cs,w',seen P fr.fn es,s',?_,rfl,ht.sub (iC _ _ _),hk _ _ hu⟩
  rw[gA,bX]
  simp only[doReturn,h1,GStep.after,Array.append_empty,G]
 |halt _ _=>obtain⟨_,_,hu⟩:=hl;exact hu.elim
theorem DI(hC:∀main T,C main T→Closed P main T){l:Nat}{f:FuncId}{fn:Func}(hf:P.funcs[f]?=some fn) {tmps:Array Value} {assign body:Code} {R:Ending→St→Prop}
 (h:Wp C f (some l) assign (IK C R l f body) ⟨tmps,[]⟩ s):Round C l f tmps assign body s R:=by
 intro main T hT cl cs k1 k2
 let b:Frame:={(default:Frame) with fn:=f,kind:= .normal,roundOf:=some l}
 have gY:Frame.round l f tmps assign body .normal=aL b ⟨tmps,[]⟩ [.code assign,.beginRound,.code body]:=by simp[Frame.round,aL,b]
 rw[gY]
 have ahx:∀ch a' s' todo,a'.defers=[]∧R (.panicked ch) s'→T (G {aL b a' todo with mode:= .panicking ch} (cl::cs)) s':=by
  intro ch a' s' todo q
  refine(hC main T hT).go rfl rfl (g':=G (cl.raise ch) cs) (fun w=>?_) (k2 _ _ q.2)
  have DX:∀fr:Frame,fr.fn=f→fr.catches P=false:=by
   intro fr hfr;simp[Frame.catches,hfr,hf]
  have:=DX {aL b a' todo with mode:= .panicking ch} rfl
  simp only[aL,q.1] at this
  simp[G,stepG,unwind,aL,b,q.1,this]
 refine h main T hT b [.beginRound,.code body] (cl::cs) rfl (by simp[b]) rfl fun e a' s' q=>?_
 cases e with
 |normal=>
  obtain⟨L,r,Rr,hs,bW,hw⟩:=q
  have wz:bO P (do Instr.beginRound l;pure Next.skip:Sem Next) s' (fun nx s2=>nx= .skip∧s2=⟨s'.ro,L++(l,.loop {r with state:= .busy})::Rr⟩) (fun _ _=>False):=by
   simp only[Instr.beginRound,aa]
   refine xj hs ?_
   simp only[aa]
   refine ei rfl hs rfl ?_
   simp only[bW,ae]
   exact⟨rfl,rfl⟩
  have LJ:T (G (aL b a' [.code body]) (cl::cs)) ⟨s'.ro,L++(l,.loop {r with state:= .busy})::Rr⟩:=by
   refine hw main T hT b [] (cl::cs) rfl (by simp[b]) rfl fun e2 a2 s2 q2=>?_
   cases e2 with
   |normal=>exact vQ hC hT (l:=l) (jump:=none) rfl (fun w=>by simp[G,stepG,stepG.exec,aL,b];rfl) q2 k1
   |ret=>exact fun todo=>vQ hC hT (l:=l) (jump:=some .ret) rfl (fun w=>by simp[G,stepG,stepG.exec,aL,b];rfl) q2 k1
   |exit id=>exact fun todo hto=>vQ hC hT (l:=l) (jump:=some (.exit id)) rfl (fun w=>by simp[G,stepG,stepG.exec,aL,b,hto];rfl) q2 k1
   |panic ch=>exact fun todo=>ahx ch a2 s2 todo q2
   |goto l'=>exact q2.elim
   |outgrown=>exact q2.elim
  refine(hC main T hT).step _ _ rfl fun w pJ=>?_
  obtain⟨res,es,bX,hl⟩:=gG _ _ _ _ w #[] wz pJ
  rw[Array.empty_append] at bX
  cases res with
  |ok nx w'=>
   obtain⟨s2,ht,rfl,rfl⟩:=hl
   refine⟨G (aL b a' [.code body]) (cl::cs),w',seen P f es,_,?_,rfl,ht.sub (iC _ _ _),LJ⟩
   have gA:stepG P main (G (aL b a' [.beginRound,.code body]) (cl::cs)) w=stepG.apply P true (aL b a' [.beginRound,.code body]) (cl::cs) none (do Instr.beginRound l;pure Next.skip:Sem Next) w:=rfl
   rw[gA]
   simp only[stepG.apply,if_true,bX]
   simp[GStep.after,Frame.finish,aL,b,G]
  |halt _ _=>obtain⟨_,_,hu⟩:=hl;exact hu.elim
 |panic ch=>exact fun todo=>ahx ch a' s' todo q
 |ret=>exact q.elim
 |exit id=>exact q.elim
 |goto l=>exact q.elim
 |outgrown=>exact q.elim
end rounds
end Go.L
