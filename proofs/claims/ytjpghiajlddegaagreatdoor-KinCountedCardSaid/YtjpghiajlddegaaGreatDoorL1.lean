/- Part 1 of the proof: a program logic, contracts, a theorem on goroutines. -/
import Derived.Calls
import Derived.Conc.Own
import Derived.IntWalk
set_option maxRecDepth 100000
set_option linter.all false
namespace Go.L
open Go
variable {R:List (Nat×Obj)} {b id n:Nat} {x:Operand} {l:List Value} {P:Program} {args:Array Value} {e t T':TypeId} {o o':Obj} {α β ι:Type} {y:Code} {f:FuncId} {xs:Array Operand} {w' Zi:World} {rest:List Nat}
structure St where
 ro:Nat→Option Obj
 rw:List (Nat×Obj)
variable {s s' MQ Z0 ZZ:St}
def St.has(s:St)(b:Nat)(o:Obj):Prop:=s.ro b=some o∨(b,o)∈s.rw
def St.iC(s:St)(b:Nat):Prop:=∃o,(b,o)∈s.rw
def St.knows(s:St)(b:Nat):Prop:=s.ro b≠none∨s.iC b
structure aP(s:St)(w:World):Prop where
 ro:∀b o,s.ro b=some o→w.heap[b]?=some o
 rw:∀b o,(b,o)∈s.rw→w.heap[b]?=some o
 nodup:(s.rw.map (·.1)).Nodup
 apart:∀b o,(b,o)∈s.rw→s.ro b=none
theorem aP.has{w:World}(h:aP s w)(hb:s.has b o):w.heap[b]?=some o:=
 hb.elim (h.ro b o) (h.rw b o)
theorem aP.lt{w:World}(h:aP s w)(hb:s.has b o):b <w.heap.size:=by
 have:=h.has hb
 rcases Nat.lt_or_ge b w.heap.size with hl|hl
 ·exact hl
 ·simp[Array.getElem?_eq_none hl] at this
def Bg:Mark→Bool
 | .acquire _| .release _| .releaseMerge _| .disable| .enable| .read _| .write _=>false
 |_=>true
def G1(s:St)(n:Nat)(e:Event):Prop:=
 match e.loc with
 | .cell a=>e.sync=false∧(n≤a.block∨s.iC a.block∨(e.write=false∧s.ro a.block≠none))
 | .obj r=>e.sync=false∧(n≤r∨s.iC r∨(e.write=false∧s.ro r≠none))
 | .mark m=>Bg m=true
 |_=>False
def blk:Loc→Option Nat
 | .cell a=>some a.block
 | .obj r=>some r
 |_=>none
structure Trans(s:St)(w:World)(s':St)(w':World)(es:Array Event):Prop where
 ju:aP s' w'
 size:w.heap.size≤w'.heap.size
 frame:∀b,b <w.heap.size→¬s.iC b→w'.heap[b]?=w.heap[b]?
 own:∀b,s'.iC b→w.heap.size≤b∨s.iC b
 JJ:∀b,s'.ro b≠none→w.heap.size≤b∨s.ro b≠none∨s.iC b
 os:w'.os=w.os
 output:w'.output=w.output
 tape:w'.tape=w.tape
 uO:∀e∈es,G1 s w.heap.size e
 low:∀e∈es,∀b,blk e.loc=some b→b <w'.heap.size
theorem Trans.refl{w:World}(h:aP s w):Trans s w s w #[] where
 ju:=h
 size:=Nat.le_refl _
 frame:=fun _ _ _=>rfl
 own:=fun _ h=> .inr h
 JJ:=fun _ h=> .inr (.inl h)
 os:=rfl
 output:=rfl
 tape:=rfl
 uO:=by simp
 low:=by simp
theorem Trans.trans{avb ava:World}{ae8 ae7:Array Event}(h:Trans MQ Zi Z0 avb ae8)(k:Trans Z0 avb ZZ ava ae7):
 Trans MQ Zi ZZ ava (ae8++ae7) where
 ju:=k.ju
 size:=Nat.le_trans h.size k.size
 frame:=fun b hb hn=>by
  rw[k.frame b (Nat.lt_of_lt_of_le hb h.size) (fun ho=>by rcases h.own b ho with h1|h1;omega;exact hn h1),h.frame b hb hn]
 own:=fun b hb=>by
  rcases k.own b hb with h1|h1
  ·exact .inl (Nat.le_trans h.size h1)
  ·exact h.own b h1
 JJ:=fun b hb=>by
  rcases k.JJ b hb with h1|h1|h1
  ·exact .inl (Nat.le_trans h.size h1)
  ·exact h.JJ b h1
  ·rcases h.own b h1 with h2|h2
   ·exact .inl h2
   ·exact .inr (.inr h2)
 os:=k.os.trans h.os
 output:=k.output.trans h.output
 tape:=k.tape.trans h.tape
 low:=fun e he b hb=>by
  rcases Array.mem_append.1 he with he|he
  ·exact Nat.lt_of_lt_of_le (h.low e he b hb) k.size
  ·exact k.low e he b hb
 uO:=fun e he=>by
  rcases Array.mem_append.1 he with he|he
  ·exact h.uO e he
  ·have:=k.uO e he
   unfold G1 at*
   split at this
   ·rename_i a _
    refine⟨this.1,?_⟩
    rcases this.2 with h1|h1|h1
    ·exact .inl (Nat.le_trans h.size h1)
    ·rcases h.own _ h1 with h2|h2
     ·exact .inl h2
     ·exact .inr (.inl h2)
    ·rcases h.JJ _ h1.2 with h2|h2|h2
     ·exact .inl h2
     ·exact .inr (.inr ⟨h1.1,h2⟩)
     ·exact .inr (.inl h2)
   ·rename_i r _
    refine⟨this.1,?_⟩
    rcases this.2 with h1|h1|h1
    ·exact .inl (Nat.le_trans h.size h1)
    ·rcases h.own _ h1 with h2|h2
     ·exact .inl h2
     ·exact .inr (.inl h2)
    ·rcases h.JJ _ h1.2 with h2|h2|h2
     ·exact .inl h2
     ·exact .inr (.inr ⟨h1.1,h2⟩)
     ·exact .inr (.inl h2)
   ·exact this
   ·exact this
def single:Value→Bool
 | .agg _| .tuple _=>false
 |_=>true
def Obj.wG:Obj→Bool
 | .cells .. =>true
 |_=>false
def Obj.shapeOf:Obj→Option (TypeId×Nat)
 | .cells c t _=>some (t,c.size)
 |_=>none
def Obj.frozenAt(a:Addr):Obj→Bool
 | .cells _ _ (lo,hi)=>lo≤a.off&&a.off <hi
 |_=>false
def Obj.O2(a:Addr)(n:Nat):Obj→Obj
 | .cells c elem (lo,hi)=> .cells c elem (if lo==hi then (a.off,a.off+n) else (min lo a.off,max hi (a.off+n)))
 |o=>o
def bG(P:Program):Sem α→St→(α→St→Prop)→(Halt→St→Prop)→Prop
 | .pure a,s,Q,_=>Q a s
 | .load m a k,s,Q,E=>m= .plain∧a.spot=none∧∃c t fz v,s.has a.block (.cells c t fz)∧c[a.off]?=some v∧bG P (k v) s Q E
 | .store m a v k,s,Q,E=>m= .plain∧a.spot=none∧single v=true∧∃L c t fz R,s.rw=L++(a.block,.cells c t fz)::R∧a.off <c.size∧
  (fz.1≤a.off&&a.off <fz.2)=false∧bG P k ⟨s.ro,L++(a.block,.cells (c.setIfInBounds a.off v) t fz)::R⟩ Q E
 | .new o k,s,Q,E=>∀b,¬s.knows b→bG P (k b) ⟨s.ro,(b,o)::s.rw⟩ Q E
 | .shape r k,s,Q,E=>∃o,s.has r o∧bG P (k (Obj.shapeOf o)) s Q E
 | .freeze a n k,s,Q,E=>if n=0 then bG P k s Q E else
  ∃L o R,s.rw=L++(a.block,o)::R∧bG P k ⟨s.ro,L++(a.block,Obj.O2 a n o)::R⟩ Q E
 | .frozen a k,s,Q,E=>∃o,s.has a.block o∧bG P (k (Obj.frozenAt a o)) s Q E
 | .getObj r k,s,Q,E=>∃o,s.has r o∧Obj.wG o=false∧o.isChan=false∧bG P (k o) s Q E
 | .setObj r o k,s,Q,E=>o.isChan=false∧∃L o' R,s.rw=L++(r,o')::R∧Obj.wG o'=false∧bG P k ⟨s.ro,L++(r,o)::R⟩ Q E
 | .choose q k,s,Q,E=>if q.forced then bG P (k 0) s Q E else ∀n,bG P (k (q.cut n)) s Q E
 | .sys _ _,_,_,_=>False
 | .program k,s,Q,E=>bG P (k P) s Q E
 | .mark m k,s,Q,E=>Bg m=true∧bG P k s Q E
 | .halt h,s,_,E=>E h s
theorem MG(x:Sem α)(f:α→Sem β)(s:St)(Q:β→St→Prop)(E:Halt→St→Prop)
 (h:bG P x s (fun a s'=>bG P (f a) s' Q E) E):bG P (x.bind f) s Q E:=by
 induction x generalizing s with
 |pure a=>exact h
 |load m a k ih=>obtain⟨h1,h2,c,t,fz,v,h3,h4,h5⟩:=h;exact⟨h1,h2,c,t,fz,v,h3,h4,ih _ _ h5⟩
 |store m a v k ih=>obtain⟨h1,h2,h3,L,c,t,fz,R,h4,h5,h6,h7⟩:=h;exact⟨h1,h2,h3,L,c,t,fz,R,h4,h5,h6,ih _ h7⟩
 |new o k ih=>exact fun b hb=>ih _ _ (h b hb)
 |shape r k ih=>obtain⟨o,h1,h2⟩:=h;exact⟨o,h1,ih _ _ h2⟩
 |freeze a n k ih=>
  simp only[Sem.bind,bG] at h ⊢
  split
  ·rename_i hn;rw[if_pos hn] at h;exact ih _ h
  ·rename_i hn;rw[if_neg hn] at h;obtain⟨L,o,R,h1,h2⟩:=h;exact⟨L,o,R,h1,ih _ h2⟩
 |frozen a k ih=>obtain⟨o,h1,h2⟩:=h;exact⟨o,h1,ih _ _ h2⟩
 |getObj r k ih=>obtain⟨o,h1,h2,h3,h4⟩:=h;exact⟨o,h1,h2,h3,ih _ _ h4⟩
 |setObj r o k ih=>obtain⟨h1,L,o',R,h2,h3,h4⟩:=h;exact⟨h1,L,o',R,h2,h3,ih _ h4⟩
 |choose q k ih=>
  simp only[Sem.bind,bG] at h ⊢
  split
  ·rename_i hn;rw[if_pos hn] at h;exact ih _ _ h
  ·rename_i hn;rw[if_neg hn] at h;exact fun n=>ih _ _ (h n)
 |sys c k ih=>exact h.elim
 |program k ih=>exact ih _ _ h
 |mark m k ih=>exact⟨h.1,ih _ h.2⟩
 |halt hh=>exact h
theorem uQ(x:Sem α)(s:St)(Q Q':α→St→Prop)(E E':Halt→St→Prop)
 (hq:∀a s,Q a s→Q' a s)(he:∀a s,E a s→E' a s)(h:bG P x s Q E):bG P x s Q' E':=by
 induction x generalizing s with
 |pure a=>exact hq _ _ h
 |load m a k ih=>obtain⟨h1,h2,c,t,fz,v,h3,h4,h5⟩:=h;exact⟨h1,h2,c,t,fz,v,h3,h4,ih _ _ h5⟩
 |store m a v k ih=>obtain⟨h1,h2,h3,L,c,t,fz,R,h4,h5,h6,h7⟩:=h;exact⟨h1,h2,h3,L,c,t,fz,R,h4,h5,h6,ih _ h7⟩
 |new o k ih=>exact fun b hb=>ih _ _ (h b hb)
 |shape r k ih=>obtain⟨o,h1,h2⟩:=h;exact⟨o,h1,ih _ _ h2⟩
 |freeze a n k ih=>
  simp only[bG] at h ⊢
  split
  ·rename_i hn;rw[if_pos hn] at h;exact ih _ h
  ·rename_i hn;rw[if_neg hn] at h;obtain⟨L,o,R,h1,h2⟩:=h;exact⟨L,o,R,h1,ih _ h2⟩
 |frozen a k ih=>obtain⟨o,h1,h2⟩:=h;exact⟨o,h1,ih _ _ h2⟩
 |getObj r k ih=>obtain⟨o,h1,h2,h3,h4⟩:=h;exact⟨o,h1,h2,h3,ih _ _ h4⟩
 |setObj r o k ih=>obtain⟨h1,L,o',R,h2,h3,h4⟩:=h;exact⟨h1,L,o',R,h2,h3,ih _ h4⟩
 |choose q k ih=>
  simp only[bG] at h ⊢
  split
  ·rename_i hn;rw[if_pos hn] at h;exact ih _ _ h
  ·rename_i hn;rw[if_neg hn] at h;exact fun n=>ih _ _ (h n)
 |sys c k ih=>exact h.elim
 |program k ih=>exact ih _ _ h
 |mark m k ih=>exact⟨h.1,ih _ h.2⟩
 |halt hh=>exact he _ _ h
theorem e9{L:List (Nat×Obj)}:(b,o)∈L++(b,o)::R:=by simp
theorem Tg{w:World}(h:aP s w){L:List (Nat×Obj)}(hl:s.rw=L++(b,o)::R)
 (hw:∀j,w'.heap[j]?=if j=b then some o' else w.heap[j]?):aP ⟨s.ro,L++(b,o')::R⟩ w':=by
 have iE:(b,o)∈s.rw:=by rw[hl];exact e9
 have lI:=h.nodup
 rw[hl] at lI
 simp only[List.map_append,List.map_cons] at lI
 rw[List.nodup_append] at lI
 obtain⟨nL,nR,nLR⟩:=lI
 rw[List.nodup_cons] at nR
 have alM:∀c x,(c,x)∈L∨(c,x)∈R→c≠b:=by
  rintro c x (hc|hc) rfl
  ·exact nLR c (List.mem_map.2 ⟨_,hc,rfl⟩) c (by simp) rfl
  ·exact nR.1 (List.mem_map.2 ⟨_,hc,rfl⟩)
 refine⟨fun c x hc=>?_,fun c x hc=>?_,?_,fun c x hc=>?_⟩
 ·rw[hw]
  by_cases e:c=b
  ·subst e;rw[h.apart c o iE] at hc;cases hc
  ·rw[if_neg e];exact h.ro c x hc
 ·simp only[List.mem_append,List.mem_cons] at hc
  rw[hw]
  rcases hc with hc|hc|hc
  ·rw[if_neg (alM c x (.inl hc))];exact h.rw c x (by rw[hl];simp[hc])
  ·cases hc;simp
  ·rw[if_neg (alM c x (.inr hc))];exact h.rw c x (by rw[hl];simp[hc])
 ·simp only[List.map_append,List.map_cons]
  rw[List.nodup_append]
  exact⟨nL,List.nodup_cons.2 nR,nLR⟩
 ·simp only[List.mem_append,List.mem_cons] at hc
  rcases hc with hc|hc|hc
  ·exact h.apart c x (by rw[hl];simp[hc])
  ·cases hc;exact h.apart b o iE
  ·exact h.apart c x (by rw[hl];simp[hc])
theorem aaU{ro:Nat→Option Obj}{L:List (Nat×Obj)}{c:Nat}(h:(⟨ro,L++(b,o')::R⟩:St).iC c):(⟨ro,L++(b,o)::R⟩:St).iC c:=by
 obtain⟨x,hx⟩:=h
 simp only[List.mem_append,List.mem_cons] at hx
 rcases hx with hx|hx|hx
 ·exact⟨x,by simp[hx]⟩
 ·cases hx;exact⟨o,by simp⟩
 ·exact⟨x,by simp[hx]⟩
theorem AY{w:World}(h:aP s w){L:List (Nat×Obj)}(hl:s.rw=L++(b,o)::R)
 (hs:w'.heap.size=w.heap.size)(hw:∀j,w'.heap[j]?=if j=b then some o' else w.heap[j]?)
 (ho:w'.os=w.os) (hu:w'.output=w.output) (ht:w'.tape=w.tape) {es:Array Event} (he:∀e∈es,G1 s w.heap.size e∧∀b,blk e.loc=some b→b <w.heap.size):
 Trans s w ⟨s.ro,L++(b,o')::R⟩ w' es where
 ju:=Tg h hl hw
 size:=by omega
 frame:=fun c _ hn=>by
  rw[hw]
  by_cases e:c=b
  ·subst e;exact absurd ⟨o,by rw[hl];simp⟩ hn
  ·rw[if_neg e]
 own:=fun c hc=> .inr (by have:=aaU (o:=o) hc;obtain⟨x,hx⟩:=this;exact⟨x,by rw[hl];exact hx⟩)
 JJ:=fun c hc=> .inr (.inl hc)
 os:=ho
 output:=hu
 tape:=ht
 uO:=fun e h'=>(he e h').1
 low:=fun e h' b hb=>hs▸(he e h').2 b hb
theorem Wk{w:World}(h:aP s w)(o:Obj):Trans s w ⟨s.ro,(w.heap.size,o)::s.rw⟩ {w with heap:=w.heap.push o} #[] where
 ju:=by
  refine⟨fun b x hb=>?_,fun b x hb=>?_,?_,fun b x hb=>?_⟩
  ·have:=h.ro b x hb
   have cz:=h.lt (.inl hb)
   simp[Array.getElem?_push,Nat.ne_of_lt cz,this]
  ·rcases List.mem_cons.1 hb with hb|hb
   ·cases hb;simp
   ·have:=h.rw b x hb
    have cz:=h.lt (.inr hb)
    simp[Array.getElem?_push,Nat.ne_of_lt cz,this]
  ·simp only[List.map_cons]
   refine List.nodup_cons.2 ⟨fun hm=>?_,h.nodup⟩
   obtain⟨⟨b,x⟩,hx,rfl⟩:=List.mem_map.1 hm
   have:=h.lt (.inr hx)
   simp at this
  ·rcases List.mem_cons.1 hb with hb|hb
   ·cases hb
    cases hr:s.ro w.heap.size with
    |none=>rfl
    |some y=>have:=h.lt (.inl hr);omega
   ·exact h.apart b x hb
 size:=by simp
 frame:=fun b hb _=>by simp[Array.getElem?_push,Nat.ne_of_lt hb]
 own:=fun b hb=>by
  obtain⟨x,hx⟩:=hb
  rcases List.mem_cons.1 hx with hx|hx
  ·cases hx;exact .inl (Nat.le_refl _)
  ·exact .inr ⟨x,hx⟩
 JJ:=fun b hb=> .inr (.inl hb)
 os:=rfl
 output:=rfl
 tape:=rfl
 uO:=by simp
 low:=by simp
theorem O1{w:World}(h:aP s w):¬s.knows w.heap.size:=by
 rintro(hk| ⟨o,hk⟩)
 ·cases hr:s.ro w.heap.size with
  |none=>exact hk hr
  |some y=>have:=h.lt (.inl hr);omega
 ·have:=h.lt (.inr hk);omega
theorem B9{w:World}(h:aP s w)(n:Nat):Trans s w s {w with drawn:=n} #[] where
 ju:=⟨h.ro,h.rw,h.nodup,h.apart⟩
 size:=Nat.le_refl _
 frame:=fun _ _ _=>rfl
 own:=fun _ h=> .inr h
 JJ:=fun _ h=> .inr (.inl h)
 os:=rfl
 output:=rfl
 tape:=rfl
 uO:=by simp
 low:=by simp
theorem Et{w:World}(h:aP s w){e:Event}(he:G1 s w.heap.size e)(hb:∀b,blk e.loc=some b→b <w.heap.size):Trans s w s w #[e] where
 ju:=h
 size:=Nat.le_refl _
 frame:=fun _ _ _=>rfl
 own:=fun _ h=> .inr h
 JJ:=fun _ h=> .inr (.inl h)
 os:=rfl
 output:=rfl
 tape:=rfl
 uO:=by simpa using he
 low:=by simpa using hb
def uu(s:St)(w:World)(Q:α→St→Prop)(E:Halt→St→Prop)(es:Array Event):Result α→Prop
 | .ok a w'=>∃s',Trans s w s' w' es∧Q a s'
 | .halt h w'=>∃s',Trans s w s' w' es∧E h s'
theorem uu.after{w:World}{Q:α→St→Prop}{E:Halt→St→Prop}{ae8 ae7:Array Event}{r:Result α}
 (ht:Trans s w MQ Zi ae8)(h:uu MQ Zi Q E ae7 r):uu s w Q E (ae8++ae7) r:=by
 cases r with
 |ok a w'=>obtain⟨s',h1,h2⟩:=h;exact⟨s',ht.trans h1,h2⟩
 |halt a w'=>obtain⟨s',h1,h2⟩:=h;exact⟨s',ht.trans h1,h2⟩
theorem World.cell_of{w:World}(h:aP s w){a:Addr}(ha:a.spot=none){c:Array Value}{fz:Nat×Nat}(hb:s.has a.block (.cells c t fz)):
 w.cell? a=c[a.off]?:=by
 simp[World.cell?,h.has hb,ha]
theorem gz(x:Sem α)(s:St)(Q:α→St→Prop)(E:Halt→St→Prop)(w:World)(es:Array Event)
 (h:bG P x s Q E)(ha:aP s w):∃r dV,x.runT P w es=(r,es++dV)∧uu s w Q E dV r:=by
 induction x generalizing s w es with
 |pure a=>exact⟨.ok a w,#[],by simp only[Sem.runT,Array.append_empty],s,Trans.refl ha,h⟩
 |load m a k ih=>
  obtain⟨rfl,Mk,c,t,fz,v,hb,hv,hk⟩:=h
  have hc:w.cell? a=some v:=by rw[World.cell_of ha Mk hb,hv]
  obtain⟨r,e',hr,hl⟩:=ih v s w (es.push ⟨.cell a,false,false⟩) hk ha
  refine⟨r,#[⟨.cell a,false,false⟩]++e',?_,uu.after (Et ha ?_ (fun b h'=>by cases h';exact ha.lt hb)) hl⟩
  ·simp only[Sem.runT,hc]
   rw[show (Mode.plain==Mode.atomic)=false from rfl,hr,←Array.append_singleton,Array.append_assoc]
  ·refine⟨rfl,?_⟩
   rcases hb with hb|hb
   ·exact .inr (.inr ⟨rfl,by rw[hb];simp⟩)
   ·exact .inr (.inl ⟨_,hb⟩)
 |store m a v k ih=>
  obtain⟨rfl,Mk,ho,L,c,t,fz,R,hl,cz,hfz,hk⟩:=h
  have hb:s.has a.block (.cells c t fz):= .inr (by rw[hl];exact e9)
  have hc:w.cell? a=some c[a.off]:=by rw[World.cell_of ha Mk hb];simp[cz]
  have hh:=ha.has hb
  have aj0:=ha.lt hb
  have XP:w.frozen? a=false:=by simp only[World.frozen?,hh];exact hfz
  have ht:Trans s w ⟨s.ro,L++(a.block,.cells (c.setIfInBounds a.off v) t fz)::R⟩ (w.setCell a v) #[⟨.cell a,true,false⟩]:=by
   refine AY (w':=w.setCell a v) ha hl (by simp[World.setCell]) (fun j=>?_) rfl rfl rfl ?_
   ·simp only[World.setCell,Array.getElem?_modify]
    by_cases e:a.block=j
    ·subst e;simp[hh,Mk]
    ·simp[e,Ne.symm e]
   ·simp only[List.mem_toArray,List.mem_singleton,forall_eq]
    exact⟨⟨rfl,.inr (.inl ⟨_,hb.resolve_left (by rw[ha.apart _ _ (show (a.block,_)∈s.rw by rw[hl];exact e9)];simp)⟩)⟩,fun b h'=>by cases h';exact aj0⟩
  obtain⟨r,e',hr,ym⟩:=ih _ (w.setCell a v) (es.push ⟨.cell a,true,false⟩) hk ht.ju
  refine⟨r,#[⟨.cell a,true,false⟩]++e',?_,uu.after ht ym⟩
  cases v<;>simp only[single,Bool.false_eq_true] at ho<;>
   (simp only[Sem.runT,hc,XP]
    rw[show (Mode.plain==Mode.atomic)=false from rfl]
    simp only[Bool.false_eq_true,if_false]
    rw[hr,←Array.append_singleton,Array.append_assoc])
 |new o k ih=>
  have ht:=Wk ha o
  obtain⟨r,e',hr,hl⟩:=ih _ _ {w with heap:=w.heap.push o} es (h w.heap.size (O1 ha)) ht.ju
  exact⟨r,#[]++e',by simp only[Sem.runT];rw[hr,Array.empty_append],uu.after ht hl⟩
 |shape r k ih=>
  obtain⟨o,hb,hk⟩:=h
  have hs:w.shape? r=Obj.shapeOf o:=by
   simp only[World.shape?,ha.has hb];cases o<;>rfl
  obtain⟨r',e',hr,hl⟩:=ih _ s w es hk ha
  exact⟨r',e',by simp only[Sem.runT,hs];exact hr,hl⟩
 |freeze a n k ih=>
  simp only[bG] at h
  by_cases hn:n=0
  ·rw[if_pos hn] at h
   obtain⟨r',e',hr,hl⟩:=ih s w es h ha
   exact⟨r',e',by simp only[Sem.runT,World.freeze,hn,if_true];exact hr,hl⟩
  ·rw[if_neg hn] at h
   obtain⟨L,o,R,hl,hk⟩:=h
   have hb:s.has a.block o:= .inr (by rw[hl];exact e9)
   have hh:=ha.has hb
   have ht:Trans s w ⟨s.ro,L++(a.block,Obj.O2 a n o)::R⟩ (w.freeze a n) #[]:=by
    refine AY (w':=w.freeze a n) ha hl (by simp[World.freeze,hn]) (fun j=>?_) (by simp[World.freeze,hn]) (by simp[World.freeze,hn]) (by simp[World.freeze,hn]) (by simp)
    simp only[World.freeze,hn,if_false,Array.getElem?_modify]
    by_cases e:a.block=j
    ·subst e;simp only[hh,if_true,Option.map_some];cases o<;>rfl
    ·simp[e,Ne.symm e]
   obtain⟨r',e',hr,ym⟩:=ih _ (w.freeze a n) es hk ht.ju
   exact⟨r',#[]++e',by simp only[Sem.runT];rw[hr,Array.empty_append],uu.after ht ym⟩
 |frozen a k ih=>
  obtain⟨o,hb,hk⟩:=h
  have hs:w.frozen? a=Obj.frozenAt a o:=by
   simp only[World.frozen?,ha.has hb];cases o<;>rfl
  obtain⟨r',e',hr,hl⟩:=ih _ s w es hk ha
  exact⟨r',e',by simp only[Sem.runT,hs];exact hr,hl⟩
 |getObj r k ih=>
  obtain⟨o,hb,Cq,uM,hk⟩:=h
  have hh:=ha.has hb
  obtain⟨r',e',hr,hl⟩:=ih o s w (es.push ⟨.obj r,false,false⟩) hk ha
  refine⟨r',#[⟨.obj r,false,false⟩]++e',?_,uu.after (Et ha ?_ (fun b h'=>by cases h';exact ha.lt hb)) hl⟩
  ·cases o<;>simp only[Obj.wG,Obj.isChan,Bool.true_eq_false] at Cq uM<;>
    (simp only[Sem.runT,hh,Obj.isChan];rw[hr,←Array.append_singleton,Array.append_assoc])
  ·refine⟨rfl,?_⟩
   rcases hb with hb|hb
   ·exact .inr (.inr ⟨rfl,by rw[hb];simp⟩)
   ·exact .inr (.inl ⟨_,hb⟩)
 |setObj r o k ih=>
  obtain⟨uM,L,o',R,hl,Cq,hk⟩:=h
  have hb:s.has r o':= .inr (by rw[hl];exact e9)
  have hh:=ha.has hb
  have aj0:=ha.lt hb
  have ht:Trans s w ⟨s.ro,L++(r,o)::R⟩ {w with heap:=w.heap.setIfInBounds r o} #[⟨.obj r,true,false⟩]:=by
   refine AY (w':={w with heap:=w.heap.setIfInBounds r o}) ha hl (by simp) (fun j=>?_) rfl rfl rfl ?_
   ·simp only[Array.getElem?_setIfInBounds]
    by_cases e:r=j
    ·subst e;simp[aj0]
    ·simp[e,Ne.symm e]
   ·simp only[List.mem_toArray,List.mem_singleton,forall_eq]
    exact⟨⟨rfl,.inr (.inl ⟨o',by rw[hl];exact e9⟩)⟩,fun b h'=>by cases h';exact aj0⟩
  obtain⟨r',e',hr,ym⟩:=ih _ _ (es.push ⟨.obj r,true,false⟩) hk ht.ju
  refine⟨r',#[⟨.obj r,true,false⟩]++e',?_,uu.after ht ym⟩
  cases o'<;>simp only[Obj.wG,Bool.true_eq_false] at Cq<;>
   (simp only[Sem.runT,hh,uM];rw[hr,←Array.append_singleton,Array.append_assoc])
 |choose q k ih=>
  simp only[bG] at h
  by_cases hq:q.forced
  ·rw[if_pos hq] at h
   obtain⟨r',e',hr,hl⟩:=ih 0 s w es h ha
   exact⟨r',e',by simp only[Sem.runT,hq,if_true];exact hr,hl⟩
  ·rw[if_neg hq] at h
   have ht:=B9 ha (w.drawn+1)
   obtain⟨r',e',hr,hl⟩:=ih _ s {w with drawn:=w.drawn+1} es (h (w.tape w.drawn q)) ht.ju
   exact⟨r',#[]++e',by simp only[Sem.runT,hq,Bool.false_eq_true,if_false];rw[hr,Array.empty_append],uu.after ht hl⟩
 |sys c k ih=>exact h.elim
 |program k ih=>
  obtain⟨r',e',hr,hl⟩:=ih P s w es h ha
  exact⟨r',e',by simp only[Sem.runT];exact hr,hl⟩
 |mark m k ih=>
  obtain⟨r',e',hr,hl⟩:=ih s w (es.push ⟨.mark m,false,true⟩) h.2 ha
  refine⟨r',#[⟨.mark m,false,true⟩]++e',?_,uu.after (Et ha ?_ (fun b h'=>by cases h')) hl⟩
  ·simp only[Sem.runT];rw[hr,←Array.append_singleton,Array.append_assoc]
  ·exact h.1
 |halt hh=>exact⟨.halt hh w,#[],by simp only[Sem.runT,Array.append_empty],s,Trans.refl ha,h⟩
open Go.Conc
def St.le(s s':St):Prop:=∃R,s'.rw.Perm (s.rw++R)∧∀b o,s.ro b=some o→s'.ro b=some o∨(b,o)∈R
theorem St.le_refl(s:St):s.le s:=⟨[],by simp,fun _ _ h=> .inl h⟩
theorem aP.of_le{w:World}(hl:s.le s')(h:aP s' w):aP s w:=by
 obtain⟨R,hR,h1⟩:=hl
 have hm:∀x,x∈s.rw→x∈s'.rw:=fun x hx=>hR.mem_iff.2 (by simp[hx])
 have P2:∀x,x∈R→x∈s'.rw:=fun x hx=>hR.mem_iff.2 (by simp[hx])
 have lI:=(hR.map (·.1)).nodup_iff.1 h.nodup
 rw[List.map_append,List.nodup_append] at lI
 refine⟨fun b o hb=>(h1 b o hb).elim (h.ro b o) (fun hx=>h.rw b o (P2 _ hx)),fun b o hb=>h.rw b o (hm _ hb),lI.1,fun b o hb=>?_⟩
 have:=h.apart b o (hm _ hb)
 cases hr:s.ro b with
 |none=>rfl
 |some y=>
  rcases h1 b y hr with h3|h3
  ·rw[h3] at this;cases this
  ·exact absurd rfl (lI.2.2 b (List.mem_map.2 ⟨_,hb,rfl⟩) b (List.mem_map.2 ⟨_,h3,rfl⟩))
structure Closed(P:Program)(main:Bool)(T:Goroutine→St→Prop):Prop where
 step:∀g s,g.status= .running→(∀w,aP s w→∃g' w' es s',stepG P main g w= .go g' w' es∧g'.status= .running∧Trans s w s' w' es∧T g' s')→T g s
 mono:∀g s s',s.le s'→T g s→T g s'
theorem Closed.go{main:Bool}{T:Goroutine→St→Prop}(C:Closed P main T){g g':Goroutine}(hs:g.status= .running)(mG:g'.status= .running)
 (h:∀w,stepG P main g w= .go g' w #[])(ht:T g' s):T g s:=
 C.step g s hs fun w hw=>⟨g',w,#[],s,h w,mG,Trans.refl hw,ht⟩
abbrev Class:=Bool→(Goroutine→St→Prop)→Prop
abbrev Post:=Exit→Act→St→Prop
def aH(b:Frame)(a:Act)(todo:List Item):Frame:={fn:=b.fn,tmps:=a.tmps,todo,defers:=a.defers,mode:= .run,kind:=b.kind,roundOf:=b.roundOf}
def jA(T:Goroutine→St→Prop)(b:Frame)(k:List Item)(cs:List Frame):Post
 | .normal,a,s=>T (G (aH b a k) cs) s
 | .exit id,a,s=>match exitTo id k with
  |some k'=>T (G (aH b a k') cs) s
  |none=>∀todo,exitTo id todo=none→T (G (aH b a (.code (.exit id)::todo)) cs) s
 | .ret,a,s=>∀todo,T (G (aH b a (.code .ret::todo)) cs) s
 | .panic ch,a,s=>∀todo,T (G {aH b a todo with mode:= .panicking ch} cs) s
 |_,_,_=>False
def Wp(C:Class)(fn:FuncId)(ay:Option Nat)(c:Code)(Q:Post)(a:Act)(s:St):Prop:=
 ∀main T,C main T→∀(b:Frame) (k:List Item) (cs:List Frame),b.fn=fn→b.kind≠ .early→b.roundOf=ay→
  (∀e a' s',Q e a' s'→jA T b k cs e a' s')→T (G (aH b a (.code c::k)) cs) s
def ab(C:Class)(fn:FuncId)(ay:Option Nat)(ops:Array Oper)(todo:List Nat)(Q:Post)(a:Act)(s:St):Prop:=
 ∀main T,C main T→∀(b:Frame) (k:List Item) (cs:List Frame),b.fn=fn→b.kind≠ .early→b.roundOf=ay→
  (∀e a' s',Q e a' s'→jA T b k cs e a' s')→T (G (aH b a (.inRegion ops todo::k)) cs) s
def Fn(C:Class)(P:Program)(f:FuncId)(args:Array Value)(s:St)(R:Ending→St→Prop):Prop:=
 ∀main T,C main T→∀(c:Frame) (cs:List Frame),(∀v s',R (.returned v) s'→T (G (c.finish v) cs) s')→(∀ch s',R (.panicked ch) s'→T (G (c.raise ch) cs) s')→
  T (G (Frame.enter P f args .normal) (c::cs)) s
def Round(C:Class)(l:Nat)(f:FuncId)(tmps:Array Value)(assign body:Code)(s:St)(R:Ending→St→Prop):Prop:=
 ∀main T,C main T→∀(c:Frame) (cs:List Frame),(∀v s',R (.returned v) s'→T (G (c.finish v) cs) s')→(∀ch s',R (.panicked ch) s'→T (G (c.raise ch) cs) s')→
  T (G (Frame.round l f tmps assign body .normal) (c::cs)) s
section rules
variable {P:Program} {C:Class} {fn:FuncId} {ay:Option Nat} {Q:Post} {a:Act} {s:St}
theorem Fn.mono{R R':Ending→St→Prop}(h:Fn C P f args s R)(hr:∀e s,R e s→R' e s):Fn C P f args s R':=
 fun main T hT c cs h1 h2=>h main T hT c cs (fun v s' hv=>h1 v s' (hr _ _ hv)) fun ch s' hv=>h2 ch s' (hr _ _ hv)
theorem Fn.weaken{C':Class}(hc:∀main T,C' main T→C main T){R:Ending→St→Prop}(h:Fn C P f args s R):Fn C' P f args s R:=
 fun main T hT=>h main T (hc _ _ hT)
theorem Wp.more(hC:∀main T,C main T→Closed P main T){c:Code}(hl:s.le s')(h:Wp C fn ay c Q a s):Wp C fn ay c Q a s':=
 fun main T hT b k cs h1 h2 h3 h4=>(hC _ _ hT).mono _ _ _ hl (h main T hT b k cs h1 h2 h3 h4)
theorem wp_skip(hC:∀main T,C main T→Closed P main T)(h:Q .normal a s):Wp C fn ay .skip Q a s:=
 fun main T hT b k cs _ _ _ h4=>(hC main T hT).go rfl rfl (g':=G (aH b a k) cs) (fun w=>by simp[G,stepG,stepG.exec,aH]) (h4 _ _ _ h)
theorem jA.push{T:Goroutine→St→Prop}{b:Frame}{x:Item}{k:List Item}{cs:List Frame}{e:Exit}(hx:x.plain=true)(he:e≠ .normal)
 (h:jA T b k cs e a s):jA T b (x::k) cs e a s:=by
 cases e with
 |normal=>exact absurd rfl he
 |exit id=>
  have hh:exitTo id (x::k)=exitTo id k:=by cases x<;>simp_all[exitTo,Item.plain]
  simp only[jA,hh] at h ⊢;exact h
 |ret=>exact h
 |panic ch=>exact h
 |goto l=>exact h
 |outgrown=>exact h
def lv(K:Act→St→Prop)(Q:Post):Post
 | .normal,a,s=>K a s
 |e,a,s=>Q e a s
theorem wp_seq(hC:∀main T,C main T→Closed P main T){x:Code}(h:Wp C fn ay x (lv (fun a' s'=>Wp C fn ay y Q a' s') Q) a s):Wp C fn ay (.seq x y) Q a s:=by
 intro main T hT b k cs h1 h2 h3 h4
 refine(hC main T hT).go rfl rfl (g':=G (aH b a (.code x:: .code y::k)) cs) (fun w=>by simp[G,stepG,stepG.exec,aH]) ?_
 refine h main T hT b (.code y::k) cs h1 h2 h3 fun e a' s' q=>?_
 cases e with
 |normal=>exact q main T hT b k cs h1 h2 h3 h4
 |exit id=>exact(h4 _ _ _ q).push rfl (by simp)
 |ret=>exact(h4 _ _ _ q).push (x:= .code y) rfl (by simp)
 |panic ch=>exact(h4 _ _ _ q).push (x:= .code y) rfl (by simp)
 |goto l=>exact(h4 _ _ _ q).elim
 |outgrown=>exact(h4 _ _ _ q).elim
theorem Gm(b:Frame)(a:Act)(todo:List Item)(x:Operand):(aH b a todo).eval x=a.eval x:=by cases x<;>rfl
theorem j9(b:Frame)(a:Act)(todo:List Item):(aH b a todo).eval=a.eval:=funext (Gm b a todo)
theorem wp_cond(hC:∀main T,C main T→Closed P main T){c:Operand}{x:Code}{t:Bool}(hc:a.eval c= .bool t)(h:Wp C fn ay (if t then x else y) Q a s):Wp C fn ay (.cond c x y) Q a s:=by
 intro main T hT b k cs h1 h2 h3 h4
 refine(hC main T hT).go rfl rfl (g':=G (aH b a (.code (if t then x else y)::k)) cs) (fun w=>?_) (h main T hT b k cs h1 h2 h3 h4)
 have h':(aH b a (.code (.cond c x y)::k)).eval c= .bool t:=by rw[Gm];exact hc
 simp only[aH] at h'
 simp[G,stepG,stepG.exec,aH,h']
theorem wp_cond_split(hC:∀main T,C main T→Closed P main T){c:Operand}{x:Code}{t:Bool}(hc:a.eval c= .bool t)(h1:t=true→Wp C fn ay x Q a s)(h2:t=false→Wp C fn ay y Q a s):
 Wp C fn ay (.cond c x y) Q a s:=by
 cases t
 ·exact wp_cond hC hc (h2 rfl)
 ·exact wp_cond hC hc (h1 rfl)
def qh(id:Nat)(Q:Post):Post
 | .exit PV,a,s=>if PV=id then Q .normal a s else Q (.exit PV) a s
 |e,a,s=>Q e a s
theorem wp_block(hC:∀main T,C main T→Closed P main T){c:Code}(h:Wp C fn ay c (qh id Q) a s):Wp C fn ay (.block id c) Q a s:=by
 intro main T hT b k cs h1 h2 h3 h4
 refine(hC main T hT).go rfl rfl (g':=G (aH b a (.code c:: .inBlock id::k)) cs) (fun w=>by simp[G,stepG,stepG.exec,aH]) ?_
 refine h main T hT b (.inBlock id::k) cs h1 h2 h3 fun e a' s' q=>?_
 cases e with
 |normal=>exact(hC main T hT).go rfl rfl (g':=G (aH b a' k) cs) (fun w=>by simp[G,stepG,stepG.exec,aH]) (h4 _ _ _ q)
 |exit PV=>
  by_cases Ha:PV=id
  ·simp only[qh,Ha,if_true] at q
   have:=h4 _ _ _ q
   simp only[jA,exitTo,Ha,beq_self_eq_true,if_true]
   exact this
  ·simp only[qh,Ha,if_false] at q
   have:=h4 _ _ _ q
   have dP:(id==PV)=false:=by simp;exact fun h=>Ha h.symm
   simp only[jA,exitTo,dP,Bool.false_eq_true,if_false] at this ⊢
   exact this
 |ret=>exact h4 _ _ _ q
 |panic ch=>exact h4 _ _ _ q
 |goto l=>exact(h4 _ _ _ q).elim
 |outgrown=>exact(h4 _ _ _ q).elim
theorem wp_exit(hC:∀main T,C main T→Closed P main T)(h:Q (.exit id) a s):Wp C fn ay (.exit id) Q a s:=by
 intro main T hT b k cs h1 h2 h3 h4
 have h':=h4 _ _ _ h
 simp only[jA] at h'
 cases hk:exitTo id k with
 |some k'=>
  rw[hk] at h'
  exact(hC main T hT).go rfl rfl (g':=G (aH b a k') cs) (fun w=>by simp[G,stepG,stepG.exec,aH,hk]) h'
 |none=>rw[hk] at h';exact h' k hk
theorem wp_ret{fn:FuncId}(h:Q .ret a s):Wp C fn ay .ret Q a s:=fun _ _ _ _ _ _ _ _ _ h4=>h4 _ _ _ h _
theorem wp_region(hC:∀main T,C main T→Closed P main T){ops:Array Oper}(h:ab C fn ay ops (List.range ops.size) Q a s):Wp C fn ay (.region id ops false) Q a s:=
 fun main T hT b k cs h1 h2 h3 h4=>(hC main T hT).go rfl rfl (g':=G (aH b a (.inRegion ops (List.range ops.size)::k)) cs) (fun w=>by simp[G,stepG,stepG.exec,aH]) (h main T hT b k cs h1 h2 h3 h4)
theorem wp_region_draw(hC:∀main T,C main T→Closed P main T){ops:Array Oper}(h:∀t,ab C fn ay ops (Region.schedule (P.follows .mixedOrders) ops t) Q a s):Wp C fn ay (.region id ops true) Q a s:=by
 intro main T hT b k cs h1 h2 h3 h4
 refine(hC main T hT).step _ _ rfl fun w hw=>?_
 refine⟨G (aH b a (.inRegion ops (Region.schedule (P.follows .mixedOrders) ops (w.tape w.drawn (.order b.fn id)))::k)) cs,{w with drawn:=w.drawn+1},#[],s,?_,rfl,B9 hw _,h _ main T hT b k cs h1 h2 h3 h4⟩
 simp[G,stepG,stepG.exec,aH,choose,Sem.run,Question.forced,Question.cut]
theorem tz(hC:∀main T,C main T→Closed P main T){ops:Array Oper}(h:Q .normal a s):ab C fn ay ops [] Q a s:=
 fun main T hT b k cs _ _ _ h4=>(hC main T hT).go rfl rfl (g':=G (aH b a k) cs) (fun w=>by simp[G,stepG,stepG.exec,aH]) (h4 _ _ _ h)
theorem fB(b:Frame)(a:Act)(ops:Array Oper)(i:Nat)(rest:List Nat)(k:List Item)(v:Value):
 (aH b a (.inRegion ops (i::rest)::k)).finish v=aH b (a.put ((ops[i]?).bind (·.dst)) v) (.inRegion ops rest::k):=by
 cases h:(ops[i]?).bind (·.dst)<;>simp[Frame.finish,aH,Act.put,h]
theorem tx(hC:∀main T,C main T→Closed P main T){ops:Array Oper}{i:Nat}{o:Oper}(ho:ops[i]?=some o) (hw:Region.wanted o (yielded ops a.tmps)=false)
 (h:ab C fn ay ops rest Q (a.put o.dst undef) s):ab C fn ay ops (i::rest) Q a s:=by
 intro main T hT b k cs h1 h2 h3 h4
 refine(hC main T hT).go rfl rfl (g':=G (aH b (a.put o.dst undef) (.inRegion ops rest::k)) cs) (fun w=>?_) (h main T hT b k cs h1 h2 h3 h4)
 have:=fB b a ops i rest k undef
 rw[ho] at this
 simp only[Option.bind_some] at this
 rw[←this]
 simp[G,stepG,stepG.exec,aH,ho,hw]
def aou(dst:Option Tmp)(a:Act)(K:Act→St→Prop)(Q:Post):Ending→St→Prop
 | .returned v,s=>K (a.put dst v) s
 | .panicked ch,s=>Q (.panic ch) a s
 | .outgrown,_=>False
def upon(C:Class)(P:Program)(ay:Option Nat)(dst:Option Tmp)(a:Act)(K:Act→St→Prop)(Q:Post):Next→St→Prop
 | .value v,s=>K (a.put dst v) s
 | .skip,s=>K (a.put dst undef) s
 | .enter f args,s=>Fn C P f args s (aou dst a K Q)
 | .round l f tmps assign body,s=>Round C l f tmps assign body s (aou dst a K Q)
 | .defer d,s=>ay=none∧K ({a with defers:=d::a.defers}.put dst undef) s
 |_,_=>False
def Ki(a:Act)(Q:Post):Halt→St→Prop
 | .panic v,s=>Q (.panic [{v,recovered:=false}]) a s
 |_,_=>False
theorem X7(g:Bool×Array Event→Event→Bool×Array Event)(hg:∀x y,(g x y).2=x.2∨(g x y).2=x.2.push y):
 ∀(l:List Event) (x:Bool×Array Event),∀e∈(l.foldl g x).2,e∈x.2∨e∈l:=by
 intro l
 induction l with
 |nil=>intro x e he;exact .inl he
 |cons y l ih=>
  intro x e he
  simp only[List.foldl_cons] at he
  rcases ih _ e he with h|h
  ·rcases hg x y with h'|h'
   ·rw[h'] at h;exact .inl h
   ·rw[h'] at h
    rcases Array.mem_push.1 h with h|h
    ·exact .inl h
    ·exact .inr (by simp[h])
  ·exact .inr (List.mem_cons_of_mem _ h)
theorem gY(P:Program)(f:FuncId)(es:Array Event):∀e∈seen P f es,e∈es:=by
 intro e he
 unfold seen at he
 simp only at he
 rw[←Array.foldl_toList] at he
 rcases X7 _ (fun x y=>by
  rcases x with ⟨q,kept⟩
  dsimp only
  split
  ·exact .inl rfl
  ·dsimp only
   split
   ·exact .inl rfl
   ·exact .inr rfl) es.toList _ e he with h|h
 ·simp at h
 ·exact Array.mem_toList_iff.1 h
theorem Trans.sub{w:World}{es dV:Array Event}(h:Trans s w s' w' es)(hs:∀e∈dV,e∈es):Trans s w s' w' dV:=
 ⟨h.ju,h.size,h.frame,h.own,h.JJ,h.os,h.output,h.tape,fun e he=>h.uO e (hs e he),fun e he=>h.low e (hs e he)⟩
theorem Kg(hC:∀main T,C main T→Closed P main T){ops:Array Oper}{i:Nat}{o:Oper}(ho:ops[i]?=some o) (hw:Region.wanted o (yielded ops a.tmps)=true)
 (hd:ay=none∨∀c,o.op≠ .defer c)
 (h:bG P (execOp a.eval o) s (upon C P ay o.dst a (fun a' s'=>ab C fn ay ops rest Q a' s') Q) (Ki a Q)):ab C fn ay ops (i::rest) Q a s:=by
 intro main T hT b k cs h1 h2 h3 h4
 have ir:=hC main T hT
 have lT:∀(a:Act) v,(aH b a (.inRegion ops (i::rest)::k)).finish v=aH b (a.put o.dst v) (.inRegion ops rest::k):=by
  intro a v;rw[fB,ho];rfl
 have hk:(b.kind==CallKind.early)=false:=by simpa using h2
 have gq:∀w,stepG P main (G (aH b a (.inRegion ops (i::rest)::k)) cs) w=stepG.apply P true (aH b a (.inRegion ops (i::rest)::k)) cs none (execOp a.eval o) w:=by
  intro w
  have he:=j9 b a (.inRegion ops (i::rest)::k)
  simp only[aH] at he
  simp only[G,stepG,stepG.exec,aH,ho,Option.map_some,Option.getD_some,hw,if_true,stepG.oper,Frame.oper?,he]
  rcases hd with hd|hd
  ·rw[h3,hd]
  ·split
   ·rename_i hx hy;exact absurd hy (hd _)
   ·rfl
 refine ir.step _ _ rfl fun w oQ=>?_
 obtain⟨r,es,hr,hl⟩:=gz _ _ _ _ w #[] h oQ
 rw[Array.empty_append] at hr
 have mj:=gq w
 simp only[stepG.apply,if_true,hr] at mj
 simp only[aH,hk,Bool.false_eq_true,if_false] at mj
 have fq:=gY P b.fn es
 cases r with
 |ok nx w'=>
  obtain⟨s',ht,hu⟩:=hl
  have ht':=ht.sub fq
  cases nx with
  |value v=>
   simp only[GStep.after,Array.append_empty] at mj
   refine⟨_,_,_,s',mj,rfl,ht',?_⟩
   have:=hu main T hT b k cs h1 h2 h3 h4
   rw[←lT] at this;exact this
  |skip=>
   simp only[GStep.after,Array.append_empty] at mj
   refine⟨_,_,_,s',mj,rfl,ht',?_⟩
   have:=hu main T hT b k cs h1 h2 h3 h4
   rw[←lT] at this;exact this
  |enter f args=>
   simp only[GStep.after,Array.append_empty] at mj
   refine⟨_,_,_,s',mj,rfl,ht',?_⟩
   refine hu main T hT (aH b a (.inRegion ops (i::rest)::k)) cs (fun v YM hv=>?_) (fun ch YM hv=>?_)
   ·rw[lT];exact hv main T hT b k cs h1 h2 h3 h4
   ·exact h4 _ _ _ hv _
  |round l f tmps assign body=>
   simp only[GStep.after,Array.append_empty] at mj
   refine⟨_,_,_,s',mj,rfl,ht',?_⟩
   refine hu main T hT (aH b a (.inRegion ops (i::rest)::k)) cs (fun v YM hv=>?_) (fun ch YM hv=>?_)
   ·rw[lT];exact hv main T hT b k cs h1 h2 h3 h4
   ·exact h4 _ _ _ hv _
  |defer d=>
   simp only[GStep.after,Array.append_empty] at mj
   refine⟨_,_,_,s',mj,rfl,ht',?_⟩
   have:=hu.2 main T hT b k cs h1 h2 h3 h4
   rw[←lT] at this
   exact this
  |_=>exact hu.elim
 |halt hh w'=>
  obtain⟨s',ht,hu⟩:=hl
  have ht':=ht.sub fq
  cases hh with
  |panic v=>
   simp only[GStep.after,Array.append_empty] at mj
   refine⟨_,_,_,s',mj,rfl,ht',?_⟩
   have hp:Ki a Q (.panic v) s':=hu
   exact h4 _ _ _ hp _
  |_=>exact absurd hu id
def qR(P:Program)(fn:Func)(R:Ending→St→Prop):Post
 | .normal,a,s| .ret,a,s=>a.defers=[]∧bG P (results fn a.tmps) s (fun v s'=>∃s0,s0.le s'∧R (.returned v) s0) (fun _ _=>False)
 | .panic ch,a,s=>a.defers=[]∧R (.panicked ch) s
 |_,_,_=>False
theorem rX(hC:∀main T,C main T→Closed P main T){main:Bool}{T:Goroutine→St→Prop}(hT:C main T){f:FuncId}{fn:Func}(hf:P.funcs[f]?=some fn) {fr c:Frame} {cs:List Frame}
 (h1:fr.fn=f) (h2:fr.kind= .normal) (h3:fr.mode= .returning) (h4:fr.defers=[]) {R:Ending→St→Prop} {s:St}
 (hr:bG P (results fn fr.tmps) s (fun v s'=>∃s0,s0.le s'∧R (.returned v) s0) (fun _ _=>False)) (hk:∀v s',R (.returned v) s'→T (G (c.finish v) cs) s'):T (G fr (c::cs)) s:=by
 refine(hC main T hT).step _ _ rfl fun w oQ=>?_
 obtain⟨r,es,bN,hl⟩:=gz _ _ _ _ w #[] hr oQ
 clear hr
 rw[Array.empty_append] at bN
 cases r with
 |ok v w'=>
  obtain⟨s',ht,hu⟩:=hl
  refine⟨G (c.finish v) cs,w',seen P fr.fn es,s',?_,rfl,ht.sub (gY _ _ _),by obtain⟨s0,hl0,uL⟩:=hu;exact(hC main T hT).mono _ _ _ hl0 (hk _ _ uL)⟩
  rcases fr with ⟨fn',tmps,todo,defers,mode,kind,ro⟩
  simp only at h1 h2 h3 h4 bN ⊢
  subst h1 h2 h3 h4
  simp only[G,stepG,unwind,hf,bN,doReturn,GStep.after,Array.append_empty]
 |halt _ _=>obtain⟨_,_,hu⟩:=hl;exact hu.elim
theorem O4(hC:∀main T,C main T→Closed P main T){f:FuncId}{fn:Func}{c:Code}{args:Array Value}{R:Ending→St→Prop}
 (hf:P.funcs[f]?=some fn) (hb:fn.body=some c) (h:Wp C f none c (qR P fn R) ⟨args++Array.replicate (fn.ntmps-args.size) undef,[]⟩ s):Fn C P f args s R:=by
 intro main T hT cl cs k1 k2
 let b:Frame:={(default:Frame) with fn:=f,kind:= .normal,roundOf:=none}
 have gL:Frame.enter P f args .normal=aH b ⟨args++Array.replicate (fn.ntmps-args.size) undef,[]⟩ [.code c]:=by
  simp[Frame.enter,aH,hf,hb,b]
 rw[gL]
 refine h main T hT b [] (cl::cs) rfl (by simp[b]) rfl fun e a' s' q=>?_
 have rz:∀(todo:List Item),a'.defers=[]→bG P (results fn a'.tmps) s' (fun v s'=>∃s0,s0.le s'∧R (.returned v) s0) (fun _ _=>False)→T (G {aH b a' todo with mode:= .returning} (cl::cs)) s':=
  fun todo hd hr=>rX hC hT hf rfl rfl rfl hd hr k1
 cases e with
 |normal=>
  exact(hC main T hT).go rfl rfl (g':=G {aH b a' [] with mode:= .returning} (cl::cs)) (fun w=>by simp[G,stepG,stepG.exec,aH,b]) (rz _ q.1 q.2)
 |ret=>
  exact fun todo=>(hC main T hT).go rfl rfl (g':=G {aH b a' (.code .ret::todo) with mode:= .returning} (cl::cs)) (fun w=>by simp[G,stepG,stepG.exec,aH,b]) (rz _ q.1 q.2)
 |panic ch=>
  intro todo
  refine(hC main T hT).go rfl rfl (g':=G (cl.raise ch) cs) (fun w=>?_) (k2 _ _ q.2)
  have Cq:∀fr:Frame,fr.fn=f→fr.catches P=false:=by
   intro fr XP;simp[Frame.catches,XP,hf]
  have:=Cq {aH b a' todo with mode:= .panicking ch} rfl
  simp only[aH,q.1] at this
  simp[G,stepG,unwind,aH,b,q.1,this]
 |exit id=>exact q.elim
 |goto l=>exact q.elim
 |outgrown=>exact q.elim
end rules
abbrev Env:=List (Nat×Value)
variable {env:Env}
def get:Env→Nat→Value
 | [],_=>undef
 | (k,v)::r,t=>bif Nat.beq k t then v else get r t
def A(n:Nat)(env:Env)(D:List Deferred):Act:=⟨Array.ofFn (n:=n) fun i=>get env i,D⟩
def ev(n:Nat)(env:Env):Operand→Value
 | .tmp t=>bif Nat.blt t n then get env t else undef
 | .const v=>v
 | .global g=> .pointer (some ⟨g,0,none⟩)
 | .func f=> .func (.func f) #[] #[]
def gF:Env→Nat→Option Value
 | [],_=>none
 | (k,v)::r,t=>bif Nat.beq k t then some v else gF r t
def ba(n:Nat)(env:Env):Operand→Option Value
 | .tmp t=>bif Nat.blt t n then gF env t else none
 | .const v=>some v
 | .global g=>some (.pointer (some ⟨g,0,none⟩))
 | .func f=>some (.func (.func f) #[] #[])
def xq(n:Nat)(env:Env):List Operand→Option (List Value)
 | []=>some []
 |x::l=>match ba n env x with
  |some v=>match xq n env l with
   |some r=>some (v::r)
   |none=>none
  |none=>none
def uO(n:Nat)(env:Env)(xs:Array Operand):Option (List Value):=xq n env xs.toList
theorem mr{t:Nat}{v:Value}(h:gF env t=some v):get env t=v:=by
 induction env with
 |nil=>cases h
 |cons x env ih=>
  rcases x with ⟨k,u⟩
  simp only[gF,get] at h ⊢
  cases hb:Nat.beq k t with
  |true=>rw[hb] at h;simpa using h
  |false=>rw[hb] at h;exact ih h
theorem aC{v:Value}(h:ba n env x=some v):ev n env x=v:=by
 cases x with
 |tmp t=>
  simp only[ba,ev] at h ⊢
  cases hb:Nat.blt t n with
  |true=>rw[hb] at h;exact mr h
  |false=>rw[hb] at h;cases h
 |const u=>simpa [ba,ev] using h
 |global g=>simpa [ba,ev] using h
 |func f=>simpa [ba,ev] using h
theorem afg:∀ {xs:List Operand} {l:List Value},xq n env xs=some l→xs.map (ev n env)=l
 | [],l,h=>by simpa [xq] using h
 |x::xs,l,h=>by
  simp only[xq] at h
  cases hx:ba n env x with
  |none=>rw[hx] at h;cases h
  |some v=>
   rw[hx] at h
   cases hr:xq n env xs with
   |none=>rw[hr] at h;cases h
   |some r=>rw[hr] at h;simp only[Option.some.injEq] at h;subst h;simp[aC hx,afg hr]
theorem rF(h:uO n env xs=some l):xs.map (ev n env)=⟨l⟩:=by
 have:=afg h
 rcases xs with ⟨xs⟩
 simpa using this
def upd(dst:Option Tmp)(v:Value)(env:Env):Env:=
 match dst with
 |some d=>(d,v)::env
 |none=>env
theorem Mg(n:Nat)(env:Env)(D:List Deferred)(t:Nat):(A n env D).tmps[t]?=if t <n then some (get env t) else none:=by
 simp only[A,Array.getElem?_ofFn]
 split<;>rfl
theorem dW(n:Nat)(env:Env)(D:List Deferred):(A n env D).eval=ev n env:=by
 funext x
 cases x with
 |tmp t=>
  simp only[Act.eval,ev,Array.getD_eq_getD_getElem?,Mg]
  by_cases h:t <n
  ·rw[if_pos h,show Nat.blt t n=true from by simpa [Nat.blt_eq] using h];rfl
  ·rw[if_neg h,show Nat.blt t n=false from by simpa [Nat.blt_eq,←Bool.not_eq_true] using h];rfl
 |_=>rfl
theorem cu(k t:Nat)(v:Value)(r:Env):get ((k,v)::r) t=if k=t then v else get r t:=by
 simp only[get]
 by_cases h:k=t
 ·subst h;simp
 ·rw[if_neg h,show Nat.beq k t=false from by simpa [←Bool.not_eq_true] using h];rfl
theorem aU(n:Nat)(env:Env)(D:List Deferred)(dst:Option Tmp)(v:Value):(A n env D).put dst v=A n (upd dst v env) D:=by
 cases dst with
 |none=>rfl
 |some d=>
  simp only[Act.put,upd,A,Act.mk.injEq,and_true]
  apply Array.ext_getElem?
  intro i
  rw[Array.getElem?_setIfInBounds]
  simp only[Array.getElem?_ofFn,Array.size_ofFn]
  by_cases h:d=i
  ·subst h
   by_cases h2:d <n<;>simp[h2,cu]
  ·simp only[h,if_false]
   split
   ·simp[cu,h]
   ·rfl
def Holds(n:Nat)(env:Env)(D:List Deferred)(a:Act):Prop:=∃rest,a=A n (env++rest) D
theorem get_append(env rest:Env)(t:Nat):get (env++rest) t=if (env.any fun x=>x.1==t) then get env t else get rest t:=by
 induction env with
 |nil=>simp
 |cons x env ih=>
  rcases x with ⟨k,v⟩
  simp only[List.cons_append,cu,List.any_cons]
  by_cases h:k=t
  ·simp[h]
  ·have hk:(k==t)=false:=by simpa using h
   rw[if_neg h,if_neg h,ih,hk,Bool.false_or]
theorem holds_of(n:Nat)(env kH:Env)(D:List Deferred)(h:∀x∈env,get kH x.1=x.2)(hd:∀x∈env,get env x.1=x.2):Holds n env D (A n kH D):=by
 refine⟨kH,?_⟩
 simp only[A,Act.mk.injEq,and_true]
 congr 1
 funext i
 rw[get_append]
 split
 ·rename_i ha
  obtain⟨x,hx,hk⟩:=List.any_eq_true.1 ha
  have hk:x.1=i.val:=by simpa using hk
  rw[←hk,h x hx,hd x hx]
 ·rfl
def aw(ops:Array Oper)(n:Nat)(env:Env):Option (Nat×Bool)→Bool
 |none=>true
 |some (j,want)=>match (ops[j]?).bind (·.dst) with
  |some d=>match ba n env (.tmp d) with
   |some (.bool b)=>b==want
   |_=>false
  |none=>false
theorem Ei{ops:Array Oper}{D:List Deferred}{j:Nat}{d:Tmp}{b:Bool}(hd:(ops[j]?).bind (·.dst)=some d) (hv:ba n env (.tmp d)=some (.bool b)):yielded ops (A n env D).tmps j=some b:=by
 simp only[yielded,hd,Option.bind_some,Mg]
 simp only[ba] at hv
 by_cases cz:d <n
 ·rw[show Nat.blt d n=true from by simpa [Nat.blt_eq] using cz] at hv
  simp only[cond_true] at hv
  rw[if_pos cz,mr hv]
 ·rw[show Nat.blt d n=false from by simpa [Nat.blt_eq,←Bool.not_eq_true] using cz] at hv
  cases hv
theorem AV(ops:Array Oper)(n:Nat)(env:Env)(D:List Deferred)(o:Oper)(h:aw ops n env o.guard=true):Region.wanted o (yielded ops (A n env D).tmps)=true:=by
 unfold Region.wanted
 cases hg:o.guard with
 |none=>rfl
 |some x=>
  rcases x with ⟨j,want⟩
  rw[hg] at h
  simp only[aw] at h
  cases hd:(ops[j]?).bind (·.dst) with
  |none=>rw[hd] at h;cases h
  |some d=>
   rw[hd] at h
   simp only at h
   cases hv:ba n env (.tmp d) with
   |none=>rw[hv] at h;cases h
   |some v=>
    rw[hv] at h
    cases v<;>first
     | (simp only at h;simp only[Ei hd hv];simpa using h)
     | (cases h;done)
theorem MF(ops:Array Oper)(n:Nat)(env:Env)(D:List Deferred)(o:Oper)(j:Nat)(want:Bool)(d:Tmp)(b:Bool)(hg:o.guard=some (j,want))(hd:(ops[j]?).bind (·.dst)=some d)
 (hv:ba n env (.tmp d)=some (.bool b)) (hb:(b==want)=false):Region.wanted o (yielded ops (A n env D).tmps)=false:=by
 unfold Region.wanted
 rw[hg]
 simp only[Ei hd hv]
 simpa using hb
structure TF(P:Program)(t:TypeId)(d:TypeDesc)(size bytes:Nat)(zero:List Value)(agg:Bool):Prop where
 und:P.underlying t=some d
 info:∃i,P.info? t=some i∧i.size=size∧i.bytes=bytes∧∃z,i.zero=some z∧z.cells=⟨zero⟩∧z=if agg then .agg ⟨zero⟩ else zero.headD undef
 isAgg:agg=(match d with| .struct _| .array _ _=>true|_=>false)
structure FF(P:Program)(f:FuncId):Prop where
 ff:∃fn,P.funcs[f]?=some fn∧(fn.name== "runtime.NumGoroutine")=false∧fn.body.isNone=false
section rules
variable {P:Program} {C:Class} {fn:FuncId} {ay:Option Nat} {Q:Post} {s:St} {n:Nat} {env:Env} {D:List Deferred}
variable {ops:Array Oper} {i:Nat} {rest:List Nat} {dst:Option Tmp} {ty:TypeId} {pos:String} {cS:Array Edge} {g:Option (Nat×Bool)}
theorem bJ(hC:∀main T,C main T→Closed P main T){o:Oper}(ho:ops[i]?=some o) (hw:aw ops n env o.guard=true) (hd:∀c,o.op≠ .defer c)
 (h:bG P (execOp (ev n env) o) s (upon C P ay o.dst (A n env D) (fun a' s'=>ab C fn ay ops rest Q a' s') Q) (Ki (A n env D) Q)):ab C fn ay ops (i::rest) Q (A n env D) s:=by
 rw[←dW n env D] at h
 exact Kg hC ho (AV _ _ _ _ _ hw) (.inr hd) h
theorem tC(hC:∀main T,C main T→Closed P main T){o:Oper}(ho:ops[i]?=some o) {j:Nat} {want:Bool} {d:Tmp} {b:Bool} (hg:o.guard=some (j,want)) (hd:(ops[j]?).bind (·.dst)=some d)
 (hv:ba n env (.tmp d)=some (.bool b)) (hb:(b==want)=false) (h:ab C fn ay ops rest Q (A n (upd o.dst undef env) D) s):ab C fn ay ops (i::rest) Q (A n env D) s:=by
 refine tx hC ho (MF _ _ _ _ _ _ _ _ _ hg hd hv hb) ?_
 rw[aU];exact h
theorem sg(hC:∀main T,C main T→Closed P main T){o:Oper}{v:Value}(ho:ops[i]?=some o) (hw:aw ops n env o.guard=true) (hd:∀c,o.op≠ .defer c)
 (hv:execOp (ev n env) o=Sem.pure (.value v)) (h:ab C fn ay ops rest Q (A n (upd o.dst v env) D) s):ab C fn ay ops (i::rest) Q (A n env D) s:=by
 refine bJ hC ho hw hd ?_
 rw[hv]
 show ab _ _ _ _ _ _ _ _
 rw[aU];exact h
theorem NF(hC:∀main T,C main T→Closed P main T){op:BinOp}{y:Operand}{T:TypeId}{k:IntKind}{a b:Int}{v:Value}(ho:ops[i]?=some ⟨dst,.binOp op T x y T',ty,pos,cS,g⟩) (hw:aw ops n env g=true)
 (hx:ba n env x=some (.int k a)) (hy:ba n env y=some (.int k b)) (hv:binOp op T (.int k a) (.int k b)=Sem.pure v) (h:ab C fn ay ops rest Q (A n (upd dst v env) D) s):ab C fn ay ops (i::rest) Q (A n env D) s:=by
 refine sg hC ho hw (by simp) ?_ h
 simp only[execOp,aC hx,aC hy]
 have he:eqGuard op T x y (.int k a) (.int k b)=Sem.pure ():=by
  unfold eqGuard
  cases op<;>rfl
 rw[he]
 show Sem.bind (Sem.bind (Sem.pure ()) fun _=>binOp op T (.int k a) (.int k b)) _=_
 simp only[Sem.bind,hv]
 rfl
theorem jV(x:Int)(h: -9223372036854775808≤x∧x≤9223372036854775807):IntKind.i64.wrap x=x:=IntWalk.i64_in x h
end rules
section sem
variable {P:Program} {α:Type} {s:St} {Q:α→St→Prop} {E:Halt→St→Prop} {t:TypeId} {d:TypeDesc} {sz bu:Nat} {z:List Value} {ag:Bool}
theorem ae{a:β}{k:β→Sem α}:bG P (pure a >>= k) s Q E=bG P (k a) s Q E:=rfl
theorem aa{γ:Type}{x:Sem β}{f:β→Sem γ}{k:γ→Sem α}:bG P ((x >>= f) >>= k) s Q E=bG P (x >>= fun a=>f a >>= k) s Q E:=by
 have:∀(x:Sem β),((x.bind f).bind k)=x.bind fun a=>(f a).bind k:=by
  intro x
  induction x with
  |pure a=>rfl
  |halt h=>rfl
  |load m a k ih=>simp only[Sem.bind,ih]
  |store m a v k ih=>simp only[Sem.bind,ih]
  |new o k ih=>simp only[Sem.bind,ih]
  |shape r k ih=>simp only[Sem.bind,ih]
  |freeze a n k ih=>simp only[Sem.bind,ih]
  |frozen a k ih=>simp only[Sem.bind,ih]
  |getObj r k ih=>simp only[Sem.bind,ih]
  |setObj r o k ih=>simp only[Sem.bind,ih]
  |choose q k ih=>simp only[Sem.bind,ih]
  |sys c k ih=>simp only[Sem.bind,ih]
  |program k ih=>simp only[Sem.bind,ih]
  |mark m k ih=>simp only[Sem.bind,ih]
 show bG P ((x.bind f).bind k) s Q E=bG P (x.bind fun a=>(f a).bind k) s Q E
 rw[this]
theorem eI{k:Program→Sem α}:bG P (program >>= k) s Q E=bG P (k P) s Q E:=rfl
theorem aW(h:TF P t d sz bu z ag){k:TypeDesc→Sem α}:bG P (underlying t >>= k) s Q E=bG P (k d) s Q E:=by
 simp only[underlying,aa,eI,h.und,ae]
theorem bW(h:TF P t d sz bu z ag){k:Nat→Sem α}:bG P (sizeOf t >>= k) s Q E=bG P (k sz) s Q E:=by
 obtain⟨i,hi,h1,_⟩:=h.info
 simp only[sizeOf,typeInfo,aa,eI,hi,ae,h1]
def Mt(z:List Value)(ag:Bool):Value:=if ag then .agg ⟨z⟩ else z.headD undef
theorem jK(h:TF P t d sz bu z ag){k:Value→Sem α}:bG P (zeroValue t >>= k) s Q E=bG P (k (Mt z ag)) s Q E:=by
 obtain⟨i,hi,h1,h2,x,hx,hc,he⟩:=h.info
 simp only[zeroValue,typeInfo,aa,eI,hi,ae,hx,he,Mt]
theorem dR(h:TF P t d sz bu z ag):(Mt z ag).cells=⟨z⟩:=by
 obtain⟨i,hi,h1,h2,x,hx,hc,he⟩:=h.info
 rw[←hc,he];rfl
theorem jW(h:TF P t d sz bu z ag){k:Bool→Sem α}:bG P (isAgg t >>= k) s Q E=bG P (k ag) s Q E:=by
 simp only[isAgg,aa,aW h]
 rw[h.isAgg]
 cases d<;>rfl
theorem nJ{k:Nat→Sem α}:bG P (newObj o >>= k) s Q E=∀b,¬s.knows b→bG P (k b) ⟨s.ro,(b,o)::s.rw⟩ Q E:=rfl
theorem iM{cs:Array Value}{k:Addr→Sem α}:bG P (newRow e cs >>= k) s Q E=∀b,¬s.knows b→bG P (k ⟨b,0,none⟩) ⟨s.ro,(b,.cells cs e)::s.rw⟩ Q E:=rfl
theorem rP{v:Value}{k:Addr→Sem α}:bG P (newVar e v >>= k) s Q E=∀b,¬s.knows b→bG P (k ⟨b,0,none⟩) ⟨s.ro,(b,.cells v.cells e)::s.rw⟩ Q E:=rfl
theorem dG(b o k:Nat):(⟨b,o,none⟩:Addr).add k=⟨b,o+k,none⟩:=by
 unfold Addr.add;split
 ·rename_i h;subst h;rfl
 ·rfl
def nth:List Value→Nat→Option Value
 | [],_=>none
 |v::_,0=>some v
 |_::l,o+1=>nth l o
def jJ:List Value→Nat→Option (List Value)
 |_,0=>some []
 | [],_+1=>none
 |v::l,n+1=>match jJ l n with
  |some r=>some (v::r)
  |none=>none
def sub:List Value→Nat→Nat→Option (List Value)
 |l,0,n=>jJ l n
 | [],_+1,_=>none
 |_::l,o+1,n=>sub l o n
def de:List Value→Nat→List Value→List Value
 | [],_,_=>[]
 |x::l,_,[]=>x::l
 |_::l,0,v::vs=>v::de l 0 vs
 |x::l,o+1,v::vs=>x::de l o (v::vs)
theorem rj:∀(l:List Value) (o:Nat),nth l o=l[o]?
 | [],_=>rfl
 |_::_,0=>rfl
 |_::l,o+1=>by simp[nth,rj l o]
theorem MM:∀(l:List Value) (n:Nat) (vs:List Value),jJ l n=some vs→vs.length=n∧∀(j:Nat) (v:Value),vs[j]?=some v→l[j]?=some v
 |l,0,vs,h=>by simp[jJ] at h;subst h;simp
 | [],n+1,vs,h=>by simp[jJ] at h
 |x::l,n+1,vs,h=>by
  simp only[jJ] at h
  cases hr:jJ l n with
  |none=>rw[hr] at h;cases h
  |some r=>
   rw[hr] at h;simp only[Option.some.injEq] at h;subst h
   obtain⟨h1,h2⟩:=MM l n r hr
   refine⟨by simp[h1],fun j v hj=>?_⟩
   cases j with
   |zero=>simpa using hj
   |succ j=>simp at hj ⊢;exact h2 j v hj
theorem sub_eq:∀(l:List Value) (o n:Nat) (vs:List Value),sub l o n=some vs→vs.length=n∧∀(j:Nat) (v:Value),vs[j]?=some v→l[o+j]?=some v
 |l,0,n,vs,h=>by
  have h:jJ l n=some vs:=by cases l<;>exact h
  obtain⟨h1,h2⟩:=MM l n vs h
  exact⟨h1,fun j v hj=>by rw[Nat.zero_add];exact h2 j v hj⟩
 | [],o+1,n,vs,h=>by simp[sub] at h
 |x::l,o+1,n,vs,h=>by
  obtain⟨h1,h2⟩:=sub_eq l o n vs (by simpa [sub] using h)
  refine⟨h1,fun j v hj=>?_⟩
  rw[show o+1+j=(o+j)+1 from by omega]
  simpa using h2 j v hj
theorem kP:∀(l:List Value) (o:Nat) (vs:List Value),(de l o vs).length=l.length
 | [],_,_=>rfl
 |_::_,_,[]=>by simp[de]
 |_::l,0,v::vs=>by simp[de,kP l 0 vs]
 |x::l,o+1,v::vs=>by simp[de,kP l o (v::vs)]
theorem kO(l:List Value)(o:Nat):de l o []=l:=by cases l<;>cases o<;>rfl
theorem Bc:∀(l:List Value) (o:Nat) (v:Value) (vs:List Value),o <l.length→de l o (v::vs)=de (l.set o v) (o+1) vs
 |x::l,0,v,vs,_=>by
  cases vs with
  |nil=>simp[de,kO]
  |cons w ws=>simp[de]
 |x::l,o+1,v,vs,h=>by
  have:=Bc l o v vs (by simpa using h)
  cases vs with
  |nil=>simp only[de,this,kO,List.set_cons_succ]
  |cons w ws=>simp only[de,this,List.set_cons_succ]
def Reads(s:St)(b o:Nat)(v:Value):Prop:=∃l t fz,s.has b (.cells ⟨l⟩ t fz)∧nth l o=some v
def cg(s:St)(b o n:Nat)(vs:List Value):Prop:=∃l t fz,s.has b (.cells ⟨l⟩ t fz)∧sub l o n=some vs
theorem uU{o:Nat}{v:Value}(h:Reads s b o v){k:Value→Sem α}(hk:bG P (k v) s Q E):bG P (load ⟨b,o,none⟩ >>= k) s Q E:=by
 obtain⟨l,t,fz,h1,h2⟩:=h
 exact⟨rfl,rfl,⟨l⟩,t,fz,v,h1,by rw[rj] at h2;simpa using h2,hk⟩
theorem C1{o:Nat}{c:List Value}{fz:Nat×Nat}(hb:s.has b (.cells ⟨c⟩ t fz))(l:List Value):∀(i:Nat) (acc:Array Value) {k:Array Value→Sem α},(∀(j:Nat) (v:Value),l[j]?=some v→c[o+i+j]?=some v)→bG P (k (acc++l.toArray)) s Q E→
 bG P (loadCellsFrom ⟨b,o,none⟩ i l.length acc >>= k) s Q E:=by
 induction l with
 |nil=>intro i acc k _ hk;simpa [loadCellsFrom,ae] using hk
 |cons v l ih=>
  intro i acc k h2 hk
  simp only[List.length_cons,loadCellsFrom,aa,dG]
  refine uU ⟨c,t,fz,hb,by rw[rj];exact h2 0 v rfl⟩ ?_
  refine ih (i+1) (acc.push v) (fun j x hx=>?_) (by simpa using hk)
  have:=h2 (j+1) x (by simpa using hx)
  rw[show o+(i+1)+j=o+i+(j+1) from by omega];exact this
theorem iu{o m:Nat}(h:cg s b o m l){k:Array Value→Sem α}(hk:bG P (k ⟨l⟩) s Q E):bG P (loadCells ⟨b,o,none⟩ m >>= k) s Q E:=by
 obtain⟨c,t,fz,h1,h2⟩:=h
 obtain⟨h3,h4⟩:=sub_eq _ _ _ _ h2
 subst h3
 exact C1 h1 l 0 #[] (by simpa using h4) (by simpa using hk)
theorem ahR{L:List (Nat×Obj)}{o:Nat}{v:Value}{c:List Value}(hs:s.rw=L++(b,.cells ⟨c⟩ e (0,0))::R)(ho:o <c.length)(h1:single v=true){k:Unit→Sem α}
 (hk:bG P (k ()) ⟨s.ro,L++(b,.cells ⟨c.set o v⟩ e (0,0))::R⟩ Q E):bG P (store ⟨b,o,none⟩ v >>= k) s Q E:=
 ⟨rfl,rfl,h1,L,⟨c⟩,e,(0,0),R,hs,by simpa using ho,by simp,by
  rw[show (⟨c⟩:Array Value).setIfInBounds o v=⟨c.set o v⟩ from by simp];exact hk⟩
theorem lZ{L:List (Nat×Obj)}{o:Nat}(l:List Value):∀(i:Nat) (c:List Value) (s:St) {k:Unit→Sem α},s.rw=L++(b,.cells ⟨c⟩ e (0,0))::R→o+i+l.length≤c.length→(∀v∈l,single v=true)→
 bG P (k ()) ⟨s.ro,L++(b,.cells ⟨de c (o+i) l⟩ e (0,0))::R⟩ Q E→bG P (storeCells ⟨b,o,none⟩ l i >>= k) s Q E:=by
 induction l with
 |nil=>intro i c s k hs _ _ hk;rcases s with ⟨ro,Hp⟩;simp only at hs;subst hs;rw[kO] at hk;simpa [storeCells,ae] using hk
 |cons v l ih=>
  intro i c s k hs ho h1 hk
  simp only[List.length_cons] at ho
  simp only[storeCells,aa,dG]
  refine ahR hs (by omega) (h1 v (by simp)) ?_
  refine ih (i+1) _ _ rfl (by simp;omega) (fun x hx=>h1 x (by simp[hx])) ?_
  rw[Bc _ _ _ _ (by omega)] at hk
  simpa [Nat.add_assoc] using hk
end sem
section rules
variable {P:Program} {C:Class} {fn:FuncId} {ay:Option Nat} {Q:Post} {s:St} {n:Nat} {env:Env} {D:List Deferred}
variable {ops:Array Oper} {i:Nat} {rest:List Nat} {dst:Option Tmp} {ty:TypeId} {pos:String} {cS:Array Edge} {g:Option (Nat×Bool)}
variable {T:TypeId} {d:TypeDesc} {sz bu:Nat} {z:List Value} {ag:Bool}
theorem aiB(hC:∀main T,C main T→Closed P main T)(ho:ops[i]?=some ⟨dst,.alloc T,ty,pos,cS,g⟩) (hw:aw ops n env g=true) (tf:TF P T d sz bu z ag)
 (h:∀b,¬s.knows b→ab C fn ay ops rest Q (A n (upd dst (.pointer (some ⟨b,0,none⟩)) env) D) ⟨s.ro,(b,.cells ⟨z⟩ T)::s.rw⟩):ab C fn ay ops (i::rest) Q (A n env D) s:=by
 refine bJ hC ho hw (by simp) ?_
 simp only[execOp,Instr.alloc,aa,jK tf,rP,ae,dR tf]
 intro b hb
 have:=h b hb
 rw[←aU] at this
 exact this
theorem axF(hC:∀main T,C main T→Closed P main T){v:Value}(ho:ops[i]?=some ⟨dst,.box T x,ty,pos,cS,g⟩) (hw:aw ops n env g=true) (hx:ba n env x=some (v)) (hl:v.cells=⟨l⟩)
 (h:∀b,¬s.knows b→ab C fn ay ops rest Q (A n (upd dst (.pointer (some ⟨b,0,none⟩)) env) D) ⟨s.ro,(b,.cells ⟨l⟩ T)::s.rw⟩):ab C fn ay ops (i::rest) Q (A n env D) s:=by
 refine bJ hC ho hw (by simp) ?_
 simp only[execOp,Instr.box,aa,rP,ae,aC hx,hl]
 intro b hb
 have:=h b hb
 rw[←aU] at this
 exact this
theorem DT(hC:∀main T,C main T→Closed P main T){y:Operand}{o:Nat}{v:Value}{L:List (Nat×Obj)}{c:List Value}(ho:ops[i]?=some ⟨dst,.store T x y,ty,pos,cS,g⟩) (hw:aw ops n env g=true) (tf:TF P T d sz bu z ag)
 (hx:ba n env x=some (.pointer (some ⟨b,o,none⟩))) (hy:ba n env y=some (v)) (hl:v.cells=⟨l⟩) (hn:l.length=sz) (h1:∀v∈l,single v=true) (hs:s.rw=L++(b,.cells ⟨c⟩ e (0,0))::R) (hb:o+l.length≤c.length)
 (h:ab C fn ay ops rest Q (A n (upd dst undef env) D) ⟨s.ro,L++(b,.cells ⟨de c o l⟩ e (0,0))::R⟩):ab C fn ay ops (i::rest) Q (A n env D) s:=by
 refine bJ hC ho hw (by simp) ?_
 have uz:v.cells.size=sz:=by rw[hl];simpa using hn
 simp only[execOp,Instr.storeAt,aC hx,aC hy,Instr.sureAddr,storeVar,aa,ae,bW tf,uz,ne_eq,not_true,if_false]
 rw[show v.cells.toList=l from by rw[hl]]
 refine lZ l 0 c s hs (by simpa using hb) h1 ?_
 rw[←aU] at h
 rw[Nat.add_zero]
 exact h
theorem axB(hC:∀main T,C main T→Closed P main T){E:TypeId}{a:Option Addr}{len cap:Nat}(ho:ops[i]?=some ⟨dst,.call ⟨.builtin .len,#[x],#[T]⟩,ty,pos,cS,g⟩) (hw:aw ops n env g=true)
 (tf:TF P T (.slice E) sz bu z ag) (hx:ba n env x=some (.slice a len cap)) (h:ab C fn ay ops rest Q (A n (upd dst (.int .i64 len) env) D) s):ab C fn ay ops (i::rest) Q (A n env D) s:=by
 refine bJ hC ho hw (by simp) ?_
 simp only[execOp,resolve,invoke,builtin,Builtin.len_,List.map_toArray,List.map_cons,List.map_nil,aC hx,ae]
 simp only[List.getElem?_toArray,List.getElem?_cons_zero,aW tf,ae,aa]
 rw[←aU] at h
 exact h
theorem jL{Q:Next→St→Prop}{E:Halt→St→Prop}(ff:FF P f)(h:Q (.enter f args) s):bG P (callFunc f args) s Q E:=by
 obtain⟨fn,h1,h2,h3⟩:=ff.ff
 simp only[callFunc,eI,h1,h2,h3,Bool.false_eq_true,if_false]
 exact h
theorem tE(hC:∀main T,C main T→Closed P main T){fi ca:Array Value}{at_:Array TypeId}{vs ws:List Value}{R:Ending→St→Prop}(ho:ops[i]?=some ⟨dst,.call ⟨.value x,xs,at_⟩,ty,pos,cS,g⟩) (hw:aw ops n env g=true)
 (hv:ba n env x=some (.func (.func f) fi ca)) (ff:FF P f) (hx:uO n env xs=some vs) (rq:fi++⟨vs⟩++ca=⟨ws⟩) (hf:Fn C P f ⟨ws⟩ s R) (h:∀v s',R (.returned v) s'→ab C fn ay ops rest Q (A n (upd dst v env) D) s') (hp:∀ch s',R (.panicked ch) s'→Q (.panic ch) (A n env D) s') (hg:∀s',¬R .outgrown s'):
 ab C fn ay ops (i::rest) Q (A n env D) s:=by
 refine bJ hC ho hw (by simp) ?_
 simp only[execOp,resolve,aC hv,Deferred.ofValue,ae,rF hx]
 simp only[invoke,rq]
 refine jL ff ?_
 refine Fn.mono hf fun e s' hr=>?_
 cases e with
 |returned v=>have:=h v s' hr;rw[←aU] at this;exact this
 |panicked ch=>exact hp ch s' hr
 |outgrown=>exact(hg s' hr).elim
theorem Mx(hC:∀main T,C main T→Closed P main T){c:Operand}{x:Code}{t:Bool}(hc:ba n env c=some (.bool t))(h1:t=true→Wp C fn ay x Q (A n env D) s)(h2:t=false→Wp C fn ay y Q (A n env D) s):
 Wp C fn ay (.cond c x y) Q (A n env D) s:=
 wp_cond_split hC (by rw[dW];exact aC hc) h1 h2
theorem TA(hC:∀main T,C main T→Closed P main T){c:Operand}{x:Code}{t:Bool}(hc:ba n env c=some (.bool t))(ht:t=true)(h1:Wp C fn ay x Q (A n env D) s):Wp C fn ay (.cond c x y) Q (A n env D) s:=
 Mx hC hc (fun _=>h1) (fun h=>by rw[ht] at h;cases h)
theorem TB(hC:∀main T,C main T→Closed P main T){c:Operand}{x:Code}{t:Bool}(hc:ba n env c=some (.bool t))(ht:t=false)(h1:Wp C fn ay y Q (A n env D) s):Wp C fn ay (.cond c x y) Q (A n env D) s:=
 Mx hC hc (fun h=>by rw[ht] at h;cases h) (fun _=>h1)
theorem sX{j:Nat}{want:Bool}{d:Tmp}{b:Bool}(hd:(ops[j]?).bind (·.dst)=some d) (hv:ba n env (.tmp d)=some (.bool b)) (hb:b=want):aw ops n env (some (j,want))=true:=by
 simp only[aw,hd,hv,hb,beq_self_eq_true]
def fG:Nat→List Value→Env
 |_,[]=>[]
 |i,v::l=>(i,v)::fG (i+1) l
theorem OY:∀(l:List Value) (i t:Nat),get (fG i l) t=if i≤t then l.getD (t-i) undef else undef
 | [],i,t=>by simp[fG,get]
 |v::l,i,t=>by
  simp only[fG,cu,OY l (i+1) t]
  by_cases h:i=t
  ·subst h;simp
  ·by_cases h2:i≤t
   ·rw[if_neg h,if_pos h2,if_pos (by omega)]
    obtain⟨d,rfl⟩:∃d,t=i+1+d:=⟨t-i-1,by omega⟩
    rw[show i+1+d-i=d+1 from by omega,show i+1+d-(i+1)=d from by omega]
    simp
   ·rw[if_neg h,if_neg h2,if_neg (by omega)]
theorem kg(args:List Value)(n:Nat)(h:args.length≤n):(⟨(⟨args⟩:Array Value)++Array.replicate (n-args.length) undef,[]⟩:Act)=A n (fG 0 args) []:=by
 simp only[A,Act.mk.injEq,and_true]
 apply Array.ext_getElem?
 intro i
 rw[Array.getElem?_append]
 simp only[Array.getElem?_ofFn,Array.getElem?_replicate,OY]
 by_cases h1:i <args.length
 ·have h2:i <n:=by omega
  simp[h1,h2]
 ·by_cases h2:i <n
  ·simp[h1,h2];omega
  ·simp[h1,h2];omega
theorem O3(hC:∀main T,C main T→Closed P main T){f:FuncId}{fn:Func}{c:Code}{args:List Value}{R:Ending→St→Prop}
 (hf:P.funcs[f]?=some fn) (hb:fn.body=some c) (hn:fn.ntmps=n) (hl:Nat.ble args.length n=true) (h:Wp C f none c (qR P fn R) (A n (fG 0 args) []) s):Fn C P f ⟨args⟩ s R:=by
 refine O4 hC hf hb ?_
 subst hn
 have:=kg args fn.ntmps (Nat.le_of_ble_eq_true hl)
 rw[←this] at h
 exact h
theorem oR{t:Tmp}{v:Value}(hv:ba n env (.tmp t)=some v):(A n env D).tmps[t]?.getD undef=v:=by
 have:=aC hv
 rw[←dW n env D] at this
 simpa [Act.eval,Array.getD_eq_getD_getElem?] using this
theorem vY{fn:Func}{R:Ending→St→Prop}{e:Exit}{a:Act}(he:e= .ret∨e= .normal)(hd:a.defers=[])(h:bG P (results fn a.tmps) s (fun v s'=>∃s0,s0.le s'∧R (.returned v) s0) (fun _ _=>False)):qR P fn R e a s:=by
 rcases he with rfl|rfl<;>exact⟨hd,h⟩
end rules
theorem ajo{i:TypeInfo}{w:World}(h:(typeInfo t).run P w= .ok i w):P.info? t=some i:=by
 simp only[typeInfo] at h
 change (Sem.program fun p=>Sem.bind (Sem.pure p) fun p=>match p.info? t with|some i=>Sem.pure i|none=>stuck "no such type").run P w=_ at h
 simp only[Sem.run,Sem.bind] at h
 cases hi:P.info? t with
 |none=>rw[hi] at h;simp[stuck,Sem.run] at h
 |some j=>rw[hi] at h;simp[Sem.run] at h;rw[h]
theorem mI{i:TypeInfo}{d:TypeDesc}{sz bu:Nat}{z:Value}{ag:Bool}(h:∀w,(typeInfo t).run P w= .ok i w)(hu:P.underlying t=some d)
 (h1:i.size=sz)(h2:i.bytes=bu)(h3:i.zero=some z)(h4:z=if ag then .agg ⟨l⟩ else l.headD undef)(h5:z.cells=⟨l⟩)(h6:ag=(match d with| .struct _| .array _ _=>true|_=>false)):TF P t d sz bu l ag:=
 ⟨hu,⟨i,ajo (h default),h1,h2,z,h3,h5,h4⟩,h6⟩
def ko(env:Env):Env→Prop
 | []=>True
 | (t,v)::r=>gF env t=some v∧ko env r
theorem ko.mem:∀ {e:Env},ko env e→∀x∈e,get env x.1=x.2
 | (t,v)::r,h,x,hx=>by
  rcases List.mem_cons.1 hx with rfl|hx
  ·exact mr h.1
  ·exact ko.mem h.2 x hx
theorem fP{e:Env}{D:List Deferred}(h:ko env e)(hd:ko e e):∃rest,A n env D=A n (e++rest) D:=by
 obtain⟨rest,hr⟩:=holds_of n e env D (ko.mem h) (ko.mem hd)
 exact⟨rest,hr⟩
def Ext(s s':St):Prop:=∀b o,s.has b o→s'.has b o
theorem Ext.refl(s:St):Ext s s:=fun _ _ h=>h
theorem Ext.trans(h:Ext MQ Z0)(k:Ext Z0 ZZ):Ext MQ ZZ:=fun b o hb=>k b o (h b o hb)
theorem cg.ext{o:Nat}{v:List Value}(h:cg s b o n v)(e:Ext s s'):cg s' b o n v:=by
 obtain⟨l,t,fz,h1,h2⟩:=h;exact⟨l,t,fz,e _ _ h1,h2⟩
section rules
variable {P:Program} {C:Class} {fn:FuncId} {ay:Option Nat} {Q:Post} {s:St} {n:Nat} {env:Env} {D:List Deferred}
variable {ops:Array Oper} {i:Nat} {rest:List Nat} {dst:Option Tmp} {ty:TypeId} {pos:String} {cS:Array Edge} {g:Option (Nat×Bool)}
variable {T:TypeId} {d:TypeDesc} {sz bu:Nat} {z:List Value} {ag:Bool}
def PH(n:Nat)(D:List Deferred)(oT:ι→Env)(sf:ι→St)(Inv:ι→Prop)(μ:ι→Nat)(m:Nat)(a:Act)(s:St):Prop:=
 ∃j rest,Inv j∧μ j <m∧a=A n (oT j++rest) D∧(sf j).le s
theorem aiE{oT:ι→Env}{sf:ι→St}{Inv:ι→Prop}{μ:ι→Nat}{m:Nat}(j:ι)(h:Inv j)(hm:μ j <m)(hc:ko env (oT j))(hd:ko (oT j) (oT j))(hs:(sf j).le s):
 PH n D oT sf Inv μ m (A n env D) s:=by
 obtain⟨r,hr⟩:=fP (n:=n) (D:=D) hc hd
 exact⟨j,r,h,hm,hr,hs⟩
theorem Zk(hC:∀main T,C main T→Closed P main T)(oT:ι→Env)(sf:ι→St)(Inv:ι→Prop)(μ:ι→Nat){c:Code}(i0:ι)(h0:Inv i0)(hc:ko env (oT i0))(hd:ko (oT i0) (oT i0))(hs:(sf i0).le s)
 (round:∀i,Inv i→∀rest,Wp C fn ay c (lv (PH n D oT sf Inv μ (μ i)) Q) (A n (oT i++rest) D) (sf i)):Wp C fn ay (.loop c) Q (A n env D) s:=by
 obtain⟨r0,uL⟩:=fP (n:=n) (D:=D) hc hd
 rw[uL]
 intro main T hT b k cs h1 h2 h3 h4
 have key:∀m i rest s,μ i=m→Inv i→(sf i).le s→T (G (aH b (A n (oT i++rest) D) (.code c:: .inLoop c::k)) cs) s:=by
  intro m
  induction m using Nat.strongRecOn with
  |_ m ih=>
   intro i rest s hm hI hle
   refine(hC main T hT).mono _ _ _ hle ?_
   refine round i hI rest main T hT b (.inLoop c::k) cs h1 h2 h3 fun e a' s' q=>?_
   cases e with
   |normal=>
    obtain⟨j,aar,yu,cz,rfl,xm⟩:=q
    exact(hC main T hT).go rfl rfl (g':=G (aH b _ (.code c:: .inLoop c::k)) cs) (fun w=>by simp[G,stepG,stepG.exec,aH]) (ih _ (hm▸cz) j aar s' rfl yu xm)
   |exit id=>exact(h4 _ _ _ q).push rfl (by simp)
   |ret=>exact(h4 _ _ _ q).push (x:= .inLoop c) rfl (by simp)
   |panic ch=>exact(h4 _ _ _ q).push (x:= .inLoop c) rfl (by simp)
   |goto l=>exact(h4 _ _ _ q).elim
   |outgrown=>exact(h4 _ _ _ q).elim
 exact(hC main T hT).go rfl rfl (g':=G (aH b (A n (oT i0++r0) D) (.code c:: .inLoop c::k)) cs) (fun w=>by simp[G,stepG,stepG.exec,aH]) (key _ i0 r0 s rfl h0 hs)
end rules
section rules
variable {P:Program} {C:Class} {fn:FuncId} {ay:Option Nat} {Q:Post} {s:St} {n:Nat} {env:Env} {D:List Deferred}
variable {ops:Array Oper} {i:Nat} {rest todo:List Nat} {dst:Option Tmp} {ty:TypeId} {pos:String} {cS:Array Edge} {g:Option (Nat×Bool)}
variable {T:TypeId} {d:TypeDesc} {sz bu:Nat} {z:List Value} {ag:Bool}
theorem CG{a:Act}(h:Q .normal a s):qh id Q (.exit id) a s:=by simp only[qh,if_true];exact h
theorem CE{PV:Nat}{a:Act}(dP:Nat.beq PV id=false)(h:Q (.exit PV) a s):qh id Q (.exit PV) a s:=by
 have:¬PV=id:=by intro e;subst e;simp at dP
 simp only[qh,this,if_false];exact h
theorem zh(hC:∀main T,C main T→Closed P main T){op:BinOp}{y:Operand}{T:TypeId}{a b:ByteArray}{v:Value}(ho:ops[i]?=some ⟨dst,.binOp op T x y T',ty,pos,cS,g⟩) (hw:aw ops n env g=true)
 (hx:ba n env x=some (.string a)) (hy:ba n env y=some (.string b)) (hv:Op.stringOp op a b=Sem.pure v) (ax:(match op with| .shl| .shr=>false|_=>true)=true) (h:ab C fn ay ops rest Q (A n (upd dst v env) D) s):ab C fn ay ops (i::rest) Q (A n env D) s:=by
 refine sg hC ho hw (by simp) ?_ h
 simp only[execOp,aC hx,aC hy]
 have he:eqGuard op T x y (.string a) (.string b)=Sem.pure ():=by
  unfold eqGuard
  cases op<;>rfl
 have hb:binOp op T (.string a) (.string b)=Op.stringOp op a b:=by cases op<;>first|rfl|cases ax
 rw[he,hb,hv]
 rfl
end rules
end Go.L
