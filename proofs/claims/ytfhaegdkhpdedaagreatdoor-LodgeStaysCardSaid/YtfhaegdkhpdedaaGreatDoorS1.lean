/- Part 1 of the proof. -/
import Derived.Calls
import Derived.Conc.Own
import Derived.IntWalk
import Derived.Laws.Sem
set_option maxRecDepth 100000
set_option maxHeartbeats 4000000
set_option linter.all false
namespace Go.L
theorem af:type_of% @of_decide_eq_false:=@of_decide_eq_false
theorem ah:type_of% @of_decide_eq_true:=@of_decide_eq_true
theorem ai:type_of% @List.getElem?_eq_getElem:=@List.getElem?_eq_getElem
theorem aj:type_of% @List.mem_of_getElem?:=@List.mem_of_getElem?
theorem ar:type_of% @decide_eq_false_iff_not:=@decide_eq_false_iff_not
theorem av:type_of% @Bool.and_eq_true:=@Bool.and_eq_true
theorem ax:type_of% @Bool.and_eq_false_iff:=@Bool.and_eq_false_iff
theorem ay:type_of% @Bool.or_eq_false_iff:=@Bool.or_eq_false_iff
theorem az:type_of% @Bool.not_eq_true':=@Bool.not_eq_true'
theorem aA:type_of% @List.getElem?_eq_some_iff:=@List.getElem?_eq_some_iff
theorem aB:type_of% @Option.some.injEq:=@Option.some.injEq
theorem aC:type_of% @decide_eq_true_eq:=@decide_eq_true_eq
theorem aD:type_of% @Bool.not_eq_false':=@Bool.not_eq_false'
theorem aE:type_of% @not_true_eq_false:=@not_true_eq_false
theorem aF:type_of% @Bool.or_eq_true:=@Bool.or_eq_true
theorem aJ:type_of% @List.length_cons:=@List.length_cons
theorem aK:type_of% @Option.some.inj:=@Option.some.inj
theorem aL:type_of% @List.length_append:=@List.length_append
theorem aM:type_of% @List.length_set:=@List.length_set
theorem aN:type_of% @List.mem_cons:=@List.mem_cons
theorem aO:type_of% @List.length_nil:=@List.length_nil
theorem aU:type_of% @List.mem_singleton:=@List.mem_singleton
theorem aW:type_of% @Bool.false_eq_true:=@Bool.false_eq_true
theorem aY:type_of% @List.nil_append:=@List.nil_append
theorem aZ:type_of% @or_false:=@or_false
theorem a8:type_of% @List.mem_map:=@List.mem_map
theorem bk:type_of% @Nat.le_refl:=@Nat.le_refl
theorem bx:type_of% @List.append_assoc:=@List.append_assoc
theorem bE:type_of% @false_or:=@false_or
theorem bF:type_of% @List.take_of_length_le:=@List.take_of_length_le
theorem bJ:type_of% @List.mem_append:=@List.mem_append
def bK:=@Nat.zero_lt_one
theorem bL:type_of% @Prod.mk.injEq:=@Prod.mk.injEq
def bQ:=@Nat.zero_le
theorem bR:type_of% @List.map_cons:=@List.map_cons
theorem bV:type_of% @Array.append_empty:=@Array.append_empty
def bZ:=@Nat.le_trans
def cb:=@List.mem_cons_of_mem
theorem cw:type_of% @List.map_append:=@List.map_append
theorem cy:type_of% @if_neg:=@if_neg
def cE:=@Int.toNat_of_nonneg
theorem cG:type_of% @cond_true:=@cond_true
theorem cH:type_of% @List.length_take:=@List.length_take
theorem cJ:type_of% @if_false:=@if_false
theorem cM:type_of% @List.all_eq_true:=@List.all_eq_true
theorem cN:type_of% @decide_eq_true:=@decide_eq_true
theorem cP:type_of% @Nat.le_of_ble_eq_true:=@Nat.le_of_ble_eq_true
theorem cQ:type_of% @List.mem_filter:=@List.mem_filter
theorem cX:type_of% @decide_eq_false:=@decide_eq_false
def cY:=@List.mem_map_of_mem
def cZ:=@List.mem_append_left
theorem dA:type_of% @Array.empty_append:=@Array.empty_append
theorem dD:type_of% @Option.map_some:=@Option.map_some
theorem dE:type_of% @List.length_map:=@List.length_map
theorem dF:type_of% @if_true:=@if_true
theorem dK:type_of% @List.cons_append:=@List.cons_append
theorem dN:type_of% @if_pos:=@if_pos
theorem dQ:type_of% @List.mem_cons_self:=@List.mem_cons_self
def dR:=@Int.eq_ofNat_of_zero_le
theorem dV:type_of% @List.getElem?_of_mem:=@List.getElem?_of_mem
theorem dW:type_of% @Nat.eq_of_beq_eq_true:=@Nat.eq_of_beq_eq_true
theorem dZ:type_of% @List.mem_range:=@List.mem_range
theorem eo:type_of% @List.nodup_append:=@List.nodup_append
theorem e9:type_of% @List.append_nil:=@List.append_nil
theorem fo:type_of% @Option.map_eq_some_iff:=@Option.map_eq_some_iff
theorem fF:type_of% @List.not_mem_nil:=@List.not_mem_nil
theorem fG:type_of% @List.mem_flatMap:=@List.mem_flatMap
theorem fH:type_of% @List.take_append_drop:=@List.take_append_drop
theorem fI:type_of% @Array.getElem?_modify:=@Array.getElem?_modify
def fS:=@Nat.not_lt_zero
theorem fX:type_of% @Array.getD_eq_getD_getElem?:=@Array.getD_eq_getD_getElem?
theorem gi:type_of% @List.getElem?_map:=@List.getElem?_map
def gD:=@List.mem_append_right
theorem gN:type_of% @List.drop_eq_getElem_cons:=@List.drop_eq_getElem_cons
def ia:=@Classical.byContradiction
def iB:=@List.perm_append_comm
theorem iE:type_of% @Nat.zero_add:=@Nat.zero_add
theorem iF:type_of% @List.flatMap_append:=@List.flatMap_append
theorem iG:type_of% @List.nodup_cons:=@List.nodup_cons
theorem iH:type_of% @List.cons.injEq:=@List.cons.injEq
theorem iL:type_of% @List.flatMap_cons:=@List.flatMap_cons
theorem jz:type_of% @Ne.symm:=@Ne.symm
theorem jB:type_of% @List.perm_middle:=@List.perm_middle
theorem jC:type_of% @Array.size_setIfInBounds:=@Array.size_setIfInBounds
theorem jI:type_of% @cond_false:=@cond_false
theorem jZ:type_of% @Array.getElem?_setIfInBounds_ne:=@Array.getElem?_setIfInBounds_ne
theorem kD:type_of% @List.getElem?_append_left:=@List.getElem?_append_left
theorem kQ:type_of% @List.eq_nil_of_length_eq_zero:=@List.eq_nil_of_length_eq_zero
theorem lQ:type_of% @Option.map_none:=@Option.map_none
theorem lR:type_of% @List.map_nil:=@List.map_nil
theorem lS:type_of% @List.foldl_cons:=@List.foldl_cons
def mh:=@Nat.mul_le_mul_right
theorem my:type_of% @List.getElem?_cons_zero:=@List.getElem?_cons_zero
theorem nk:type_of% @Function.comp_def:=@Function.comp_def
def nQ:=@Nat.lt_succ_self
def ox:=@Classical.choose_spec
theorem oR:type_of% @Option.bind_some:=@Option.bind_some
theorem oS:type_of% @List.pairwise_cons:=@List.pairwise_cons
theorem oT:type_of% @List.map_toArray:=@List.map_toArray
theorem oU:type_of% @Array.mem_append:=@Array.mem_append
theorem oV:type_of% @Array.getElem?_setIfInBounds_self_of_lt:=@Array.getElem?_setIfInBounds_self_of_lt
def pH:=@Nat.pow_le_pow_right
def pI:=@List.ext_getElem?
def qz:=@congrArg
theorem qU:type_of% @List.map_map:=@List.map_map
theorem qZ:type_of% @Bool.not_true:=@Bool.not_true
theorem rD:type_of% @List.length_drop:=@List.length_drop
theorem si:type_of% @Nat.ble_eq:=@Nat.ble_eq
theorem sj:type_of% @List.getElem?_append_right:=@List.getElem?_append_right
theorem sr:type_of% @Bool.not_false:=@Bool.not_false
theorem sL:type_of% @List.getElem?_toArray:=@List.getElem?_toArray
theorem tO:type_of% @Array.getElem?_eq_getElem:=@Array.getElem?_eq_getElem
theorem ug:type_of% @Nat.add_zero:=@Nat.add_zero
theorem wP:type_of% @Option.getD_some:=@Option.getD_some
def wQ:=@Int.tmod_nonneg
theorem wR:type_of% @Bool.false_and:=@Bool.false_and
def w6:=@Int.tmod_lt_of_pos
def w7:=@Array.ext_getElem?
theorem Ad:type_of% @List.sum_cons:=@List.sum_cons
def Az:=@List.length_filter_le
theorem AA:type_of% @List.getElem?_eq_none:=@List.getElem?_eq_none
def AB:=@List.Perm.append_left
def AF:=@List.getElem_mem
theorem Cy:type_of% @List.mem_of_mem_drop:=@List.mem_of_mem_drop
theorem Dh:type_of% @List.map_set:=@List.map_set
def Dr:=@Nat.lt_or_ge
def FG:=@Nat.lt_of_le_of_lt
def FH:=@Nat.eq_zero_or_pos
def FI:=@List.nodup_nil
def FJ:=@List.append_of_mem
theorem F8:type_of% @Bool.true_and:=@Bool.true_and
theorem GC:type_of% @List.range_succ:=@List.range_succ
theorem GD:type_of% @Bool.eq_iff_iff:=@Bool.eq_iff_iff
theorem HG:type_of% @Nat.lt_of_lt_of_le:=@Nat.lt_of_lt_of_le
theorem HH:type_of% @List.set_cons_succ:=@List.set_cons_succ
def HO:=@Nat.lt_succ_iff_lt_or_eq
theorem HP:type_of% @Nat.add_mul:=@Nat.add_mul
theorem Mg:type_of% @and_true:=@and_true
theorem Mh:type_of% @List.pairwise_map:=@List.pairwise_map
theorem Mi:type_of% @List.drop_eq_nil_of_le:=@List.drop_eq_nil_of_le
theorem Mj:type_of% @Array.size_map:=@Array.size_map
theorem Mk:type_of% @Array.append_singleton:=@Array.append_singleton
def Nj:=@List.Perm.append_right
theorem RS:type_of% @List.getElem_inj:=@List.getElem_inj
def Sn:=@Nat.mul_le_mul
def So:=@Array.mem_toList_iff
theorem Tb:type_of% @and_self:=@and_self
theorem YD:type_of% @List.flatten_append:=@List.flatten_append
def YE:=@Int.natCast_nonneg
theorem YF:type_of% @Array.length_toList:=@Array.length_toList
theorem acz:type_of% @Nat.succ_mul:=@Nat.succ_mul
theorem acA:type_of% @Nat.sub_zero:=@Nat.sub_zero
theorem agl:type_of% @Nat.blt_eq:=@Nat.blt_eq
theorem agm:type_of% @Array.append_assoc:=@Array.append_assoc
end Go.L
namespace Go.L
open Go
variable {α β ι:Type} {l z vs z':List Value} {R:List (Nat×Obj)} {x y:Operand} {b o n i id sz j nF Dc dep:Nat} {Pl:List (Nat×Value)} {t T':TypeId} {f:Operand→Value} {cs:List Frame} {args ca fi:Array Value} {xs:Array Operand} {main r EM:Bool} {ds:List Deferred} {o':Obj} {w' ami:World} {fr:Frame} {assign body:Code} {fn:FuncId} {d:Tmp}
structure St where
 ro:Nat->Option Obj
 rw:List (Nat×Obj)
variable {E:Halt→St→Prop} {T:Goroutine→St→Prop} {s' Y8 anb ana:St}
def wL:Nat:=9
def Obj.real:Obj->Bool
 | .pending .. =>false
 |_=>true
def NL:Nat:=1000000
theorem aek{t u:Nat}(h:t<=NL):t≠u+(NL+1):=by omega
def LV(o:Obj)(h:Option Obj):Prop:=(h=some o/\Obj.real o=true)\/(∃c c' t,o= .pending c t/\h=some (.cells c' t (0,0))/\c'.size=c.size/\(∀j,j≠wL->c'[j]?=c[j]?)/\t<=NL)\/
 ∃c t,o= .pending c (t+(NL+1))/\h=some (.pending c t)
def St.has(s:St)(b:Nat)(o:Obj):Prop:=s.ro b=some o\/(b,o)∈s.rw
def St.owns(s:St)(b:Nat):Prop:=∃o,(b,o)∈s.rw
def St.knows(s:St)(b:Nat):Prop:=s.ro b≠none\/s.owns b
structure dh(s:St)(w:World):Prop where
 ro:∀b o,s.ro b=some o->LV o w.heap[b]?
 rw:∀b o,(b,o)∈s.rw->w.heap[b]?=some o
 real:∀b o,(b,o)∈s.rw->Obj.real o=true
 nodup:(s.rw.map (·.1)).Nodup
 apart:∀b o,(b,o)∈s.rw->s.ro b=none
theorem dh.has{s:St}{w:World}(h:dh s w){o:Obj}(hb:s.has b o)(hr:Obj.real o=true):w.heap[b]?=some o:=
 hb.elim (λk=>(h.ro b o k).elim (·.1) λh=>h.elim (λ⟨_,_,_,e,_⟩=>by rw[e] at hr;cases hr) λ⟨_,_,e,_⟩=>by rw[e] at hr;cases hr) (h.rw b o)
def dh.Vt{s:St}{w:World}(h:dh s w){o:Obj}(hb:s.has b o):LV o w.heap[b]?:=
 hb.elim (h.ro b o) λk=> .inl ⟨h.rw b o k,h.real b o k⟩
def dh.lt{s:St}{w:World}(h:dh s w){o:Obj}(hb:s.has b o):b <w.heap.size:=by
 rcases Dr b _ with hl|hl
 .omega
 rcases h.Vt hb with ⟨h1,_⟩| ⟨_,_,_,_,h1,_⟩| ⟨_,_,_,h1⟩<;>simp_all
def GW:Mark->Bool
 | .acquire _| .release _| .releaseMerge _| .disable| .enable| .read _| .write _=>false
 |_=>true
def N0(s:St)(n:Nat)(e:Event):Prop:=
 match e.loc with
 | .cell a=>e.sync=false/\(n<=a.block\/s.owns a.block\/(e.write=false/\s.ro a.block≠none/\∀c t,s.ro a.block=some (.pending c t)->a.off≠wL))
 | .obj r=>e.sync=false/\(n<=r\/s.owns r\/(e.write=false/\s.ro r≠none))
 | .mark m=>GW m=true
 |_=>False
def blk:Loc->Option Nat
 | .cell a=>some a.block
 | .obj r=>some r
 |_=>none
structure Trans(s:St)(w:World)(s':St)(w':World)(es:Array Event):Prop where
 ny:dh s' w'
 size:w.heap.size<=w'.heap.size
 frame:∀b,b <w.heap.size->¬s.owns b->w'.heap[b]?=w.heap[b]?
 own:∀b,s'.owns b->w.heap.size<=b\/s.owns b
 RZ:∀b,s'.ro b≠none->w.heap.size<=b\/s'.ro b=s.ro b\/s.owns b
 os:w'.os=w.os
 output:w'.output=w.output
 tape:w'.tape=w.tape
 Aw:∀e∈es,N0 s w.heap.size e
 low:∀e∈es,∀b,blk e.loc=some b->b <w'.heap.size
def Trans.refl{s:St}{w:World}(h:dh s w):Trans s w s w #[] where
 ny:=h
 size:=bk _
 frame:=λ_ _ _=>rfl
 own:=λ_ h=> .inr h
 RZ:=λ_ _=> .inr (.inl rfl)
 os:=rfl
 output:=rfl
 tape:=rfl
 Aw:=by simp
 low:=by simp
theorem Trans.trans{aM2 aM1:World}{asP asO:Array Event}(h:Trans Y8 ami anb aM2 asP)(k:Trans anb aM2 ana aM1 asO):
 Trans Y8 ami ana aM1 (asP++asO) where
 ny:=k.ny
 size:=bZ h.size k.size
 frame:=λb hb hn=>by
  rw[k.frame b (HG hb h.size) (λho=>by rcases h.own b ho with h1|h1;omega;exact hn h1),h.frame b hb hn]
 own:=λb hb=>by
  rcases k.own b hb with h1|h1
  .exact .inl (bZ h.size h1)
  exact h.own b h1
 RZ:=λb hb=>by
  rcases k.RZ b hb with h1|h1|h1
  .exact .inl (bZ h.size h1)
  .rw[h1];exact h.RZ b (h1▸hb)
  rcases h.own b h1 with h2|h2
  .exact .inl h2
  exact .inr (.inr h2)
 os:=k.os.trans h.os
 output:=k.output.trans h.output
 tape:=k.tape.trans h.tape
 low:=λe he b hb=>by
  rcases oU.1 he with he|he
  .exact HG (h.low e he b hb) k.size
  exact k.low e he b hb
 Aw:=λe he=>by
  rcases oU.1 he with he|he
  .exact h.Aw e he
  have:=k.Aw e he;unfold N0 at*;split at this
  .rename_i a _;refine⟨this.1,?_⟩;rcases this.2 with h1|h1|h1
   .exact .inl (bZ h.size h1)
   .rcases h.own _ h1 with h2|h2
    .exact .inl h2
    exact .inr (.inl h2)
   rcases h.RZ _ h1.2.1 with h2|h2|h2
   .exact .inl h2
   .exact .inr (.inr ⟨h1.1,by rw[<-h2];exact h1.2⟩)
   exact .inr (.inl h2)
  .rename_i r _;refine⟨this.1,?_⟩;rcases this.2 with h1|h1|h1
   .exact .inl (bZ h.size h1)
   .rcases h.own _ h1 with h2|h2
    .exact .inl h2
    exact .inr (.inl h2)
   rcases h.RZ _ h1.2 with h2|h2|h2
   .exact .inl h2
   .exact .inr (.inr ⟨h1.1,by rw[<-h2];exact h1.2⟩)
   exact .inr (.inl h2)
  .exact this
  exact this
def single:Value->Bool
 | .agg _| .tuple _=>false
 |_=>true
def Obj.Fa:Obj->Bool
 | .cells .. | .pending .. =>true
 |_=>false
def Obj.shapeOf:Obj->Option (TypeId×Nat)
 | .cells c t _=>some (t,c.size)
 | .pending c t=>if t<=NL then some (t,c.size) else none
 |_=>none
def Obj.frozenAt(a:Addr):Obj->Bool
 | .cells _ _ (lo,hi)=>lo<=a.off&&a.off <hi
 |_=>false
def Obj.aby(a:Addr)(n:Nat):Obj->Obj
 | .cells c elem (lo,hi)=> .cells c elem (if lo==hi then (a.off,a.off+n) else (min lo a.off,max hi (a.off+n)))
 |o=>o
def eN(P:Program):Sem α->St->(α->St->Prop)->(Halt->St->Prop)->Prop
 | .pure a,s,Q,_=>Q a s
 | .load m a k,s,Q,E=>m= .plain/\a.spot=none/\∃c t fz v,(s.has a.block (.cells c t fz)\/(s.has a.block (.pending c t)/\a.off≠wL/\t<=NL))/\c[a.off]?=some v/\eN P (k v) s Q E
 | .store m a v k,s,Q,E=>m= .plain/\a.spot=none/\single v=true/\∃L c t fz R,s.rw=L++(a.block,.cells c t fz)::R/\a.off <c.size/\
  (fz.1<=a.off&&a.off <fz.2)=false/\eN P k ⟨s.ro,L++(a.block,.cells (c.setIfInBounds a.off v) t fz)::R⟩ Q E
 | .new o k,s,Q,E=>Obj.real o=true/\∀b,¬s.knows b->eN P (k b) ⟨s.ro,(b,o)::s.rw⟩ Q E
 | .shape r k,s,Q,E=>∃o,s.has r o/\eN P (k (Obj.shapeOf o)) s Q E
 | .freeze a n k,s,Q,E=>if n=0 then eN P k s Q E else
  ∃L o R,s.rw=L++(a.block,o)::R/\eN P k ⟨s.ro,L++(a.block,Obj.aby a n o)::R⟩ Q E
 | .frozen a k,s,Q,E=>∃o,s.has a.block o/\eN P (k (Obj.frozenAt a o)) s Q E
 | .getObj r k,s,Q,E=>∃o,s.has r o/\Obj.Fa o=false/\o.isChan=false/\eN P (k o) s Q E
 | .setObj r o k,s,Q,E=>o.isChan=false/\Obj.real o=true/\∃L o' R,s.rw=L++(r,o')::R/\Obj.Fa o'=false/\eN P k ⟨s.ro,L++(r,o)::R⟩ Q E
 | .choose q k,s,Q,E=>if q.forced then eN P (k 0) s Q E else ∀n,eN P (k (q.cut n)) s Q E
 | .sys _ _,_,_,_=>False
 | .program k,s,Q,E=>eN P (k P) s Q E
 | .mark m k,s,Q,E=>GW m=true/\eN P k s Q E
 | .halt h,s,_,E=>E h s
theorem YW{P:Program}(x:Sem α)(f:α->Sem β)(s:St)(Q:β->St->Prop)(E:Halt->St->Prop)
 (h:eN P x s (λa s'=>eN P (f a) s' Q E) E):eN P (x.bind f) s Q E:=by
 induction x generalizing s with
 |pure a=>exact h
 |load m a k ih=>obtain⟨h1,h2,c,t,fz,v,h3,h4,h5⟩:=h;exact⟨h1,h2,c,t,fz,v,h3,h4,ih _ _ h5⟩
 |store m a v k ih=>obtain⟨h1,h2,h3,L,c,t,fz,R,h4,h5,h6,h7⟩:=h;exact⟨h1,h2,h3,L,c,t,fz,R,h4,h5,h6,ih _ h7⟩
 |new o k ih=>exact⟨h.1,λb hb=>ih _ _ (h.2 b hb)⟩
 |shape r k ih=>obtain⟨o,h1,h2⟩:=h;exact⟨o,h1,ih _ _ h2⟩
 |freeze a n k ih=>
  simp only[Sem.bind,eN] at h ⊢
  grind
 |frozen a k ih=>obtain⟨o,h1,h2⟩:=h;exact⟨o,h1,ih _ _ h2⟩
 |getObj r k ih=>obtain⟨o,h1,h2,h3,h4⟩:=h;exact⟨o,h1,h2,h3,ih _ _ h4⟩
 |setObj r o k ih=>obtain⟨h1,h0,L,o',R,h2,h3,h4⟩:=h;exact⟨h1,h0,L,o',R,h2,h3,ih _ h4⟩
 |choose q k ih=>
  simp only[Sem.bind,eN] at h ⊢
  grind
 |sys c k ih=>exact h.elim
 |program k ih=>exact ih _ _ h
 |mark m k ih=>exact⟨h.1,ih _ h.2⟩
 |halt hh=>exact h
theorem Dw{P:Program}(x:Sem α)(s:St)(Q Q':α->St->Prop)(E E':Halt->St->Prop)
 (hq:∀a s,Q a s->Q' a s)(he:∀a s,E a s->E' a s)(h:eN P x s Q E):eN P x s Q' E':=by
 induction x generalizing s with
 |pure a=>exact hq _ _ h
 |load m a k ih=>obtain⟨h1,h2,c,t,fz,v,h3,h4,h5⟩:=h;exact⟨h1,h2,c,t,fz,v,h3,h4,ih _ _ h5⟩
 |store m a v k ih=>obtain⟨h1,h2,h3,L,c,t,fz,R,h4,h5,h6,h7⟩:=h;exact⟨h1,h2,h3,L,c,t,fz,R,h4,h5,h6,ih _ h7⟩
 |new o k ih=>exact⟨h.1,λb hb=>ih _ _ (h.2 b hb)⟩
 |shape r k ih=>obtain⟨o,h1,h2⟩:=h;exact⟨o,h1,ih _ _ h2⟩
 |freeze a n k ih=>
  simp only[eN] at h ⊢
  grind
 |frozen a k ih=>obtain⟨o,h1,h2⟩:=h;exact⟨o,h1,ih _ _ h2⟩
 |getObj r k ih=>obtain⟨o,h1,h2,h3,h4⟩:=h;exact⟨o,h1,h2,h3,ih _ _ h4⟩
 |setObj r o k ih=>obtain⟨h1,h0,L,o',R,h2,h3,h4⟩:=h;exact⟨h1,h0,L,o',R,h2,h3,ih _ h4⟩
 |choose q k ih=>
  simp only[eN] at h ⊢
  grind
 |sys c k ih=>exact h.elim
 |program k ih=>exact ih _ _ h
 |mark m k ih=>exact⟨h.1,ih _ h.2⟩
 |halt hh=>exact he _ _ h
theorem jF{L:List (Nat×Obj)}{o:Obj}:(b,o)∈L++(b,o)::R:=by simp
def af8{s:St}{w:World}(h:dh s w){L:List (Nat×Obj)}{o:Obj}(hl:s.rw=L++(b,o)::R)(ND:Obj.real o=true->Obj.real o'=true)
 (hw:∀j,w'.heap[j]?=if j=b then some o' else w.heap[j]?):dh ⟨s.ro,L++(b,o')::R⟩ w':=by
 have jA:(b,o)∈s.rw:=by rw[hl];exact jF
 have kT:=h.nodup;rw[hl] at kT;simp only[cw,bR] at kT;rw[eo] at kT;obtain⟨nL,nR,nLR⟩:=kT;rw[iG] at nR;have aA3:∀c x,(c,x)∈L\/(c,x)∈R->c≠b:=by
  rintro c x (hc|hc) rfl
  .exact nLR c (a8.2 ⟨_,hc,rfl⟩) c (by simp) rfl
  exact nR.1 (a8.2 ⟨_,hc,rfl⟩)
 refine⟨λc x hc=>?_,λc x hc=>?_,λc x hc=>?_,?_,λc x hc=>?_⟩
 .rw[hw];by_cases e:c=b
  .subst e;rw[h.apart c o jA] at hc;cases hc
  rw[cy e];exact h.ro c x hc
 .simp only[bJ,aN] at hc;rw[hw];rcases hc with hc|hc|hc
  .rw[cy (aA3 c x (.inl hc))];exact h.rw c x (by rw[hl];simp[hc])
  .cases hc;simp
  rw[cy (aA3 c x (.inr hc))];exact h.rw c x (by rw[hl];simp[hc])
 .simp only[bJ,aN] at hc;rcases hc with hc|hc|hc
  .exact h.real c x (by rw[hl];simp[hc])
  .cases hc;exact ND (h.real b o jA)
  exact h.real c x (by rw[hl];simp[hc])
 .simp only[cw,bR];rw[eo];exact⟨nL,iG.2 nR,nLR⟩
 simp only[bJ,aN] at hc;rcases hc with hc|hc|hc
 .exact h.apart c x (by rw[hl];simp[hc])
 .cases hc;exact h.apart b o jA
 exact h.apart c x (by rw[hl];simp[hc])
theorem aoz{ro:Nat->Option Obj}{L:List (Nat×Obj)}{c:Nat}{o:Obj}(h:(⟨ro,L++(b,o')::R⟩:St).owns c):(⟨ro,L++(b,o)::R⟩:St).owns c:=by
 obtain⟨x,hx⟩:=h;simp only[bJ,aN] at hx;rcases hx with hx|hx|hx
 .exact⟨x,by grind⟩
 .cases hx;exact⟨o,by simp⟩
 exact⟨x,by grind⟩
def JX{s:St}{w:World}(h:dh s w){L:List (Nat×Obj)}{o:Obj}(hl:s.rw=L++(b,o)::R)(ND:Obj.real o=true->Obj.real o'=true)
 (hs:w'.heap.size=w.heap.size)(hw:∀j,w'.heap[j]?=if j=b then some o' else w.heap[j]?)
 (ho:w'.os=w.os) (hu:w'.output=w.output) (ht:w'.tape=w.tape) {es:Array Event} (he:∀e∈es,N0 s w.heap.size e/\∀b,blk e.loc=some b->b <w.heap.size):
 Trans s w ⟨s.ro,L++(b,o')::R⟩ w' es where
 ny:=af8 h hl ND hw
 size:=by omega
 frame:=λc _ hn=>by
  rw[hw];by_cases e:c=b
  .subst e;exact absurd ⟨o,by rw[hl];simp⟩ hn
  rw[cy e]
 own:=λc hc=> .inr (by have:=aoz (o:=o) hc;obtain⟨x,hx⟩:=this;exact⟨x,by rw[hl];exact hx⟩)
 RZ:=λc hc=> .inr (.inl rfl)
 os:=ho
 output:=hu
 tape:=ht
 Aw:=λe h'=>(he e h').1
 low:=λe h' b hb=>hs▸(he e h').2 b hb
def aiS{s:St}{w:World}(h:dh s w)(o:Obj)(ND:Obj.real o=true):Trans s w ⟨s.ro,(w.heap.size,o)::s.rw⟩ {w with heap:=w.heap.push o} #[] where
 ny:=by
  refine⟨λb x hb=>?_,λb x hb=>?_,λb x hb=>?_,?_,λb x hb=>?_⟩
  .have:=h.ro b x hb;have ei:=h.lt (.inl hb);simpa [Array.getElem?_push,Nat.ne_of_lt ei] using this
  .rcases aN.1 hb with hb|hb
   .cases hb;simp
   have:=h.rw b x hb;have ei:=h.lt (.inr hb);simp[Array.getElem?_push,Nat.ne_of_lt ei,this]
  .rcases aN.1 hb with hb|hb
   .cases hb;exact ND
   exact h.real b x hb
  .simp only[bR];refine iG.2 ⟨λhm=>?_,h.nodup⟩;obtain⟨⟨b,x⟩,hx,rfl⟩:=a8.1 hm;have:=h.lt (.inr hx);simp at this
  rcases aN.1 hb with hb|hb
  .cases hb;cases hr:s.ro w.heap.size with
   |none=>rfl
   |some y=>have:=h.lt (.inl hr);omega
  exact h.apart b x hb
 size:=by simp
 frame:=λb hb _=>by simp[Array.getElem?_push,Nat.ne_of_lt hb]
 own:=λb hb=>by
  obtain⟨x,hx⟩:=hb;rcases aN.1 hx with hx|hx
  .cases hx;exact .inl (bk _)
  exact .inr ⟨x,hx⟩
 RZ:=λb hb=> .inr (.inl rfl)
 os:=rfl
 output:=rfl
 tape:=rfl
 Aw:=by simp
 low:=by simp
def abx{s:St}{w:World}(h:dh s w):¬s.knows w.heap.size:=by
 rintro(hk| ⟨o,hk⟩)
 .cases hr:s.ro _ with
  |none=>exact hk hr
  |some y=>have:=h.lt (.inl hr);omega
 have:=h.lt (.inr hk);omega
def Mq{s:St}{w:World}(h:dh s w)(n:Nat):Trans s w s {w with drawn:=n} #[] where
 ny:=⟨h.ro,h.rw,h.real,h.nodup,h.apart⟩
 size:=bk _
 frame:=λ_ _ _=>rfl
 own:=λ_ h=> .inr h
 RZ:=λ_ _=> .inr (.inl rfl)
 os:=rfl
 output:=rfl
 tape:=rfl
 Aw:=by simp
 low:=by simp
theorem OT{s:St}{w:World}(h:dh s w){e:Event}(he:N0 s w.heap.size e)(hb:∀b,blk e.loc=some b->b <w.heap.size):Trans s w s w #[e] where
 ny:=h
 size:=bk _
 frame:=λ_ _ _=>rfl
 own:=λ_ h=> .inr h
 RZ:=λ_ _=> .inr (.inl rfl)
 os:=rfl
 output:=rfl
 tape:=rfl
 Aw:=by grind
 low:=by grind
def CL(s:St)(w:World)(Q:α->St->Prop)(E:Halt->St->Prop)(es:Array Event):Result α->Prop
 | .ok a w'=>∃s',Trans s w s' w' es/\Q a s'
 | .halt h w'=>∃s',Trans s w s' w' es/\E h s'
theorem CL.after{s:St}{w:World}{Q:α->St->Prop}{asP asO:Array Event}{r:Result α}
 (ht:Trans s w Y8 ami asP)(h:CL Y8 ami Q E asO r):CL s w Q E (asP++asO) r:=by
 cases r with
 |ok a w'=>obtain⟨s',h1,h2⟩:=h;exact⟨s',ht.trans h1,h2⟩
 |halt a w'=>obtain⟨s',h1,h2⟩:=h;exact⟨s',ht.trans h1,h2⟩
theorem World.cell_of{s:St}{w:World}(h:dh s w){a:Addr}(ha:a.spot=none){c:Array Value}{fz:Nat×Nat}(hb:s.has a.block (.cells c t fz)):
 w.cell? a=c[a.off]?:=by
 simp[World.cell?,h.has hb rfl,ha]
def World.akW{s:St}{w:World}(h:dh s w){a:Addr}(ha:a.spot=none){c:Array Value}{v:Value}(hb:s.has a.block (.pending c t))(Be:a.off≠wL)(ht:t<=NL)(hv:c[a.off]?=some v):
 w.cell? a=some v:=by
 rcases h.Vt hb with h1| ⟨_,c',_,e,h1,_,h2,_⟩| ⟨_,_,e,_⟩
 .cases h1.2
 .cases e;simp[World.cell?,h1,ha,h2 _ Be,hv]
 exact absurd (Obj.pending.inj e).2 (aek ht)
theorem lK{P:Program}(x:Sem α)(s:St)(Q:α->St->Prop)(E:Halt->St->Prop)(w:World)(es:Array Event)
 (h:eN P x s Q E)(ha:dh s w):∃r iV,x.runT P w es=(r,es++iV)/\CL s w Q E iV r:=by
 induction x generalizing s w es with
 |pure a=>exact⟨.ok a w,#[],by simp only[Sem.runT,Array.append_empty],s,Trans.refl ha,h⟩
 |load m a k ih=>
  obtain⟨rfl,Ua,c,t,fz,v,hb,hv,hk⟩:=h;have hc:w.cell? a=some v:=by
   rcases hb with hb| ⟨hb,Be,htt⟩
   .rw[World.cell_of ha Ua hb,hv]
   exact World.akW ha Ua hb Be htt hv
  have ei:a.block <w.heap.size:=by
   rcases hb with hb| ⟨hb,_⟩
   .exact ha.lt hb
   exact ha.lt hb
  obtain⟨r,e',hr,hl⟩:=ih v s w (es.push ⟨.cell a,false,false⟩) hk ha;refine⟨r,#[⟨.cell a,false,false⟩]++e',?_,CL.after (OT ha ?_ (λb h'=>by cases h';exact ei)) hl⟩
  .simp only[Sem.runT,hc];rw[show (Mode.plain==Mode.atomic)=false from rfl,hr,<-Array.append_singleton,Array.append_assoc]
  refine⟨rfl,?_⟩;rcases hb with (hb|hb)| ⟨hb|hb,Be,_⟩
  .exact .inr (.inr ⟨rfl,by rw[hb];simp,λc t e=>by rw[hb] at e;cases e⟩)
  .exact .inr (.inl ⟨_,hb⟩)
  rotate_left
  .have:=ha.real _ _ hb;cases this
  exact .inr (.inr ⟨rfl,by rw[hb];simp,λ_ _ _=>Be⟩)
 |store m a v k ih=>
  obtain⟨rfl,Ua,ho,L,c,t,fz,R,hl,ei,Gq,hk⟩:=h;have hb:s.has a.block (.cells c t fz):= .inr (by rw[hl];exact jF);have hc:w.cell? a=some c[a.off]:=by rw[World.cell_of ha Ua hb];simp[ei]
  have hh:=ha.has hb rfl;have ayf:=ha.lt hb;have SX:w.frozen? a=false:=by simp only[World.frozen?,hh];exact Gq
  have ht:Trans s w ⟨s.ro,L++(a.block,.cells (c.setIfInBounds a.off v) t fz)::R⟩ (w.setCell a v) #[⟨.cell a,true,false⟩]:=by
   refine JX (w':=w.setCell a v) ha hl (λ_=>rfl) (by simp[World.setCell]) (λj=>?_) rfl rfl rfl ?_
   .simp only[World.setCell,Array.getElem?_modify];by_cases e:a.block=j
    .subst e;simp[hh,Ua]
    simp[e,Ne.symm e]
   simp only[List.mem_toArray,List.mem_singleton,forall_eq];exact⟨⟨rfl,.inr (.inl ⟨_,hb.resolve_left (by rw[ha.apart _ _ (show (a.block,_)∈s.rw by rw[hl];exact jF)];simp)⟩)⟩,λb h'=>by cases h';exact ayf⟩
  obtain⟨r,e',hr,KO⟩:=ih _ (w.setCell a v) (es.push ⟨.cell a,true,false⟩) hk ht.ny;refine⟨r,#[⟨.cell a,true,false⟩]++e',?_,CL.after ht KO⟩;cases v<;>simp only[single,Bool.false_eq_true] at ho<;>
   (simp only[Sem.runT,hc,SX]
    rw[show (Mode.plain==Mode.atomic)=false from rfl];simp only[Bool.false_eq_true,if_false];rw[hr,<-Array.append_singleton,Array.append_assoc])
 |new o k ih=>
  have ht:=aiS ha o h.1;obtain⟨r,e',hr,hl⟩:=ih _ _ {w with heap:=w.heap.push o} es (h.2 w.heap.size (abx ha)) ht.ny;exact⟨r,#[]++e',by simp only[Sem.runT];rw[hr,Array.empty_append],CL.after ht hl⟩
 |shape r k ih=>
  obtain⟨o,hb,hk⟩:=h;have hs:w.shape? r=Obj.shapeOf o:=by
   rcases ha.Vt hb with ⟨h1,h2⟩| ⟨c,c',t,rfl,h1,h2,_,h3⟩| ⟨c,t,rfl,h1⟩
   .simp only[World.shape?,h1];cases o<;>first|rfl|cases h2
   .simp only[World.shape?,h1,Obj.shapeOf,h2,if_pos h3]
   simp only[World.shape?,h1,Obj.shapeOf];rw[if_neg λhl=>aek hl rfl]
  obtain⟨r',e',hr,hl⟩:=ih _ s w es hk ha;exact⟨r',e',by simp only[Sem.runT,hs];exact hr,hl⟩
 |freeze a n k ih=>
  simp only[eN] at h;by_cases hn:n=0
  .rw[if_pos hn] at h;obtain⟨r',e',hr,hl⟩:=ih s w es h ha;exact⟨r',e',by simp only[Sem.runT,World.freeze,hn,if_true];exact hr,hl⟩
  rw[if_neg hn] at h;obtain⟨L,o,R,hl,hk⟩:=h;have hb:s.has a.block o:= .inr (by rw[hl];exact jF);have hh:=ha.has hb (ha.real _ _ (by rw[hl];exact jF));have ht:Trans s w ⟨s.ro,L++(a.block,Obj.aby a n o)::R⟩ (w.freeze a n) #[]:=by
   refine JX (w':=w.freeze a n) ha hl (by cases o<;>exact id) (by simp[World.freeze,hn]) (λj=>?_) (by simp[World.freeze,hn]) (by simp[World.freeze,hn]) (by simp[World.freeze,hn]) (by simp);simp only[World.freeze,hn,if_false,Array.getElem?_modify];by_cases e:a.block=j
   .subst e;simp only[hh,if_true,Option.map_some];cases o<;>rfl
   simp[e,Ne.symm e]
  obtain⟨r',e',hr,KO⟩:=ih _ (w.freeze a n) es hk ht.ny;exact⟨r',#[]++e',by simp only[Sem.runT];rw[hr,Array.empty_append],CL.after ht KO⟩
 |frozen a k ih=>
  obtain⟨o,hb,hk⟩:=h;have hs:w.frozen? a=Obj.frozenAt a o:=by
   rcases ha.Vt hb with ⟨h1,h2⟩| ⟨c,c',t,rfl,h1,h2,_⟩| ⟨c,t,rfl,h1⟩
   .simp only[World.frozen?,h1];cases o<;>first|rfl|cases h2
   .simp[World.frozen?,h1,Obj.frozenAt]
   simp[World.frozen?,h1,Obj.frozenAt]
  obtain⟨r',e',hr,hl⟩:=ih _ s w es hk ha;exact⟨r',e',by simp only[Sem.runT,hs];exact hr,hl⟩
 |getObj r k ih=>
  obtain⟨o,hb,SS,Om,hk⟩:=h;have hh:=ha.has hb (by cases o<;>first|rfl|cases SS);obtain⟨r',e',hr,hl⟩:=ih o s w (es.push ⟨.obj r,false,false⟩) hk ha;refine⟨r',#[⟨.obj r,false,false⟩]++e',?_,CL.after (OT ha ?_ (λb h'=>by cases h';exact ha.lt hb)) hl⟩
  .cases o<;>simp only[Obj.Fa,Obj.isChan,Bool.true_eq_false] at SS Om<;>
    (simp only[Sem.runT,hh,Obj.isChan];rw[hr,<-Array.append_singleton,Array.append_assoc])
  refine⟨rfl,?_⟩;rcases hb with hb|hb
  .exact .inr (.inr ⟨rfl,by rw[hb];simp⟩)
  exact .inr (.inl ⟨_,hb⟩)
 |setObj r o k ih=>
  obtain⟨Om,ND,L,o',R,hl,SS,hk⟩:=h;have hb:s.has r o':= .inr (by rw[hl];exact jF);have hh:=ha.has hb (ha.real _ _ (by rw[hl];exact jF));have ayf:=ha.lt hb;have ht:Trans s w ⟨s.ro,L++(r,o)::R⟩ {w with heap:=w.heap.setIfInBounds r o} #[⟨.obj r,true,false⟩]:=by
   refine JX (w':={w with heap:=w.heap.setIfInBounds r o}) ha hl (λ_=>ND) (by simp) (λj=>?_) rfl rfl rfl ?_
   .simp only[Array.getElem?_setIfInBounds];by_cases e:r=j
    .subst e;simp[ayf]
    simp[e,Ne.symm e]
   simp only[List.mem_toArray,List.mem_singleton,forall_eq];exact⟨⟨rfl,.inr (.inl ⟨o',by rw[hl];exact jF⟩)⟩,λb h'=>by cases h';exact ayf⟩
  obtain⟨r',e',hr,KO⟩:=ih _ _ (es.push ⟨.obj r,true,false⟩) hk ht.ny;refine⟨r',#[⟨.obj r,true,false⟩]++e',?_,CL.after ht KO⟩;cases o'<;>simp only[Obj.Fa,Bool.true_eq_false] at SS<;>
   (simp only[Sem.runT,hh,Om];rw[hr,<-Array.append_singleton,Array.append_assoc])
 |choose q k ih=>
  simp only[eN] at h;by_cases hq:q.forced
  .rw[if_pos hq] at h;obtain⟨r',e',hr,hl⟩:=ih 0 s w es h ha;exact⟨r',e',by simp only[Sem.runT,hq,if_true];exact hr,hl⟩
  rw[if_neg hq] at h;have ht:=Mq ha (w.drawn+1);obtain⟨r',e',hr,hl⟩:=ih _ s {w with drawn:=w.drawn+1} es (h (w.tape w.drawn q)) ht.ny;exact⟨r',#[]++e',by simp only[Sem.runT,hq,Bool.false_eq_true,if_false];rw[hr,Array.empty_append],CL.after ht hl⟩
 |sys c k ih=>exact h.elim
 |program k ih=>
  obtain⟨r',e',hr,hl⟩:=ih P s w es h ha;exact⟨r',e',by simp only[Sem.runT];exact hr,hl⟩
 |mark m k ih=>
  obtain⟨r',e',hr,hl⟩:=ih s w (es.push ⟨.mark m,false,true⟩) h.2 ha;refine⟨r',#[⟨.mark m,false,true⟩]++e',?_,CL.after (OT ha ?_ (λb h'=>by cases h')) hl⟩
  .simp only[Sem.runT];rw[hr,<-Array.append_singleton,Array.append_assoc]
  exact h.1
 |halt hh=>exact⟨.halt hh w,#[],by simp only[Sem.runT,Array.append_empty],s,Trans.refl ha,h⟩
open Go.Conc
def St.le(s s':St):Prop:=∃R,s'.rw.Perm (s.rw++R)/\∀b o,s.ro b=some o->s'.ro b=some o\/(b,o)∈R
theorem St.le_refl(s:St):s.le s:=⟨[],by simp,λ_ _ h=> .inl h⟩
def dh.of_le{s:St}{w:World}(hl:s.le s')(h:dh s' w):dh s w:=by
 obtain⟨R,hR,h1⟩:=hl;have hm:∀x,x∈s.rw->x∈s'.rw:=λx hx=>hR.mem_iff.2 (by simp[hx]);have Qt:∀x,x∈R->x∈s'.rw:=λx hx=>hR.mem_iff.2 (by simp[hx]);have kT:=(hR.map (·.1)).nodup_iff.1 h.nodup;rw[cw,eo] at kT;refine⟨λb o hb=>(h1 b o hb).elim (h.ro b o) (λhx=> .inl ⟨h.rw b o (Qt _ hx),h.real b o (Qt _ hx)⟩),λb o hb=>h.rw b o (hm _ hb),λb o hb=>h.real b o (hm _ hb),kT.1,λb o hb=>?_⟩;have:=h.apart b o (hm _ hb);cases hr:s.ro b with
 |none=>rfl
 |some y=>
  rcases h1 b y hr with h3|h3
  .rw[h3] at this;cases this
  exact absurd rfl (kT.2.2 b (a8.2 ⟨_,hb,rfl⟩) b (a8.2 ⟨_,h3,rfl⟩))
structure Closed(P:Program)(main:Bool)(T:Goroutine->St->Prop):Prop where
 step:∀g s,g.status= .running->(∀w,dh s w->∃g' w' es s',stepG P main g w= .go g' w' es/\g'.status= .running/\Trans s w s' w' es/\T g' s')->T g s
 mono:∀g s s',s.le s'->T g s->T g s'
theorem Closed.go{P:Program}(C:Closed P main T){g g':Goroutine}{s:St}(hs:g.status= .running)(pg:g'.status= .running)
 (h:∀w,stepG P main g w= .go g' w #[])(ht:T g' s):T g s:=
 C.step g s hs λw hw=>⟨g',w,#[],s,h w,pg,Trans.refl hw,ht⟩
abbrev Class:=Bool->(Goroutine->St->Prop)->Prop
abbrev Post:=Exit->Act->St->Prop
def dJ(b:Frame)(a:Act)(todo:List Item):Frame:={fn:=b.fn,tmps:=a.tmps,todo,defers:=a.defers,mode:= .run,kind:=b.kind,roundOf:=b.roundOf}
def After(T:Goroutine->St->Prop)(b:Frame)(k:List Item)(cs:List Frame):Post
 | .normal,a,s=>T (G (dJ b a k) cs) s
 | .exit id,a,s=>match exitTo id k with
  |some k'=>T (G (dJ b a k') cs) s
  |none=>∀todo,exitTo id todo=none->T (G (dJ b a (.code (.exit id)::todo)) cs) s
 | .ret,a,s=>∀todo,T (G (dJ b a (.code .ret::todo)) cs) s
 | .panic ch,a,s=>∀todo,T (G {dJ b a todo with mode:= .panicking ch} cs) s
 |_,_,_=>False
def Wp(C:Class)(fn:FuncId)(bW:Option Nat)(c:Code)(Q:Post)(a:Act)(s:St):Prop:=
 ∀main T,C main T->∀(b:Frame) (k:List Item) (cs:List Frame),b.fn=fn->b.kind≠ .early->b.roundOf=bW->
  (∀e a' s',Q e a' s'->After T b k cs e a' s')->T (G (dJ b a (.code c::k)) cs) s
def aR(C:Class)(fn:FuncId)(bW:Option Nat)(ops:Array Oper)(todo:List Nat)(Q:Post)(a:Act)(s:St):Prop:=
 ∀main T,C main T->∀(b:Frame) (k:List Item) (cs:List Frame),b.fn=fn->b.kind≠ .early->b.roundOf=bW->
  (∀e a' s',Q e a' s'->After T b k cs e a' s')->T (G (dJ b a (.inRegion ops todo::k)) cs) s
def Fn(C:Class)(P:Program)(f:FuncId)(args:Array Value)(s:St)(R:Ending->St->Prop):Prop:=
 ∀main T,C main T->∀(c:Frame) (cs:List Frame),(∀v s',R (.returned v) s'->T (G (c.finish v) cs) s')->(∀ch s',R (.panicked ch) s'->T (G (c.raise ch) cs) s')->
  T (G (Frame.enter P f args .normal) (c::cs)) s
def Round(C:Class)(l:Nat)(f:FuncId)(tmps:Array Value)(assign body:Code)(s:St)(R:Ending->St->Prop):Prop:=
 ∀main T,C main T->∀(c:Frame) (cs:List Frame),(∀v s',R (.returned v) s'->T (G (c.finish v) cs) s')->(∀ch s',R (.panicked ch) s'->T (G (c.raise ch) cs) s')->
  T (G (Frame.round l f tmps assign body .normal) (c::cs)) s
section rules
variable {P:Program} {C:Class} {fn:FuncId} {bW:Option Nat} {Q:Post} {a:Act} {s:St}
def Fn.mono{f:FuncId}{R R':Ending->St->Prop}(h:Fn C P f args s R)(hr:∀e s,R e s->R' e s):Fn C P f args s R':=
 λmain T hT c cs h1 h2=>h _ T hT c cs (λv s' hv=>h1 v s' (hr _ _ hv)) λch s' hv=>h2 ch s' (hr _ _ hv)
def Fn.weaken{C':Class}(hc:∀main T,C' main T->C main T){f:FuncId}{R:Ending->St->Prop}(h:Fn C P f args s R):Fn C' P f args s R:=
 λmain T hT=>h _ T (hc _ _ hT)
def Wp.more(hC:∀main T,C main T->Closed P main T){c:Code}(hl:s.le s')(h:Wp C fn bW c Q a s):Wp C fn bW c Q a s':=
 λmain T hT b k cs h1 h2 h3 h4=>(hC _ _ hT).mono _ _ _ hl (h _ T hT b k cs h1 h2 h3 h4)
def wp_skip(hC:∀main T,C main T->Closed P main T)(h:Q .normal a s):Wp C fn bW .skip Q a s:=
 λmain T hT b k cs _ _ _ h4=>(hC _ T hT).go rfl rfl (λw=>by rfl) (h4 _ _ _ h)
theorem After.push{b:Frame}{x:Item}{k:List Item}{e:Exit}(hx:x.plain=true)(he:e≠ .normal)
 (h:After T b k cs e a s):After T b (x::k) cs e a s:=by
 cases e with
 |normal=>grind
 |exit id=>
  have hh:exitTo id (x::k)=exitTo id k:=by cases x<;>simp_all[exitTo,Item.plain]
  grind [After]
 |ret=>exact h
 |panic ch=>exact h
 |goto l=>exact h
 |outgrown=>exact h
def su(K:Act->St->Prop)(Q:Post):Post
 | .normal,a,s=>K a s
 |e,a,s=>Q e a s
def wp_seq(hC:∀main T,C main T->Closed P main T){x y:Code}(h:Wp C fn bW x (su (λa' s'=>Wp C fn bW y Q a' s') Q) a s):Wp C fn bW (.seq x y) Q a s:=by
 intro main T hT b k cs h1 h2 h3 h4;refine(hC main T hT).go rfl rfl (λw=>by rfl) ?_;refine h main T hT b (.code y::k) cs h1 h2 h3 λe a' s' q=>?_;cases e with
 |normal=>exact q main T hT b k cs h1 h2 h3 h4
 |exit id=>exact(h4 _ _ _ q).push rfl (by simp)
 |ret=>exact(h4 _ _ _ q).push rfl (by simp)
 |panic ch=>exact(h4 _ _ _ q).push (x:= .code y) rfl (by simp)
 |goto l=>exact(h4 _ _ _ q).elim
 |outgrown=>exact(h4 _ _ _ q).elim
theorem Q3(b:Frame)(a:Act)(todo:List Item)(x:Operand):(dJ b a todo).eval x=a.eval x:=by rfl
theorem uX(b:Frame)(a:Act)(todo:List Item):(dJ b a todo).eval=a.eval:=funext (Q3 b a _)
theorem wp_cond(hC:∀main T,C main T->Closed P main T){c:Operand}{x y:Code}{t:Bool}(hc:a.eval c= .bool t)(h:Wp C fn bW (if t then x else y) Q a s):Wp C fn bW (.cond c x y) Q a s:=by
 intro main T hT b k cs h1 h2 h3 h4;refine(hC main T hT).go rfl rfl (λw=>?_) (h main T hT b k cs h1 h2 h3 h4);have h':(dJ b a (.code (.cond c x y)::k)).eval c= .bool t:=by rw[Q3];exact hc
 grind [dJ,G,stepG,stepG.exec]
def wp_cond_split(hC:∀main T,C main T->Closed P main T){c:Operand}{x y:Code}{t:Bool}(hc:a.eval c= .bool t)(h1:t=true->Wp C fn bW x Q a s)(h2:t=false->Wp C fn bW y Q a s):
 Wp C fn bW (.cond c x y) Q a s:=by
 cases t
 .exact wp_cond hC hc (h2 rfl)
 exact wp_cond hC hc (h1 rfl)
def yB(id:Nat)(Q:Post):Post
 | .exit id',a,s=>if id'=id then Q .normal a s else Q (.exit id') a s
 |e,a,s=>Q e a s
def wp_block(hC:∀main T,C main T->Closed P main T){c:Code}(h:Wp C fn bW c (yB id Q) a s):Wp C fn bW (.block id c) Q a s:=by
 intro main T hT b k cs h1 h2 h3 h4;refine(hC main T hT).go rfl rfl (g':=G (dJ b a (.code c:: .inBlock id::k)) cs) (λw=>by simp[G,stepG,stepG.exec,dJ]) ?_;refine h main T hT b (.inBlock id::k) cs h1 h2 h3 λe a' s' q=>?_;cases e with
 |normal=>exact(hC main T hT).go rfl rfl (g':=G (dJ b a' k) cs) (λw=>by simp[G,stepG,stepG.exec,dJ]) (h4 _ _ _ q)
 |exit id'=>
  by_cases Gp:id'=id
  .simp only[yB,Gp,dF] at q;have:=h4 _ _ _ q;simp only[After,exitTo,Gp,beq_self_eq_true,dF];exact this
  simp only[yB,Gp,cJ] at q;have:=h4 _ _ _ q;have eA:(id==id')=false:=by simp;exact λh=>Gp h.symm
  simp only[After,exitTo,eA,aW,cJ] at this ⊢;exact this
 |ret=>exact h4 _ _ _ q
 |panic ch=>exact h4 _ _ _ q
 |goto l=>exact(h4 _ _ _ q).elim
 |outgrown=>exact(h4 _ _ _ q).elim
theorem wp_exit(hC:∀main T,C main T->Closed P main T)(h:Q (.exit id) a s):Wp C fn bW (.exit id) Q a s:=by
 intro main T hT b k cs h1 h2 h3 h4;have h':=h4 _ _ _ h;simp only[After] at h';cases hk:exitTo id k with
 |some k'=>
  rw[hk] at h';exact(hC _ T hT).go rfl rfl (λw=>by simp[G,stepG,stepG.exec,dJ,hk]) h'
 |none=>grind
def wp_ret(h:Q .ret a s):Wp C fn bW .ret Q a s:=λ_ _ _ _ _ _ _ _ _ h4=>h4 _ _ _ h _
def wp_region(hC:∀main T,C main T->Closed P main T){ops:Array Oper}(h:aR C fn bW ops (List.range ops.size) Q a s):Wp C fn bW (.region id ops false) Q a s:=
 λmain T hT b k cs h1 h2 h3 h4=>(hC _ T hT).go rfl rfl (λw=>by rfl) (h _ T hT b k cs h1 h2 h3 h4)
def wp_region_draw(hC:∀main T,C main T->Closed P main T){ops:Array Oper}(h:∀t,aR C fn bW ops (Region.schedule (P.follows .mixedOrders) ops t) Q a s):Wp C fn bW (.region id ops true) Q a s:=by
 intro main T hT b k cs h1 h2 h3 h4;refine(hC _ T hT).step _ _ rfl λw hw=>?_;refine⟨G (dJ b a (.inRegion ops (Region.schedule _ ops (w.tape w.drawn (.order b.fn id)))::k)) cs,{w with drawn:=w.drawn+1},#[],s,?_,rfl,Mq hw _,h _ _ T hT b k cs h1 h2 h3 h4⟩;simp[G,stepG,stepG.exec,dJ,choose,Sem.run,Question.forced,Question.cut]
def BR(hC:∀main T,C main T->Closed P main T){ops:Array Oper}(h:Q .normal a s):aR C fn bW ops [] Q a s:=
 λmain T hT b k cs _ _ _ h4=>(hC _ T hT).go rfl rfl (λw=>by rfl) (h4 _ _ _ h)
theorem ng(b:Frame)(a:Act)(ops:Array Oper)(i:Nat)(rest:List Nat)(k:List Item)(v:Value):
 (dJ b a (.inRegion ops (i::rest)::k)).finish v=dJ b (a.put ((ops[i]?).bind (·.dst)) v) (.inRegion ops rest::k):=by
 grind [Frame.finish,dJ,Act.put]
theorem BQ(hC:∀main T,C main T->Closed P main T){ops:Array Oper}{rest:List Nat}{o:Oper}(ho:ops[i]?=some o) (hw:Region.wanted o (yielded ops a.tmps)=false)
 (h:aR C fn bW ops rest Q (a.put o.dst undef) s):aR C fn bW ops (i::rest) Q a s:=by
 intro main T hT b k cs h1 h2 h3 h4;refine(hC _ T hT).go rfl rfl (λw=>?_) (h main T hT b k cs h1 h2 h3 h4);have:=ng b a ops i rest k undef
 grind [G,stepG,stepG.exec,dJ]
def aEO(dst:Option Tmp)(a:Act)(K:Act->St->Prop)(Q:Post):Ending->St->Prop
 | .returned v,s=>K (a.put dst v) s
 | .panicked ch,s=>Q (.panic ch) a s
 | .outgrown,_=>False
def upon(C:Class)(P:Program)(bW:Option Nat)(dst:Option Tmp)(a:Act)(K:Act->St->Prop)(Q:Post):Next->St->Prop
 | .value v,s=>K (a.put dst v) s
 | .skip,s=>K (a.put dst undef) s
 | .enter f args,s=>Fn C P f args s (aEO dst a K Q)
 | .round l f tmps assign body,s=>Round C l f tmps assign body s (aEO dst a K Q)
 | .defer d,s=>bW=none/\K ({a with defers:=d::a.defers}.put dst undef) s
 |_,_=>False
def VS(a:Act)(Q:Post):Halt->St->Prop
 | .panic v,s=>Q (.panic [{v,recovered:=false}]) a s
 |_,_=>False
theorem akE(g:Bool×Array Event->Event->Bool×Array Event)(hg:∀x y,(g x y).2=x.2\/(g x y).2=x.2.push y):
 ∀(l:List Event) (x:Bool×Array Event),∀e∈(l.foldl g x).2,e∈x.2\/e∈l:=by
 intro l
 induction l with
 |nil=>simp
 |cons y l ih=>
  grind
theorem mJ(P:Program)(f:FuncId)(es:Array Event):∀e∈seen P f es,e∈es:=by
 intro e he;unfold seen at he;simp only at he;rw[<-Array.foldl_toList] at he;rcases akE _ (λx y=>(by grind)) es.toList _ e he with h|h
 .simp at h
 exact So.1 h
theorem Trans.sub{s:St}{w:World}{es iV:Array Event}(h:Trans s w s' w' es)(hs:∀e∈iV,e∈es):Trans s w s' w' iV:=
 ⟨h.ny,h.size,h.frame,h.own,h.RZ,h.os,h.output,h.tape,λe he=>h.Aw e (hs e he),λe he=>h.low e (hs e he)⟩
theorem VQ(hC:∀main T,C main T->Closed P main T){ops:Array Oper}{rest:List Nat}{o:Oper}(ho:ops[i]?=some o) (hw:Region.wanted o (yielded ops a.tmps)=true)
 (hd:bW=none\/∀c,o.op≠ .defer c)
 (h:eN P (execOp a.eval o) s (upon C P bW o.dst a (λa' s'=>aR C fn bW ops rest Q a' s') Q) (VS a Q)):aR C fn bW ops (i::rest) Q a s:=by
 intro main T hT b k cs h1 h2 h3 h4;have kp:=hC main T hT;have rq:∀(a:Act) v,(dJ b a (.inRegion ops (i::rest)::k)).finish v=dJ b (a.put o.dst v) (.inRegion ops rest::k):=by
  intro a v;rw[ng,ho];rfl
 have hk:(b.kind==CallKind.early)=false:=by simpa using h2
 have lE:∀w,stepG P main (G (dJ b a (.inRegion ops (i::rest)::k)) cs) w=stepG.apply P true (dJ b a (.inRegion ops (i::rest)::k)) cs none (execOp a.eval o) w:=by
  intro w;have he:=uX b a (.inRegion ops (i::rest)::k);simp only[dJ] at he;simp only[G,stepG,stepG.exec,dJ,ho,dD,wP,hw,dF,stepG.oper,Frame.oper?,he];rcases hd with hd|hd
  .rw[h3,hd]
  split
  .rename_i hx hy;exact absurd hy (hd _)
  rfl
 refine kp.step _ _ rfl λw yO=>?_;obtain⟨r,es,hr,hl⟩:=lK _ _ _ _ w #[] h yO;rw[dA] at hr;have sW:=lE w;simp only[stepG.apply,dF,hr] at sW;simp only[dJ,hk,aW,cJ] at sW;have lO:=mJ P b.fn es;cases r with
 |ok nx w'=>
  obtain⟨s',ht,hu⟩:=hl;have ht':=ht.sub lO;cases nx with
  |value v=>
   simp only[GStep.after,bV] at sW;refine⟨_,_,_,s',sW,rfl,ht',?_⟩;have:=hu main T hT b k cs h1 h2 h3 h4;rw[<-rq] at this;exact this
  |skip=>
   simp only[GStep.after,bV] at sW;refine⟨_,_,_,s',sW,rfl,ht',?_⟩;have:=hu main T hT b k cs h1 h2 h3 h4;rw[<-rq] at this;exact this
  |enter f args=>
   simp only[GStep.after,bV] at sW;refine⟨_,_,_,s',sW,rfl,ht',?_⟩;refine hu main T hT (dJ b a (.inRegion ops (i::rest)::k)) cs (λv s'' hv=>?_) (λch s'' hv=>?_)
   .rw[rq];exact hv main T hT b k cs h1 h2 h3 h4
   exact h4 _ _ _ hv _
  |round l f tmps assign body=>
   simp only[GStep.after,bV] at sW;refine⟨_,_,_,s',sW,rfl,ht',?_⟩;refine hu main T hT (dJ b a (.inRegion ops (i::rest)::k)) cs (λv s'' hv=>?_) (λch s'' hv=>?_)
   .rw[rq];exact hv main T hT b k cs h1 h2 h3 h4
   exact h4 _ _ _ hv _
  |defer d=>
   simp only[GStep.after,bV] at sW;refine⟨_,_,_,s',sW,rfl,ht',?_⟩;have:=hu.2 main T hT b k cs h1 h2 h3 h4;rw[<-rq] at this;exact this
  |_=>exact hu.elim
 |halt hh w'=>
  obtain⟨s',ht,hu⟩:=hl;have ht':=ht.sub lO;cases hh with
  |panic v=>
   simp only[GStep.after,bV] at sW;refine⟨_,_,_,s',sW,rfl,ht',?_⟩;have hp:VS a Q (.panic v) s':=hu;exact h4 _ _ _ hp _
  |_=>exact absurd hu id
def zv(P:Program)(fn:Func)(R:Ending->St->Prop):Post
 | .normal,a,s| .ret,a,s=>a.defers=[]/\eN P (results fn a.tmps) s (λv s'=>∃s0,s0.le s'/\R (.returned v) s0) (λ_ _=>False)
 | .panic ch,a,s=>a.defers=[]/\R (.panicked ch) s
 |_,_,_=>False
def xU(hC:∀main T,C main T->Closed P main T){main:Bool}{T:Goroutine->St->Prop}(hT:C main T){f:FuncId}{fn:Func}(hf:P.funcs[f]?=some fn) {fr c:Frame} {cs:List Frame}
 (h1:fr.fn=f) (h2:fr.kind= .normal) (h3:fr.mode= .returning) (h4:fr.defers=[]) {R:Ending->St->Prop} {s:St}
 (hr:eN P (results fn fr.tmps) s (λv s'=>∃s0,s0.le s'/\R (.returned v) s0) (λ_ _=>False)) (hk:∀v s',R (.returned v) s'->T (G (c.finish v) cs) s'):T (G fr (c::cs)) s:=by
 refine(hC main T hT).step _ _ rfl λw yO=>?_;obtain⟨r,es,dz,hl⟩:=lK _ _ _ _ w #[] hr yO;clear hr;rw[dA] at dz;cases r with
 |ok v w'=>
  obtain⟨s',ht,hu⟩:=hl;refine⟨G (c.finish v) cs,w',seen P fr.fn es,s',?_,rfl,ht.sub (mJ _ _ _),by obtain⟨s0,hl0,zi⟩:=hu;exact(hC main T hT).mono _ _ _ hl0 (hk _ _ zi)⟩;simp_all[G,stepG,unwind,doReturn,GStep.after,bV]
 |halt _ _=>obtain⟨_,_,hu⟩:=hl;exact hu.elim
theorem abC(hC:∀main T,C main T->Closed P main T){f:FuncId}{fn:Func}{c:Code}{args:Array Value}{R:Ending->St->Prop}
 (hf:P.funcs[f]?=some fn) (hb:fn.body=some c) (h:Wp C f none c (zv P fn R) ⟨args++Array.replicate (fn.ntmps-args.size) undef,[]⟩ s):Fn C P f args s R:=by
 intro main T hT cl cs k1 k2
 let b:Frame:={(default:Frame) with fn:=f,kind:= .normal,roundOf:=none}
 have oL:Frame.enter P f args .normal=dJ b ⟨args++Array.replicate (fn.ntmps-args.size) undef,[]⟩ [.code c]:=by
  simp[Frame.enter,dJ,hf,hb,b]
 rw[oL];refine h main T hT b [] (cl::cs) rfl (by simp[b]) rfl λe a' s' q=>?_;have An:∀(todo:List Item),a'.defers=[]->eN P (results fn a'.tmps) s' (λv s'=>∃s0,s0.le s'/\R (.returned v) s0) (λ_ _=>False)->T (G {dJ b a' todo with mode:= .returning} (cl::cs)) s':=
  λtodo hd hr=>xU hC hT hf rfl rfl rfl hd hr k1
 cases e with
 |normal=>
  exact(hC main T hT).go rfl rfl (g':=G {dJ b a' [] with mode:= .returning} (cl::cs)) (λw=>by simp[G,stepG,stepG.exec,dJ,b]) (An _ q.1 q.2)
 |ret=>
  exact λtodo=>(hC main T hT).go rfl rfl (g':=G {dJ b a' (.code .ret::todo) with mode:= .returning} (cl::cs)) (λw=>by simp[G,stepG,stepG.exec,dJ,b]) (An _ q.1 q.2)
 |panic ch=>
  intro todo;refine(hC main T hT).go rfl rfl (g':=G (cl.raise ch) cs) (λw=>?_) (k2 _ _ q.2);have SS:∀fr:Frame,fr.fn=f->fr.catches P=false:=by
   intro fr SX;simp[Frame.catches,SX,hf]
  have:=SS {dJ b a' todo with mode:= .panicking ch} rfl;simp only[dJ,q.1] at this;simp[G,stepG,unwind,dJ,b,q.1,this]
 |exit id=>exact q.elim
 |goto l=>exact q.elim
 |outgrown=>exact q.elim
end rules
abbrev Env:=List (Nat×Value)
variable {env e:Env}
def get:Env->Nat->Value
 | [],_=>undef
 | (k,v)::r,t=>bif Nat.beq k t then v else get r t
def A(n:Nat)(env:Env)(D:List Deferred):Act:=⟨Array.ofFn (n:=n) λi=>get env i,D⟩
def ev(n:Nat)(env:Env):Operand->Value
 | .tmp t=>bif Nat.blt t n then get env t else undef
 | .const v=>v
 | .global g=> .pointer (some ⟨g,0,none⟩)
 | .func f=> .func (.func f) #[] #[]
def mP:Env->Nat->Option Value
 | [],_=>none
 | (k,v)::r,t=>bif Nat.beq k t then some v else mP r t
def dv(n:Nat)(env:Env):Operand->Option Value
 | .tmp t=>bif Nat.blt t n then mP env t else none
 | .const v=>some v
 | .global g=>some (.pointer (some ⟨g,0,none⟩))
 | .func f=>some (.func (.func f) #[] #[])
def F5(n:Nat)(env:Env):List Operand->Option (List Value)
 | []=>some []
 |x::l=>match dv n env x with
  |some v=>match F5 n env l with
   |some r=>some (v::r)
   |none=>none
  |none=>none
def Aw(n:Nat)(env:Env)(xs:Array Operand):Option (List Value):=F5 n env xs.toList
theorem tz{t:Nat}{v:Value}(h:mP env t=some v):get env t=v:=by
 induction env with
 |nil=>cases h
 |cons x env ih=>
  grind [mP,get,Nat.beq]
theorem cg{v:Value}(h:dv n env x=some v):ev n env x=v:=by
 cases x with
 |tmp t=>
  grind [dv,ev,Nat.blt,tz]
 |const u=>grind [dv,ev]
 |global g=>grind [dv,ev]
 |func f=>grind [dv,ev]
theorem asY:∀ {xs:List Operand} {l:List Value},F5 n env xs=some l->xs.map (ev n env)=l
 | [],l,h=>by simpa [F5] using h
 |x::xs,l,h=>by
  simp only[F5] at h;cases hx:dv n env x with
  |none=>rw[hx] at h;cases h
  |some v=>
   rw[hx] at h;cases hr:F5 n env xs with
   |none=>rw[hr] at h;cases h
   |some r=>rw[hr] at h;simp_all;subst h;simp[cg hx,asY hr]
theorem yy(h:Aw n env xs=some l):xs.map (ev n env)=⟨l⟩:=by
 have:=asY h
 grind
def upd(dst:Option Tmp)(v:Value)(env:Env):Env:=
 match dst with
 |some d=>(d,v)::env
 |none=>env
theorem Yc(n:Nat)(env:Env)(D:List Deferred)(t:Nat):(A n env D).tmps[t]?=if t <n then some (get env t) else none:=by
 simp[A,Array.getElem?_ofFn]
theorem mf(n:Nat)(env:Env)(D:List Deferred):(A n env D).eval=ev n env:=by
 funext x
 cases x with
 |tmp t=>
  simp only[Act.eval,ev,Array.getD_eq_getD_getElem?,Yc]
  by_cases h:t <n
  ·rw[if_pos h,show Nat.blt t n=true from by simp_all];rfl
  rw[if_neg h,show Nat.blt t n=false from by simpa [←Bool.not_eq_true] using h];rfl
 |_=>rfl
theorem fM(k t:Nat)(v:Value)(r:Env):get ((k,v)::r) t=if k=t then v else get r t:=by
 simp[get]
theorem dH(n:Nat)(env:Env)(D:List Deferred)(dst:Option Tmp)(v:Value):(A n env D).put dst v=A n (upd dst v env) D:=by
 cases dst with
 |none=>rfl
 |some d=>
  simp only[Act.put,upd,A,Act.mk.injEq,Mg];apply w7;intro i;rw[Array.getElem?_setIfInBounds];simp only[Array.getElem?_ofFn,Array.size_ofFn];by_cases h:d=i
  .subst h;by_cases h2:d <n<;>simp[h2,fM]
  simp only[h,cJ];split
  .simp[fM,h]
  rfl
def Holds(n:Nat)(env:Env)(D:List Deferred)(a:Act):Prop:=∃rest,a=A n (env++rest) D
theorem get_append(env rest:Env)(t:Nat):get (env++rest) t=if (env.any λx=>x.1==t) then get env t else get rest t:=by
 induction env with
 |nil=>rfl
 |cons x env ih=>
  grind [fM]
theorem holds_of(n:Nat)(env qS:Env)(D:List Deferred)(h:∀x∈env,get qS x.1=x.2)(hd:∀x∈env,get env x.1=x.2):Holds n env D (A n qS D):=by
 refine⟨qS,?_⟩
 grind [A,get_append,List.any_eq_true]
def bN(ops:Array Oper)(n:Nat)(env:Env):Option (Nat×Bool)->Bool
 |none=>true
 |some (j,want)=>match (ops[j]?).bind (·.dst) with
  |some d=>match dv n env (.tmp d) with
   |some (.bool b)=>b==want
   |_=>false
  |none=>false
theorem OA{ops:Array Oper}{D:List Deferred}{b:Bool}(hd:(ops[j]?).bind (·.dst)=some d) (hv:dv n env (.tmp d)=some (.bool b)):yielded ops (A n env D).tmps j=some b:=by
 simp only[yielded,hd,oR,Yc];simp only[dv] at hv;by_cases ei:d <n
 .rw[show Nat.blt d n=true from by simpa [agl] using ei] at hv;rw[dN ei,tz hv]
 rw[show Nat.blt d n=false from by simpa [agl,<-Bool.not_eq_true] using ei] at hv;cases hv
theorem JI(ops:Array Oper)(n:Nat)(env:Env)(D:List Deferred)(o:Oper)(h:bN ops n env o.guard=true):Region.wanted o (yielded ops (A n env D).tmps)=true:=by
 grind [Region.wanted,bN,dv,OA]
def YT(ops:Array Oper)(n:Nat)(env:Env)(D:List Deferred)(o:Oper)(j:Nat)(want:Bool)(d:Tmp)(b:Bool)(hg:o.guard=some (j,want))(hd:(ops[j]?).bind (·.dst)=some d)
 (hv:dv n env (.tmp d)=some (.bool b)) (hb:(b==want)=false):Region.wanted o (yielded ops (A n env D).tmps)=false:=by
 simp_all[Region.wanted,OA]
structure TF(P:Program)(t:TypeId)(d:TypeDesc)(size bytes:Nat)(zero:List Value)(agg:Bool):Prop where
 und:P.underlying t=some d
 info:∃i,P.info? t=some i/\i.size=size/\i.bytes=bytes/\∃z,i.zero=some z/\z.cells=⟨zero⟩/\z=if agg then .agg ⟨zero⟩ else zero.headD undef
 isAgg:agg=(match d with| .struct _| .array _ _=>true|_=>false)
structure FF(P:Program)(f:FuncId):Prop where
 ff:∃fn,P.funcs[f]?=some fn/\(fn.name== "runtime.NumGoroutine")=false/\fn.body.isNone=false
section rules
variable {P:Program} {C:Class} {fn:FuncId} {bW:Option Nat} {Q:Post} {s:St} {n:Nat} {env:Env} {D:List Deferred}
variable {ops:Array Oper} {i:Nat} {rest:List Nat} {dst:Option Tmp} {ty:TypeId} {pos:String} {gf:Array Edge} {g:Option (Nat×Bool)}
theorem eF(hC:∀main T,C main T->Closed P main T){o:Oper}(ho:ops[i]?=some o) (hw:bN ops n env o.guard=true) (hd:∀c,o.op≠ .defer c)
 (h:eN P (execOp (ev n env) o) s (upon C P bW o.dst (A n env D) (λa' s'=>aR C fn bW ops rest Q a' s') Q) (VS (A n env D) Q)):aR C fn bW ops (i::rest) Q (A n env D) s:=by
 grind [mf,VQ,JI]
theorem BU(hC:∀main T,C main T->Closed P main T){o:Oper}(ho:ops[i]?=some o) {want:Bool} {b:Bool} (hg:o.guard=some (j,want)) (hd:(ops[j]?).bind (·.dst)=some d)
 (hv:dv n env (.tmp d)=some (.bool b)) (hb:(b==want)=false) (h:aR C fn bW ops rest Q (A n (upd o.dst undef env) D) s):aR C fn bW ops (i::rest) Q (A n env D) s:=by
 refine BQ hC ho (YT _ _ _ _ _ _ _ _ _ hg hd hv hb) ?_
 grind [dH]
theorem A7(hC:∀main T,C main T->Closed P main T){o:Oper}{v:Value}(ho:ops[i]?=some o) (hw:bN ops n env o.guard=true) (hd:∀c,o.op≠ .defer c)
 (hv:execOp (ev n env) o=Sem.pure (.value v)) (h:aR C fn bW ops rest Q (A n (upd o.dst v env) D) s):aR C fn bW ops (i::rest) Q (A n env D) s:=by
 refine eF hC ho hw hd ?_;rw[hv];show aR _ _ _ _ _ _ _ _
 grind [dH]
def aoU(hC:∀main T,C main T->Closed P main T){v:Value}(ho:ops[i]?=some ⟨dst,.assign x,ty,pos,gf,g⟩) (hw:bN ops n env g=true) (hx:dv n env x=some (v))
 (h:aR C fn bW ops rest Q (A n (upd dst v env) D) s):aR C fn bW ops (i::rest) Q (A n env D) s:=
 A7 hC ho hw (by simp) (by simp only[execOp,cg hx];rfl) h
def Z6(hC:∀main T,C main T->Closed P main T){op:BinOp}{T:TypeId}{k:IntKind}{a b:Int}{v:Value}(ho:ops[i]?=some ⟨dst,.binOp op T x y T',ty,pos,gf,g⟩) (hw:bN ops n env g=true)
 (hx:dv n env x=some (.int k a)) (hy:dv n env y=some (.int k b)) (hv:binOp op T (.int k a) (.int k b)=Sem.pure v) (h:aR C fn bW ops rest Q (A n (upd dst v env) D) s):aR C fn bW ops (i::rest) Q (A n env D) s:=by
 refine A7 hC ho hw (by simp) ?_ h;simp only[execOp,cg hx,cg hy];have he:eqGuard op T x y (.int k a) (.int k b)=Sem.pure ():=by
  unfold eqGuard;cases op<;>rfl
 rw[he];show Sem.bind (Sem.bind (Sem.pure ()) λ_=>binOp op T (.int k a) (.int k b)) _=_;simp only[Sem.bind,hv];rfl
theorem lJ(x:Int)(h: -9223372036854775808<=x/\x<=9223372036854775807):IntKind.i64.wrap x=x:=IntWalk.i64_in x h
end rules
section sem
variable {P:Program} {α:Type} {s:St} {Q:α->St->Prop} {E:Halt->St->Prop} {t:TypeId} {d:TypeDesc} {sz dP:Nat} {z:List Value} {ag:Bool}
theorem aQ{a:β}{k:β->Sem α}:eN P (pure a >>= k) s Q E=eN P (k a) s Q E:=rfl
theorem aI{γ:Type}{x:Sem β}{f:β->Sem γ}{k:γ->Sem α}:eN P ((x >>= f) >>= k) s Q E=eN P (x >>= λa=>f a >>= k) s Q E:=by
 simp
theorem jJ{k:Program->Sem α}:eN P (program >>= k) s Q E=eN P (k P) s Q E:=rfl
theorem db(h:TF P t d sz dP z ag){k:TypeDesc->Sem α}:eN P (underlying t >>= k) s Q E=eN P (k d) s Q E:=by
 simp only[underlying,aI,jJ,h.und,aQ]
theorem eE(h:TF P t d sz dP z ag){k:Nat->Sem α}:eN P (sizeOf t >>= k) s Q E=eN P (k sz) s Q E:=by
 obtain⟨i,hi,h1,_⟩:=h.info
 grind [sizeOf,typeInfo,aI,jJ,aQ]
def Sq(z:List Value)(ag:Bool):Value:=if ag then .agg ⟨z⟩ else z.headD undef
theorem oE(h:TF P t d sz dP z ag){k:Value->Sem α}:eN P (zeroValue t >>= k) s Q E=eN P (k (Sq z ag)) s Q E:=by
 obtain⟨i,hi,h1,h2,x,hx,hc,he⟩:=h.info
 grind [zeroValue,typeInfo,aI,jJ,aQ,Sq]
theorem ij(h:TF P t d sz dP z ag):(Sq z ag).cells=⟨z⟩:=by
 obtain⟨i,hi,h1,h2,x,hx,hc,he⟩:=h.info;rw[<-hc,he];rfl
theorem pQ(h:TF P t d sz dP z ag){k:Bool->Sem α}:eN P (isAgg t >>= k) s Q E=eN P (k ag) s Q E:=by
 simp only[isAgg,aI,db h];rw[h.isAgg];cases d<;>rfl
theorem vx{o:Obj}{k:Nat->Sem α}:eN P (newObj o >>= k) s Q E=(Obj.real o=true/\∀b,¬s.knows b->eN P (k b) ⟨s.ro,(b,o)::s.rw⟩ Q E):=rfl
theorem lT{e:TypeId}{cs:Array Value}{k:Addr->Sem α}:eN P (newRow e cs >>= k) s Q E=∀b,¬s.knows b->eN P (k ⟨b,0,none⟩) ⟨s.ro,(b,.cells cs e)::s.rw⟩ Q E:=propext ⟨λh=>h.2,λh=>⟨rfl,h⟩⟩
theorem AP{e:TypeId}{v:Value}{k:Addr->Sem α}:eN P (newVar e v >>= k) s Q E=∀b,¬s.knows b->eN P (k ⟨b,0,none⟩) ⟨s.ro,(b,.cells v.cells e)::s.rw⟩ Q E:=propext ⟨λh=>h.2,λh=>⟨rfl,h⟩⟩
theorem ir(b o k:Nat):(⟨b,o,none⟩:Addr).add k=⟨b,o+k,none⟩:=by
 simp[Addr.add]
def nth:List Value->Nat->Option Value
 | [],_=>none
 |v::_,0=>some v
 |_::l,o+1=>nth l o
def qg:List Value->Nat->Option (List Value)
 |_,0=>some []
 | [],_+1=>none
 |v::l,n+1=>match qg l n with
  |some r=>some (v::r)
  |none=>none
def sub:List Value->Nat->Nat->Option (List Value)
 |l,0,n=>qg l n
 | [],_+1,_=>none
 |_::l,o+1,n=>sub l o n
def gZ:List Value->Nat->List Value->List Value
 | [],_,_=>[]
 |x::l,_,[]=>x::l
 |_::l,0,v::vs=>v::gZ l 0 vs
 |x::l,o+1,v::vs=>x::gZ l o (v::vs)
theorem yd:∀(l:List Value) (o:Nat),nth l o=l[o]?
 | [],_=>rfl
 |_::_,0=>rfl
 |_::l,o+1=>by simp[nth,yd l o]
theorem Y1:∀(l:List Value) (n:Nat) (vs:List Value),qg l n=some vs->vs.length=n/\∀(j:Nat) (v:Value),vs[j]?=some v->l[j]?=some v
 |l,0,vs,h=>by simp[qg] at h;subst h;simp
 | [],n+1,vs,h=>by simp[qg] at h
 |x::l,n+1,vs,h=>by
  simp only[qg] at h;cases hr:qg l n with
  |none=>rw[hr] at h;cases h
  |some r=>
   rw[hr] at h;simp only[aB] at h;subst h;obtain⟨h1,h2⟩:=Y1 l n r hr
   grind
theorem sub_eq:∀(l:List Value) (o n:Nat) (vs:List Value),sub l o n=some vs->vs.length=n/\∀(j:Nat) (v:Value),vs[j]?=some v->l[o+j]?=some v
 |l,0,n,vs,h=>by
  have h:qg l n=some vs:=by cases l<;>exact h
  obtain⟨h1,h2⟩:=Y1 l n vs h
  grind
 | [],o+1,n,vs,h=>by simp[sub] at h
 |x::l,o+1,n,vs,h=>by
  obtain⟨h1,h2⟩:=sub_eq l o n vs (by simpa [sub] using h)
  grind
theorem ri:∀(l:List Value) (o:Nat) (vs:List Value),(gZ l o vs).length=l.length
 | [],_,_=>rfl
 |_::_,_,[]=>by rfl
 |_::l,0,v::vs=>by simp[gZ,ri l 0 vs]
 |x::l,o+1,v::vs=>by simp[gZ,ri l o _]
theorem tb(l:List Value)(o:Nat):gZ l o []=l:=by cases l<;>cases o<;>rfl
theorem Ki:∀(l:List Value) (o:Nat) (v:Value) (vs:List Value),o <l.length->gZ l o (v::vs)=gZ (l.set o v) (o+1) vs
 |x::l,0,v,vs,_=>by
  cases vs with
  |nil=>simp[gZ,tb]
  |cons w ws=>simp[gZ]
 |x::l,o+1,v,vs,h=>by
  have:=Ki l o v vs (by simpa using h);cases vs with
  |nil=>grind [gZ,tb]
  |cons w ws=>grind [gZ]
def Reads(s:St)(b o:Nat)(v:Value):Prop:=∃l t fz,s.has b (.cells ⟨l⟩ t fz)/\nth l o=some v
def eW(s:St)(b o n:Nat)(vs:List Value):Prop:=∃l t fz,s.has b (.cells ⟨l⟩ t fz)/\sub l o n=some vs
theorem Dz{v:Value}(h:Reads s b o v){k:Value->Sem α}(hk:eN P (k v) s Q E):eN P (load ⟨b,o,none⟩ >>= k) s Q E:=by
 obtain⟨l,t,fz,h1,h2⟩:=h;exact⟨rfl,rfl,_,t,fz,v,.inl h1,by grind [yd],hk⟩
theorem Np{c:List Value}{fz:Nat×Nat}(hb:s.has b (.cells ⟨c⟩ t fz))(l:List Value):∀(i:Nat) (acc:Array Value) {k:Array Value->Sem α},(∀(j:Nat) (v:Value),l[j]?=some v->c[o+i+j]?=some v)->eN P (k (acc++l.toArray)) s Q E->
 eN P (loadCellsFrom ⟨b,o,none⟩ i l.length acc >>= k) s Q E:=by
 induction l with
 |nil=>intro i acc k _ hk;simpa [loadCellsFrom,aQ] using hk
 |cons v l ih=>
  intro i acc k h2 hk;simp only[aJ,loadCellsFrom,aI,ir];refine Dz ⟨c,t,fz,hb,by rw[yd];exact h2 0 v rfl⟩ ?_;refine ih (i+1) (acc.push v) (λj x hx=>?_) (by simpa using hk);have:=h2 (j+1) x (by simpa using hx)
  grind
theorem oy{m:Nat}(h:eW s b o m l){k:Array Value->Sem α}(hk:eN P (k ⟨l⟩) s Q E):eN P (loadCells ⟨b,o,none⟩ m >>= k) s Q E:=by
 obtain⟨c,t,fz,h1,h2⟩:=h;obtain⟨h3,h4⟩:=sub_eq _ _ _ _ h2;subst h3;exact Np h1 l 0 #[] (by grind) (by grind)
def avq{L:List (Nat×Obj)}{v:Value}{c:List Value}{e:TypeId}(hs:s.rw=L++(b,.cells ⟨c⟩ e (0,0))::R)(ho:o <c.length)(h1:single v=true){k:Unit->Sem α}
 (hk:eN P (k ()) ⟨s.ro,L++(b,.cells ⟨c.set o v⟩ e (0,0))::R⟩ Q E):eN P (store ⟨b,o,none⟩ v >>= k) s Q E:=
 ⟨rfl,rfl,h1,L,_,e,_,R,hs,by omega,by rfl,by
  rw[show (⟨c⟩:Array _).setIfInBounds o v=⟨c.set o v⟩ from by simp];exact hk⟩
def s8{L:List (Nat×Obj)}{e:TypeId}(l:List Value):∀(i:Nat) (c:List Value) (s:St) {k:Unit->Sem α},s.rw=L++(b,.cells ⟨c⟩ e (0,0))::R->o+i+l.length<=c.length->(∀v∈l,single v=true)->
 eN P (k ()) ⟨s.ro,L++(b,.cells ⟨gZ c (o+i) l⟩ e (0,0))::R⟩ Q E->eN P (storeCells ⟨b,o,none⟩ l i >>= k) s Q E:=by
 induction l with
 |nil=>intro i c s k hs _ _ hk;rcases s with ⟨ro,rw_⟩;simp only at hs;subst hs;rw[tb] at hk;simpa [storeCells,aQ] using hk
 |cons v l ih=>
  intro i c s k hs ho h1 hk;simp only[aJ] at ho;simp only[storeCells,aI,ir];refine avq hs (by omega) (h1 v (by simp))<|ih (i+1) _ _ rfl (by simp;omega) (λx hx=>h1 x (by simp[hx])) ?_;rw[Ki _ _ _ _ (by omega)] at hk;simpa [Nat.add_assoc] using hk
end sem
section rules
variable {P:Program} {C:Class} {fn:FuncId} {bW:Option Nat} {Q:Post} {s:St} {n:Nat} {env:Env} {D:List Deferred}
variable {ops:Array Oper} {i:Nat} {rest:List Nat} {dst:Option Tmp} {ty:TypeId} {pos:String} {gf:Array Edge} {g:Option (Nat×Bool)}
variable {T:TypeId} {d:TypeDesc} {sz dP:Nat} {z:List Value} {ag:Bool}
def awv(hC:∀main T,C main T->Closed P main T)(ho:ops[i]?=some ⟨dst,.alloc T,ty,pos,gf,g⟩) (hw:bN ops n env g=true) (tf:TF P T d sz dP z ag)
 (h:∀b,¬s.knows b->aR C fn bW ops rest Q (A n (upd dst (.pointer (some ⟨b,0,none⟩)) env) D) ⟨s.ro,(b,.cells ⟨z⟩ T)::s.rw⟩):aR C fn bW ops (i::rest) Q (A n env D) s:=by
 refine eF hC ho hw (by simp) ?_;simp only[execOp,Instr.alloc,aI,oE tf,AP,ij tf];intro b hb;have:=h b hb;rw[<-dH] at this;exact this
def aPV(hC:∀main T,C main T->Closed P main T){v:Value}(ho:ops[i]?=some ⟨dst,.box T x,ty,pos,gf,g⟩) (hw:bN ops n env g=true) (hx:dv n env x=some (v)) (hl:v.cells=⟨l⟩)
 (h:∀b,¬s.knows b->aR C fn bW ops rest Q (A n (upd dst (.pointer (some ⟨b,0,none⟩)) env) D) ⟨s.ro,(b,.cells ⟨l⟩ T)::s.rw⟩):aR C fn bW ops (i::rest) Q (A n env D) s:=by
 refine eF hC ho hw (by simp) ?_;simp only[execOp,Instr.box,aI,AP,cg hx,hl];intro b hb;have:=h b hb;rw[<-dH] at this;exact this
def Oc(hC:∀main T,C main T->Closed P main T){v:Value}{L:List (Nat×Obj)}{c:List Value}{e:TypeId}(ho:ops[i]?=some ⟨dst,.store T x y,ty,pos,gf,g⟩) (hw:bN ops n env g=true) (tf:TF P T d sz dP z ag)
 (hx:dv n env x=some (.pointer (some ⟨b,o,none⟩))) (hy:dv n env y=some (v)) (hl:v.cells=⟨l⟩) (hn:l.length=sz) (h1:∀v∈l,single v=true) (hs:s.rw=L++(b,.cells ⟨c⟩ e (0,0))::R) (hb:o+l.length<=c.length)
 (h:aR C fn bW ops rest Q (A n (upd dst undef env) D) ⟨s.ro,L++(b,.cells ⟨gZ c o l⟩ e (0,0))::R⟩):aR C fn bW ops (i::rest) Q (A n env D) s:=by
 refine eF hC ho hw (by simp) ?_;have sO:v.cells.size=sz:=by rw[hl];simpa using hn
 simp only[execOp,Instr.storeAt,cg hx,cg hy,Instr.sureAddr,storeVar,aI,aQ,eE tf,sO,ne_eq,not_true,cJ];rw[show v.cells.toList=l from by rw[hl]];refine s8 l 0 c s hs (by simpa using hb) h1 ?_;rw[<-dH] at h;exact h
theorem aPR(hC:∀main T,C main T->Closed P main T){E:TypeId}{a:Option Addr}{len cap:Nat}(ho:ops[i]?=some ⟨dst,.call ⟨.builtin .len,#[x],#[T]⟩,ty,pos,gf,g⟩) (hw:bN ops n env g=true)
 (tf:TF P T (.slice E) sz dP z ag) (hx:dv n env x=some (.slice a len cap)) (h:aR C fn bW ops rest Q (A n (upd dst (.int .i64 len) env) D) s):aR C fn bW ops (i::rest) Q (A n env D) s:=by
 refine eF hC ho hw (by simp) ?_;simp only[execOp,resolve,invoke,builtin,Builtin.len_,oT,bR,lR,cg hx,aQ];simp only[sL,my,db tf,aQ,aI];rw[<-dH] at h;exact h
def oF{f:FuncId}{Q:Next->St->Prop}(ff:FF P f)(h:Q (.enter f args) s):eN P (callFunc f args) s Q E:=by
 obtain⟨fn,h1,h2,h3⟩:=ff.ff;simp only[callFunc,jJ,h1,h2,h3,cJ];exact h
def zd(hC:∀main T,C main T->Closed P main T){f:FuncId}{at_:Array TypeId}{ws:List Value}{R:Ending->St->Prop}(ho:ops[i]?=some ⟨dst,.call ⟨.value x,xs,at_⟩,ty,pos,gf,g⟩) (hw:bN ops n env g=true)
 (hv:dv n env x=some (.func (.func f) fi ca)) (ff:FF P f) (hx:Aw n env xs=some vs) (xP:fi++⟨vs⟩++ca=⟨ws⟩) (hf:Fn C P f ⟨ws⟩ s R) (h:∀v s',R (.returned v) s'->aR C fn bW ops rest Q (A n (upd dst v env) D) s') (hp:∀ch s',R (.panicked ch) s'->Q (.panic ch) (A n env D) s') (hg:∀s',¬R .outgrown s'):
 aR C fn bW ops (i::rest) Q (A n env D) s:=by
 refine eF hC ho hw (by simp) ?_;simp only[execOp,resolve,cg hv,Deferred.ofValue,aQ,yy hx];simp only[invoke,xP];refine oF ff<|Fn.mono hf λe s' hr=>?_;cases e with
 |returned v=>have:=h v s' hr;rw[<-dH] at this;exact this
 |panicked ch=>exact hp ch s' hr
 |outgrown=>exact(hg s' hr).elim
def YK(hC:∀main T,C main T->Closed P main T){c:Operand}{x y:Code}{t:Bool}(hc:dv n env c=some (.bool t))(h1:t=true->Wp C fn bW x Q (A n env D) s)(h2:t=false->Wp C fn bW y Q (A n env D) s):
 Wp C fn bW (.cond c x y) Q (A n env D) s:=
 wp_cond_split hC (by simp_all[mf,cg]) h1 h2
theorem ags(hC:∀main T,C main T->Closed P main T){c:Operand}{x y:Code}{t:Bool}(hc:dv n env c=some (.bool t))(ht:t=true)(h1:Wp C fn bW x Q (A n env D) s):Wp C fn bW (.cond c x y) Q (A n env D) s:=
 YK hC hc (λ_=>h1) (λh=>by grind)
theorem agt(hC:∀main T,C main T->Closed P main T){c:Operand}{x y:Code}{t:Bool}(hc:dv n env c=some (.bool t))(ht:t=false)(h1:Wp C fn bW y Q (A n env D) s):Wp C fn bW (.cond c x y) Q (A n env D) s:=
 YK hC hc (λh=>by grind) (λ_=>h1)
def BC{j:Nat}{want:Bool}{d:Tmp}{b:Bool}(hd:(ops[j]?).bind (·.dst)=some d) (hv:dv n env (.tmp d)=some (.bool b)) (hb:b=want):bN ops n env (some (j,want))=true:=by
 simp_all[bN,beq_self_eq_true]
def mE:Nat->List Value->Env
 |_,[]=>[]
 |i,v::l=>(i,v)::mE (i+1) l
theorem abu:∀(l:List Value) (i t:Nat),get (mE i l) t=if i<=t then l.getD (t-i) undef else undef
 | [],i,t=>by simp[mE,get]
 |v::l,i,t=>by
  simp only[mE,fM,abu l _ t]
  grind
theorem rG(args:List Value)(n:Nat)(h:args.length<=n):(⟨(⟨args⟩:Array Value)++Array.replicate (n-args.length) undef,[]⟩:Act)=A n (mE 0 args) []:=by
 simp only[A,Act.mk.injEq,Mg];apply w7
 grind [Array.getElem?_ofFn,abu]
theorem abB(hC:∀main T,C main T->Closed P main T){f:FuncId}{fn:Func}{c:Code}{args:List Value}{R:Ending->St->Prop}
 (hf:P.funcs[f]?=some fn) (hb:fn.body=some c) (hn:fn.ntmps=n) (hl:Nat.ble args.length n=true) (h:Wp C f none c (zv P fn R) (A n (mE 0 args) []) s):Fn C P f ⟨args⟩ s R:=by
 grind [abC,rG,cP]
def xz{t:Tmp}{v:Value}(hv:dv n env (.tmp t)=some v):(A n env D).tmps[t]?.getD undef=v:=by
 have:=cg hv;rw[<-mf n env D] at this;simp_all[Act.eval]
def EH{fn:Func}{R:Ending->St->Prop}{e:Exit}{a:Act}(he:e= .ret\/e= .normal)(hd:a.defers=[])(h:eN P (results fn a.tmps) s (λv s'=>∃s0,s0.le s'/\R (.returned v) s0) (λ_ _=>False)):zv P fn R e a s:=by
 rcases he with rfl|rfl<;>exact⟨hd,h⟩
end rules
theorem axI{P:Program}{i:TypeInfo}{w:World}(h:(typeInfo t).run P w= .ok i w):P.info? t=some i:=by
 change (Sem.program λp=>Sem.bind (Sem.pure p) λp=>match p.info? t with|some i=>Sem.pure i|none=>stuck _).run P w=_ at h
 grind [Sem.run,Sem.bind,stuck]
def q6{P:Program}{t:TypeId}{i:TypeInfo}{d:TypeDesc}{sz dP:Nat}{z:Value}{l:List Value}{ag:Bool}(h:∀w,(typeInfo t).run P w= .ok i w)(hu:P.underlying t=some d)
 (h1:i.size=sz)(h2:i.bytes=dP)(h3:i.zero=some z)(h4:z=if ag then .agg ⟨l⟩ else l.headD undef)(h5:z.cells=⟨l⟩)(h6:ag=(match d with| .struct _| .array _ _=>true|_=>false)):TF P t d sz dP l ag:=
 ⟨hu,⟨i,axI (h default),h1,h2,z,h3,h5,h4⟩,h6⟩
def qN(env:Env):Env->Prop
 | []=>True
 | (t,v)::r=>mP env t=some v/\qN env r
def qN.mem:∀ {e:Env},qN env e->∀x∈e,get env x.1=x.2
 | (t,v)::r,h,x,hx=>by
  rcases aN.1 hx with rfl|hx
  .exact tz h.1
  exact qN.mem h.2 x hx
theorem lP{D:List Deferred}(h:qN env e)(hd:qN e e):∃rest,A n env D=A n (e++rest) D:=by
 obtain⟨rest,hr⟩:=holds_of n e env D (qN.mem h) (qN.mem hd)
 grind
def Ext(s s':St):Prop:=∀b o,s.has b o->s'.has b o
def Ext.refl(s:St):Ext s s:=λ_ _ h=>h
theorem Ext.trans(h:Ext Y8 anb)(k:Ext anb ana):Ext Y8 ana:=λb o hb=>k b o (h b o hb)
def eW.ext{s:St}{v:List Value}(h:eW s b o n v)(e:Ext s s'):eW s' b o n v:=by
 obtain⟨l,t,fz,h1,h2⟩:=h;exact⟨l,t,fz,e _ _ h1,h2⟩
section rules
variable {P:Program} {C:Class} {fn:FuncId} {bW:Option Nat} {Q:Post} {s:St} {n:Nat} {env:Env} {D:List Deferred}
variable {ops:Array Oper} {i:Nat} {rest:List Nat} {dst:Option Tmp} {ty:TypeId} {pos:String} {gf:Array Edge} {g:Option (Nat×Bool)}
variable {T:TypeId} {d:TypeDesc} {sz dP:Nat} {z:List Value} {ag:Bool}
def acn(n:Nat)(D:List Deferred)(yZ:ι->Env)(sf:ι->St)(Inv:ι->Prop)(μ:ι->Nat)(m:Nat)(a:Act)(s:St):Prop:=
 ∃j rest,Inv j/\μ j <m/\a=A n (yZ j++rest) D/\(sf j).le s
def awB{yZ:ι->Env}{sf:ι->St}{Inv:ι->Prop}{μ:ι->Nat}{m:Nat}(j:ι)(h:Inv j)(hm:μ j <m)(hc:qN env (yZ j))(hd:qN (yZ j) (yZ j))(hs:(sf j).le s):
 acn n D yZ sf Inv μ m (A n env D) s:=by
 obtain⟨r,hr⟩:=lP hc hd;exact⟨j,r,h,hm,hr,hs⟩
def amk(hC:∀main T,C main T->Closed P main T)(yZ:ι->Env)(sf:ι->St)(Inv:ι->Prop)(μ:ι->Nat){c:Code}(i0:ι)(h0:Inv i0)(hc:qN env (yZ i0))(hd:qN (yZ i0) (yZ i0))(hs:(sf i0).le s)
 (round:∀i,Inv i->∀rest,Wp C fn bW c (su (acn n D yZ sf Inv μ (μ i)) Q) (A n (yZ i++rest) D) (sf i)):Wp C fn bW (.loop c) Q (A n env D) s:=by
 obtain⟨r0,zi⟩:=lP (n:=n) (D:=D) hc hd;rw[zi];intro main T hT b k cs h1 h2 h3 h4;have key:∀m i rest s,μ i=m->Inv i->(sf i).le s->T (G (dJ b (A n (yZ i++rest) D) (.code c:: .inLoop c::k)) cs) s:=by
  intro m
  induction m using Nat.strongRecOn with
  |_ m ih=>
   intro i rest s hm hI hle;refine(hC main T hT).mono _ _ _ hle ?_;refine round i hI rest main T hT b (.inLoop c::k) cs h1 h2 h3 λe a' s' q=>?_;cases e with
   |normal=>
    obtain⟨j,anK,Cb,ei,rfl,FW⟩:=q;exact(hC main T hT).go rfl rfl (λw=>by simp[G,stepG,stepG.exec,dJ]) (ih _ (hm▸ei) j anK s' rfl Cb FW)
   |exit id=>exact(h4 _ _ _ q).push rfl (by simp)
   |ret=>exact(h4 _ _ _ q).push (x:= .inLoop c) rfl (by simp)
   |panic ch=>exact(h4 _ _ _ q).push (x:= .inLoop c) rfl (by simp)
   |goto l=>exact(h4 _ _ _ q).elim
   |outgrown=>exact(h4 _ _ _ q).elim
 exact(hC main T hT).go rfl rfl (λw=>by simp[G,stepG,stepG.exec,dJ]) (key _ i0 r0 s rfl h0 hs)
end rules
section rules
variable {P:Program} {C:Class} {fn:FuncId} {bW:Option Nat} {Q:Post} {s:St} {n:Nat} {env:Env} {D:List Deferred}
variable {ops:Array Oper} {i:Nat} {rest todo:List Nat} {dst:Option Tmp} {ty:TypeId} {pos:String} {gf:Array Edge} {g:Option (Nat×Bool)}
variable {T:TypeId} {d:TypeDesc} {sz dP:Nat} {z:List Value} {ag:Bool}
theorem Na{a:Act}(h:Q .normal a s):yB id Q (.exit id) a s:=by grind [yB]
theorem M9{id':Nat}{a:Act}(eA:Nat.beq id' id=false)(h:Q (.exit id') a s):yB id Q (.exit id') a s:=by
 have:¬id'=id:=by intro e;simp_all
 grind [yB]
def Ik(hC:∀main T,C main T->Closed P main T){op:BinOp}{T:TypeId}{a b:ByteArray}{v:Value}(ho:ops[i]?=some ⟨dst,.binOp op T x y T',ty,pos,gf,g⟩) (hw:bN ops n env g=true)
 (hx:dv n env x=some (.string a)) (hy:dv n env y=some (.string b)) (hv:Op.stringOp op a b=Sem.pure v) (aX:(match op with| .shl| .shr=>false|_=>true)=true) (h:aR C fn bW ops rest Q (A n (upd dst v env) D) s):aR C fn bW ops (i::rest) Q (A n env D) s:=by
 refine A7 hC ho hw (by simp) ?_ h;simp only[execOp,cg hx,cg hy];have he:eqGuard op T x y (.string a) (.string b)=Sem.pure ():=by
  unfold eqGuard;cases op<;>rfl
 have hb:binOp op T (.string a) (.string b)=Op.stringOp op a b:=by cases op<;>first|rfl|cases aX
 rw[he,hb,hv];rfl
end rules
def M3:List Edge->List Nat
 | []=>[]
 |e::l=>bif Region.binds .any e then e.on::M3 l else M3 l
def dM(ops:Array Oper)(i:Nat):List Nat:=
 match ops[i]? with
 |some o=>M3 o.after.toList
 |none=>[]
def Kq{e:Edge}:∀ {l:List Edge},e∈l->Region.binds .any e=true->e.on∈M3 l
 |x::l,h,hb=>by
  rcases aN.1 h with rfl|h
  .simp[M3,hb]
  simp only[M3];cases Region.binds .any x
  .exact Kq h hb
  exact cb _ (Kq h hb)
def BT:∀ {l:List Edge},j∈M3 l->∃e∈l,Region.binds .any e=true/\e.on=j
 |x::l,h=>by
  simp only[M3] at h;cases hb:Region.binds .any x
  .rw[hb] at h;obtain⟨e,he,h2⟩:=BT h;exact⟨e,cb _ he,h2⟩
  rw[hb] at h;rcases aN.1 h with rfl|h
  .exact⟨x,by simp,hb,rfl⟩
  obtain⟨e,he,h2⟩:=BT h;exact⟨e,cb _ he,h2⟩
def Lin(ops:Array Oper):List Nat->List Nat->Prop
 |X,[]=>∀i,i <ops.size->i∈X
 |X,i::l=>i <ops.size/\i∉X/\(∀j∈dM ops i,j∈X)/\Lin ops (i::X) l
def Hx(ops:Array Oper):Bool:=(List.range ops.size).all λi=>(dM ops i).all λj=>Nat.blt j i
theorem E5[BEq α][LawfulBEq α]:∀ {l₁ l₂:List α},l₁.Nodup->(∀x∈l₁,x∈l₂)->l₁.length<=l₂.length
 | [],_,_,_=>by simp
 |x::l,l₂,hn,hs=>by
  rw[iG] at hn;have hx:=hs x (by simp);have h1:(l₂.erase x).length=l₂.length-1:=List.length_erase_of_mem hx;have h2:=E5 (l₁:=l) (l₂:=l₂.erase x) hn.2 (λy hy=>(by grind));have h3:=List.length_pos_of_mem hx;simp only[aJ];omega
def aFW(ops:Array Oper)(hd:Hx ops=true):∀(fuel t:Nat) (listed:Array Bool) (acc:List Nat),listed.size=ops.size->acc.Nodup->(∀i∈acc,i <ops.size)->
 (∀i,i <ops.size->(listed.getD i true=true↔i∈acc))->fuel+acc.length=ops.size->∃l,Region.linearise.go .any ops fuel t listed acc=acc.reverse++l/\Lin ops acc l:=by
 intro fuel
 induction fuel with
 |zero=>
  intro t listed acc hs hn ei hl hf;refine⟨[],by simp[Region.linearise.go],λi hi=>?_⟩;apply ia;intro yU;have h1:(i::acc).Nodup:=iG.2 ⟨yU,hn⟩;have h2:∀x∈i::acc,x∈List.range ops.size:=by
   intro x hx;rcases aN.1 hx with rfl|hx
   .exact dZ.2 hi
   exact dZ.2 (ei x hx)
  have h3:=E5 h1 h2;simp at h3;omega
 |succ fuel ih=>
  intro t listed acc hs hn ei hl hf;simp only[Region.linearise.go];generalize hrs:(List.range ops.size).filter (λi=> !listed.getD i true&&((ops[i]?).map (·.after.all λe=> !Region.binds .any e||listed.getD e.on false)).getD false)=rs;have eA:∃i,i <ops.size/\i∉acc:=by
   apply ia;intro wX;have h2:∀x∈List.range ops.size,x∈acc:=by
    intro x hx;apply ia;intro hx2;exact wX ⟨x,dZ.1 hx,hx2⟩
   have h3:=E5 List.nodup_range h2;simp at h3;omega
  have jA:∀i,i∈rs↔(i <ops.size/\i∉acc/\∀j∈dM ops i,j∈acc):=by
   intro i;rw[<-hrs,cQ,dZ];constructor
   .rintro⟨h1,h2⟩;rw[av] at h2;refine⟨h1,λhm=>?_,λj hj=>?_⟩
    .have:=(hl i h1).2 hm;rw[this] at h2;simp at h2
    obtain⟨h3,h4⟩:=h2;have ho:ops[i]?=some ops[i]:=by simp[h1]
    simp only[dM,ho] at hj;obtain⟨e,he,hb,rfl⟩:=BT hj;rw[ho] at h4;simp only[dD,wP,Array.all_eq_true'] at h4;have h5:=h4 e (So.1 he);rw[hb] at h5;simp only[qZ,Bool.false_or] at h5;have SU:e.on <ops.size:=by
     apply ia;intro hc;have:listed.getD e.on false=false:=by
      rw[fX,Array.getElem?_eq_none (by omega)];rfl
     rw[this] at h5;cases h5
    have:listed.getD e.on true=true:=by
     rw[fX] at h5 ⊢;have:listed[e.on]?=some listed[e.on]:=by simp[hs,SU]
     rw[this] at h5 ⊢;exact h5
    exact(hl _ SU).1 this
   rintro⟨h1,h2,h3⟩;refine⟨h1,?_⟩;have hf':listed.getD i true=false:=by
    cases hh:listed.getD i true with
    |false=>rfl
    |true=>exact absurd ((hl i h1).1 hh) h2
   rw[hf'];have ho:ops[i]?=some ops[i]:=by simp[h1]
   rw[ho];simp only[sr,F8,dD,wP,Array.all_eq_true'];intro e he;cases hb:Region.binds .any e with
   |false=>rfl
   |true=>
    have hj:e.on∈acc:=h3 _ (by simp only[dM,ho];exact Kq (So.2 he) hb);have SU:=ei _ hj;have h4:=(hl _ SU).2 hj;rw[fX] at h4 ⊢;have:listed[e.on]?=some listed[e.on]:=by simp[hs,SU]
    rw[this] at h4 ⊢;simpa using h4
  have hrn:rs≠[]:=by
   obtain⟨i,hi,yU⟩:=eA;have aHK:∃i,i <ops.size/\i∉acc/\∀j,j <i->j∈acc:=by
    have:∀m i,i<=m->i <ops.size->i∉acc->∃i,i <ops.size/\i∉acc/\∀j,j <i->j∈acc:=by
     intro m
     induction m with
     |zero=>intro i h1 h2 h3;exact⟨i,h2,h3,λj hj=>by omega⟩
     |succ m ihm=>
      intro i h1 h2 h3;by_cases hex:∃j,j <i/\j∉acc
      .obtain⟨j,hj,hnj⟩:=hex;exact ihm j (by omega) (by omega) hnj
      refine⟨i,h2,h3,λj hj=>?_⟩;apply ia;intro hc;exact hex ⟨j,hj,hc⟩
    exact this i i (bk _) hi yU
   obtain⟨i,h1,h2,h3⟩:=aHK;have:i∈rs:=(jA i).2 ⟨h1,h2,λj hj=>by
    have:=(cM.1 hd) i (dZ.2 h1);have:=(cM.1 this) j hj;exact h3 j (by simpa [agl] using this)⟩
   intro he;rw[he] at this;cases this
  have aSp:0 <rs.length:=List.length_pos_iff.2 hrn;have bfO:=Nat.mod_lt t aSp;have qI:rs[t % rs.length]?=some rs[t % rs.length]:=by simp[bfO]
  rw[qI];simp only;generalize hi:rs[t % rs.length]=i;have hir:i∈rs:=by rw[<-hi];exact AF _
  obtain⟨h1,h2,h3⟩:=(jA i).1 hir;obtain⟨l,hl1,ID⟩:=ih (t / rs.length) (listed.setIfInBounds i true) (i::acc) (by simpa using hs) (iG.2 ⟨h2,hn⟩)
   (λj hj=>by rcases aN.1 hj with rfl|hj;exact h1;exact ei j hj)
   (λj hj=>by
    rw[fX,Array.getElem?_setIfInBounds];by_cases e:i=j
    .subst e;simp[hs,h1]
    have:=hl j hj;rw[fX] at this;simp only[e,cJ,this,aN];constructor
    .exact .inr
    rintro(h|h)
    .exact absurd h.symm e
    exact h)
   (by simp;omega)
  exact⟨i::l,by rw[hl1];simp,h1,h2,h3,ID⟩
theorem Iu{ops:Array Oper}(hd:Hx ops=true)(t:Nat):Lin ops [] (Region.schedule true ops t):=by
 have:Region.schedule true ops t=Region.linearise .any ops t:=by simp[Region.schedule]
 rw[this];obtain⟨l,h1,h2⟩:=aFW ops hd ops.size t (Array.replicate ops.size false) [] (by simp) (by simp) (by simp) (λi hi=>by simp_all) (by simp)
 grind [Region.linearise]
def di(ops:Array Oper)(i:Nat):Option Tmp:=(ops[i]?).bind (·.dst)
def oN(ops:Array Oper)(base:Env):List (Nat×Value)->Env
 | []=>base
 | (i,v)::r=>upd (di ops i) v (oN ops base r)
def dI:Nat->List Nat->Bool
 |_,[]=>false
 |i,x::l=>Nat.beq i x||dI i l
theorem cF:∀ {l:List Nat},dI i l=true↔i∈l
 | []=>by simp[dI]
 |x::l=>by
  simp only[dI,aF,aN,cF,Nat.beq_eq]
def fg(ops:Array Oper)(base:Env)(j:Nat):List (Nat×Value)->Env
 | []=>base.filter λx=> !((List.range ops.size).any λi=>di ops i==some x.1&& !dI j (dM ops i))
 | (i,v)::r=>bif dI i (dM ops j) then upd (di ops i) v (fg ops base j r) else fg ops base j r
def bu:List (Nat×Value)->List Nat
 | []=>[]
 | (i,_)::r=>i::bu r
theorem cT:∀ {l:List (Nat×Value)},i∈bu l↔∃v,(i,v)∈l
 | []=>by simp[bu]
 | (j,w)::r=>by
  simp only[bu,aN,cT,bL]
  grind
def kI(ops:Array Oper):Bool:=
 (List.range ops.size).all λi=>(List.range ops.size).all λj=>Nat.beq i j||(match di ops i,di ops j with|some a,some b=> !Nat.beq a b|_,_=>true)
section any
variable {P:Program} {C:Class} {fn:FuncId} {bW:Option Nat} {Q:Post} {s:St} {n:Nat} {D:List Deferred} {ops:Array Oper} {base:Env}
def ky(C:Class)(fn:FuncId)(bW:Option Nat)(ops:Array Oper)(n:Nat)(D:List Deferred)(i:Nat)(v:Value)(e:Env)(s:St):Prop:=
 ∀s',Ext s s'->∀rest todo Q,aR C fn bW ops todo Q (A n (upd (di ops i) v (e++rest)) D) s'->aR C fn bW ops (i::todo) Q (A n (e++rest) D) s'
structure Fits(ops:Array Oper)(base:Env)(Pl:List (Nat×Value))(X:List Nat)(env:Env):Prop where
 done:∀i v,(i,v)∈Pl->i∈X->∀d,di ops i=some d->get env d=v
 old:∀t,(∀i∈X,di ops i≠some t)->get env t=get base t
 cl:∀i∈X,i <ops.size/\∀j∈dM ops i,j∈X
def Bw(C:Class)(fn:FuncId)(bW:Option Nat)(ops:Array Oper)(n:Nat)(D:List Deferred)(base:Env)(Pl:List (Nat×Value))(Sl:List (Nat×Value))(Q:Post)(s:St):Prop:=
 (∀i v,(i,v)∈Sl->ky C fn bW ops n D i v (fg ops base i Pl) s)->∀X l env,(∀i∈X,i∈bu Pl)->(∀i v,(i,v)∈Pl->i∉X->(i,v)∈Sl)->Lin ops X l->Fits ops base Pl X env->
  aR C fn bW ops l Q (A n env D) s
def kK(l k:List Nat):Bool:=l.all λj=>dI j k
theorem eQ{l k:List Nat}:kK l k=true↔∀j∈l,j∈k:=by
 simp[kK,cM,cF]
theorem EJ(h:kI ops=true)(hi:i <ops.size)(hj:j <ops.size)(eA:i≠j){a b:Tmp}(ha:di ops i=some a)(hb:di ops j=some b):a≠b:=by
 have h1:=(cM.1 h) i (dZ.2 hi);have h2:=(cM.1 h1) j (dZ.2 hj);rw[ha,hb] at h2;have:Nat.beq i j=false:=by
  cases hb:Nat.beq i j with
  |false=>rfl
  |true=>exact absurd (dW hb) eA
 rw[this] at h2;intro e;subst e;simp at h2
theorem Hw(h:di ops i=some d):i <ops.size:=by
 grind [di,Array.getElem?_eq_none]
theorem Eo{X:List Nat}(hf:Fits ops base Pl X env)(j0:Nat)(hds:∀j∈dM ops j0,j∈X)(hj0:j0∉X):∃rest,A n env D=A n (fg ops base j0 Pl++rest) D:=by
 have key:∀Pl',(∀x∈Pl',x∈Pl)→∀t,((fg ops base j0 Pl').any fun x=>x.1==t)=true→get (fg ops base j0 Pl') t=get env t:=by
  intro Pl'
  induction Pl' with
  |nil=>
   intro _ t ht
   simp only[fg] at ht ⊢
   obtain⟨x,hx,hk⟩:=List.any_eq_true.1 ht
   have hk:x.1=t:=by simpa using hk
   rw[List.mem_filter] at hx
   have wX:∀i,i <ops.size→di ops i=some t→dI j0 (dM ops i)=true:=by
    intro i hi hd
    have h2:=hx.2
    rw[Bool.not_eq_true'] at h2
    have h3:=(List.any_eq_false.1 h2) i (List.mem_range.2 hi)
    rw[hd,hk] at h3
    simpa using h3
   rw[hf.old t fun i hi hd=>hj0 ((hf.cl i hi).2 j0 (cF.1 (wX i (hf.cl i hi).1 hd)))]
   have wK:∀(b:Env) (p:Nat×Value→Bool),(∀v,p (t,v)=true)→get (b.filter p) t=get b t:=by
    intro b p hp
    induction b with
    |nil=>rfl
    |cons y b ih=>
     rcases y with ⟨k,v⟩
     by_cases e:k=t
     ·subst e;simp[List.filter_cons,hp,fM]
     simp only[List.filter_cons]
     split
     ·simp only[fM,e,if_false,ih]
     simp only[fM,e,if_false,ih]
   refine wK base _ fun v=>?_
   simp only[Bool.not_eq_true',List.any_eq_false,List.mem_range]
   intro i hi
   have:=wX i hi
   simp only[Bool.and_eq_true,beq_iff_eq,Bool.not_eq_true',not_and,Bool.not_eq_false]
   exact this
  |cons x Pl' ih=>
   intro lO t ht
   rcases x with ⟨i,v⟩
   simp only[fg] at ht ⊢
   cases hm:dI i (dM ops j0) with
   |false=>rw[hm] at ht;simp only[cond_false] at ht ⊢;exact ih (fun x hx=>lO x (by simp[hx])) t ht
   |true=>
    rw[hm] at ht
    simp only[cond_true] at ht ⊢
    cases hd:di ops i with
    |none=>rw[hd] at ht;simp only[upd] at ht ⊢;exact ih (fun x hx=>lO x (by simp[hx])) t ht
    |some d=>
     rw[hd] at ht
     simp only[upd] at ht ⊢
     rw[fM]
     by_cases e:d=t
     ·subst e
      rw[if_pos rfl]
      exact(hf.done i v (lO _ (by simp)) (hds i (cF.1 hm)) d hd).symm
     rw[if_neg e]
     refine ih (fun x hx=>lO x (by simp[hx])) t ?_
     simpa [e] using ht
 refine⟨env,?_⟩
 simp only[A,Act.mk.injEq,and_true]
 congr 1
 funext i
 rw[get_append]
 split
 ·rename_i ha
  exact(key Pl (fun _ h=>h) _ ha).symm
 rfl
def Bh{X:List Nat}(sW:kI ops=true)(hf:Fits ops base Pl X env){v:Value}(hi:i <ops.size)(hx:i∉X)(hdp:∀j∈dM ops i,j∈X)(hv:∀w,(i,w)∈Pl->w=v):
 Fits ops base Pl (i::X) (upd (di ops i) v env):=by
 refine⟨λj w hj hjx d hd=>?_,λt ht=>?_,λj hj=>?_⟩
 .rcases aN.1 hjx with rfl|hjx
  .rw[hd];simp only[upd,fM,dF];exact(hv w hj).symm
  cases hdi:di ops i with
  |none=>simp only[upd];exact hf.done j w hj hjx d hd
  |some d'=>
   have eA:d'≠d:=EJ sW hi (Hw hd) (by intro e;subst e;exact hx hjx) hdi hd;simp only[upd,fM,cy eA];exact hf.done j w hj hjx d hd
 .cases hdi:di ops i with
  |none=>simp only[upd];exact hf.old t λj hj=>ht j (cb _ hj)
  |some d'=>
   have eA:d'≠t:=by intro e;subst e;exact ht i dQ hdi
   simp only[upd,fM,cy eA];exact hf.old t λj hj=>ht j (cb _ hj)
 rcases aN.1 hj with rfl|hj
 .exact⟨hi,λk hk=>cb _ (hdp k hk)⟩
 exact⟨(hf.cl j hj).1,λk hk=>cb _ ((hf.cl j hj).2 k hk)⟩
theorem Li{X:List Nat}(hf:Fits ops base Pl X env){v:Value}(hx:i∉X):Fits ops base ((i,v)::Pl) X env:=
 ⟨λj w hj hjx d hd=>by
  rcases aN.1 hj with hj|hj
  .grind
  exact hf.done j w hj hjx d hd,hf.old,hf.cl⟩
theorem Mn{qS:Env}(h:A n env D=A n qS D)(d:Option Tmp)(v:Value):A n (upd d v env) D=A n (upd d v qS) D:=by
 rw[<-dH,<-dH,h]
theorem gI{v:Value}(h:i∉dM ops j):fg ops base j ((i,v)::Pl)=fg ops base j Pl:=by
 grind [fg,dI,dM,absurd,cF]
def ky.ext{v:Value}(h:ky C fn bW ops n D i v e s)(he:Ext s s'):ky C fn bW ops n D i v e s':=
 λs'' h2=>h s'' (he.trans h2)
def wF(ops:Array Oper)(ks:List Nat):Bool:=ks.all λi=>kK (dM ops i) ks
def nodupB:List Nat->Bool
 | []=>true
 |i::l=> !dI i l&&nodupB l
theorem Rz{Sl:List (Nat×Value)}(i:Nat){v:Value}(hn:dI i (bu Pl)=false)(hk:kK (dM ops i) (bu Pl)=true)(mA:wF ops (bu Pl)=true)(hs:kK (bu Sl) (bu Pl)=true)
 (dt:ky C fn bW ops n D i v (fg ops base i Pl) s)(h:Bw C fn bW ops n D base ((i,v)::Pl) ((i,v)::Sl) Q s):Bw C fn bW ops n D base Pl Sl Q s:=by
 have yU:i∉bu Pl:=λhm=>by rw[cF.2 hm] at hn;cases hn
 intro hSl X l env hX hl wJ hf;have NH:i∉X:=λhm=>yU (hX i hm);have SY:∀j,j∈bu Pl->i∉dM ops j:=by
  intro j hj hm;have:=(cM.1 mA) j hj;exact yU (eQ.1 this i hm)
 refine h (λj w hj=>?_) X l env (λj hj=>cb _ (hX j hj)) (λj w hj hjx=>?_) wJ (Li hf NH)
 .grind [gI,eQ,cT]
 grind
def pending(ops:Array Oper)(i:Nat)(Sl:List (Nat×Value)):List (Nat×Value):=Sl.filter λx=> !dI x.1 (dM ops i)
theorem atZ(hC:∀main T,C main T→Closed P main T){Sl:List (Nat×Value)}(sW:kI ops=true)(kT:nodupB (bu Pl)=true)(dY:kK (List.range ops.size) (bu Pl)=true)(ei:kK (bu Pl) (List.range ops.size)=true)(h:Q .normal (A n (oN ops base Pl) D) s):Bw C fn bW ops n D base Pl Sl Q s:=by
 intro hSl X l
 have Qf:∀(l:List (Nat×Value)),nodupB (bu l)=true→∀j v w,(j,v)∈l→(j,w)∈l→w=v:=by
  intro l
  induction l with
  |nil=>intro _ j v w h;cases h
  |cons x l ih=>
   rcases x with ⟨k,u⟩
   intro hb j v w h1 h2
   simp only[bu,nodupB,Bool.and_eq_true,Bool.not_eq_true'] at hb
   have hk:k∉bu l:=fun hm=>by rw[cF.2 hm] at hb;cases hb.1
   rcases List.mem_cons.1 h1 with h1|h1<;>rcases List.mem_cons.1 h2 with h2|h2
   ·cases h1;cases h2;rfl
   ·cases h1;exact absurd (cT.2 ⟨_,h2⟩) hk
   ·cases h2;exact absurd (cT.2 ⟨_,h1⟩) hk
   exact ih hb.2 j v w h1 h2
 have hal:∀(l:List (Nat×Value)),(∀j∈bu l,j <ops.size)→nodupB (bu l)=true→(∀i v,(i,v)∈l→∀d,di ops i=some d→get (oN ops base l) d=v)∧(∀t,(∀i∈bu l,di ops i≠some t)→get (oN ops base l) t=get base t):=by
  intro l
  induction l with
  |nil=>intro _ _;exact⟨fun _ _ h=>((by cases h)),fun _ _=>rfl⟩
  |cons x l ih=>
   rcases x with ⟨k,u⟩
   intro ei hb
   simp only[bu,nodupB,Bool.and_eq_true,Bool.not_eq_true'] at hb
   have hk:k∉bu l:=fun hm=>by rw[cF.2 hm] at hb;cases hb.1
   obtain⟨i1,i2⟩:=ih (fun j hj=>ei j (by simp[bu,hj])) hb.2
   have hk1:k <ops.size:=ei k (by simp[bu])
   refine⟨fun i v hi d hd=>?_,fun t ht=>?_⟩
   ·simp only[oN]
    rcases List.mem_cons.1 hi with hi|hi
    ·cases hi;rw[hd];simp only[upd,fM,if_true]
    have eA:k≠i:=fun e=>hk (e▸cT.2 ⟨_,hi⟩)
    cases hdk:di ops k with
    |none=>simp only[upd];exact i1 i v hi d hd
    |some d'=>simp only[upd,fM,if_neg (EJ sW hk1 (Hw hd) eA hdk hd)];exact i1 i v hi d hd
   simp only[oN]
   cases hdk:di ops k with
   |none=>simp only[upd];exact i2 t fun i hi=>ht i (by simp[bu,hi])
   |some d'=>
    have eA:d'≠t:=fun e=>ht k (by simp[bu]) (by rw[hdk,e])
    simp only[upd,fM,if_neg eA];exact i2 t fun i hi=>ht i (by simp[bu,hi])
 obtain⟨a1,a2⟩:=hal Pl (fun j hj=>List.mem_range.1 (eQ.1 ei j hj)) kT
 induction l generalizing X with
 |nil=>
  intro env hX hl wJ hf
  refine BR hC ?_
  have:A n env D=A n (oN ops base Pl) D:=by
   simp only[A,Act.mk.injEq,and_true]
   congr 1
   funext i
   by_cases he:∃j,j <ops.size∧di ops j=some i.val
   ·obtain⟨j,hj,hd⟩:=he
    obtain⟨v,hv⟩:=cT.1 (eQ.1 dY j (List.mem_range.2 hj))
    rw[hf.done j v hv (wJ j hj) _ hd,a1 j v hv _ hd]
   rw[hf.old _ (fun j hj hd=>he ⟨j,(hf.cl j hj).1,hd⟩),a2 _ (fun j hj hd=>he ⟨j,List.mem_range.1 (eQ.1 ei j hj),hd⟩)]
  rw[this];exact h
 |cons j l ih=>
  intro env hX hl wJ hf
  obtain⟨h1,h2,h3,h4⟩:=wJ
  obtain⟨w,hw⟩:=cT.1 (eQ.1 dY j (List.mem_range.2 h1))
  obtain⟨rest,hr⟩:=Eo (n:=n) (D:=D) hf j h3 h2
  rw[hr]
  refine hSl j w (hl j w hw h2) s (Ext.refl s) rest l Q ?_
  rw[←Mn hr]
  refine ih (j::X) _ (fun k hk=>?_) (fun k u hk JC=>hl k u hk (fun h=>JC (List.mem_cons_of_mem _ h))) h4 (Bh sW hf h1 h2 h3 (fun u hu=>Qf Pl kT j w u hw hu))
  rcases List.mem_cons.1 hk with rfl|hk
  ·exact cT.2 ⟨w,hw⟩
  exact hX k hk
def ZI:List (Nat×Value)->Nat->Option Value
 | [],_=>none
 | (i,v)::r,j=>bif Nat.beq i j then some v else ZI r j
theorem ak7(hC:∀main T,C main T->Closed P main T)(hm:P.follows .mixedOrders=true)(hd:Hx ops=true)(h:Bw C fn bW ops n D env [] [] Q s):Wp C fn bW (.region id ops true) Q (A n env D) s:=by
 refine wp_region_draw hC λt=>?_;rw[hm];exact h (λ_ _ h=>((by grind))) [] _ env (λ_ h=>((by grind))) (λ_ _ h=>((by grind))) (Iu hd t) ⟨λ_ _ h=>((by simp)),λ_ _=>rfl,λ_ h=>((by grind))⟩
end any
def vY(place:Nat->Option (Nat×Nat)):List Value->List (Nat×List Value)->Option (List Value)
 |cs,[]=>some cs
 |cs,(i,vs)::r=>match place i with
  |some (off,size)=>bif Nat.beq vs.length size&&Nat.ble (off+vs.length) cs.length then vY place (gZ cs off vs) r else none
  |none=>none
theorem Uw(off:Nat):∀(vs:List Value) (k:Nat) (cs:Array Value),off+k+vs.length<=cs.size->
 (vs.zipIdx k).foldl (λ(cs:Array Value) (x:Value×Nat)=>cs.setIfInBounds (off+x.2) x.1) cs=⟨gZ cs.toList (off+k) vs⟩
 | [],k,cs,_=>by simp[tb]
 |v::vs,k,cs,h=>by
  simp only[aJ] at h;simp;rw[Uw off vs (k+1) _ (by simp;omega),Ki _ _ _ _ (by simp;omega)]
  grind
def fill_eq(place:Nat->Option (Nat×Nat)):∀(parts:List (Nat×Value)) (cs l:List Value),vY place cs (parts.map λx=>(x.1,x.2.cells.toList))=some l->Instr.fill place ⟨cs⟩ parts=some ⟨l⟩
 | [],cs,l,h=>by simp[vY] at h;subst h;rfl
 | (i,v)::r,cs,l,h=>by
  simp only[bR,vY] at h;simp only[Instr.fill];cases hp:place i with
  |none=>rw[hp] at h;cases h
  |some x=>
   rcases x with ⟨off,size⟩
   rw[hp] at h;simp only at h ⊢;cases hb:(Nat.beq v.cells.toList.length size&&Nat.ble (off+v.cells.toList.length) cs.length) with
   |false=>rw[hb] at h;cases h
   |true=>
    rw[hb] at h;simp only[cG] at h;rw[av] at hb;have h1:v.cells.size=size:=by simpa using dW hb.1
    have h2:off+v.cells.size<=cs.length:=by simpa using cP hb.2
    rw[cy (by simp[h1];omega)];rw[show v.cells.zipIdx.foldl (λ(cs:Array Value) (x:Value×Nat)=>cs.setIfInBounds (off+x.2) x.1) (⟨cs⟩:Array Value)=⟨gZ cs off v.cells.toList⟩ from by
     rw[<-Array.foldl_toList,Array.toList_zipIdx];have:=Uw off v.cells.toList 0 ⟨cs⟩ (by simpa using h2);simpa using this]
    exact fill_eq place r _ l h
def Yv(n:Nat)(env:Env):List (Nat×Operand)->Option (List (Nat×Value))
 | []=>some []
 | (i,x)::l=>match dv n env x with
  |some v=>match Yv n env l with
   |some r=>some ((i,v)::r)
   |none=>none
  |none=>none
theorem asX:∀ {xs:List (Nat×Operand)} {l:List (Nat×Value)},Yv n env xs=some l->xs.map (λx=>(x.1,ev n env x.2))=l
 | [],l,h=>by simpa [Yv] using h
 | (i,x)::xs,l,h=>by
  simp only[Yv] at h;cases hx:dv n env x with
  |none=>rw[hx] at h;cases h
  |some v=>
   rw[hx] at h;cases hr:Yv n env xs with
   |none=>rw[hr] at h;cases h
   |some r=>rw[hr] at h;simp_all;subst h;simp[cg hx,asX hr]
def iQ:Value->List Value
 | .agg ⟨l⟩=>l
 |v=>[v]
theorem sI(v:Value):iQ v=v.cells.toList:=by cases v<;>rfl
def BO:List (Nat×Value)->List (Nat×List Value)
 | []=>[]
 | (i,v)::r=>(i,iQ v)::BO r
theorem qB:∀(l:List (Nat×Value)),BO l=l.map λx=>(x.1,x.2.cells.toList)
 | []=>rfl
 | (i,v)::r=>by simp[BO,sI,qB r]
def gr(z:List Value):Nat->List Value
 |0=>[]
 |n+1=>z++gr z n
theorem oD(z:List Value):∀n,(gr z n).length=n*z.length
 |0=>by simp[gr]
 |n+1=>by simp[gr,oD z n,HP,Nat.add_comm]
theorem Oy(z:List Value)(hz:0 <z.length):∀n i,i <n*z.length->(gr z n)[i]?=z[i % z.length]?
 |0,i,h=>by simp at h
 |n+1,i,h=>by
  simp only[gr,List.getElem?_append];split
  .rename_i hl;rw[Nat.mod_eq_of_lt hl]
  rename_i hl;rw[Oy z hz n (i-z.length) (by rw[HP,Nat.one_mul] at h;omega)]
  grind [Nat.mod_eq_sub_mod]
def AG(z:List Value)(n:Nat):((Array.range (n*z.length)).map λi=>(⟨z⟩:Array Value)[i % (⟨z⟩:Array Value).size]!)=⟨gr z n⟩:=by
 apply w7;intro i;simp only[Array.getElem?_map,Array.getElem?_range];by_cases h:i <n*z.length
 .have hz:0 <z.length:=by
   rcases FH z.length with h0|h0
   .rw[h0] at h;simp at h
   exact h0
  have hm:i % z.length <z.length:=Nat.mod_lt _ hz;simp only[h,dF,dD];have:=Oy z hz n i h;simp only[List.size_toArray,sL];rw[this];simp[hm,getElem!_pos]
 simp only[h,cJ,lQ];simp[oD,AA (show (gr z n).length<=i by rw[oD];omega)]
inductive Ma(P:Program):List Field->List (Nat×Nat)->Prop
 |nil:Ma P [] []
 |cons {f:Field} {d:TypeDesc} {sz dP:Nat} {z:List Value} {ag:Bool} {fs:List Field} {ps:List (Nat×Nat)} (h:TF P f.type d sz dP z ag) (t:Ma P fs ps):Ma P (f::fs) ((f.offset,sz)::ps)
theorem u6{P:Program}{s:St}{Q:α->St->Prop}:∀ {fs:List Field} {ps:List (Nat×Nat)} (_:Ma P fs ps) {k:List (Nat×Nat)->Sem α},
 eN P (fs.mapM (λf=>do pure (f.offset,<-sizeOf f.type)) >>= k) s Q E=eN P (k ps) s Q E
 |_,_,.nil,k=>by rfl
 |_,_,.cons h t,k=>by
  simp only[List.mapM_cons,aI,eE h,aQ];exact u6 t
section rules
variable {P:Program} {C:Class} {fn:FuncId} {bW:Option Nat} {Q:Post} {s:St} {n:Nat} {env:Env} {D:List Deferred}
variable {ops:Array Oper} {i:Nat} {rest:List Nat} {dst:Option Tmp} {ty:TypeId} {pos:String} {gf:Array Edge} {g:Option (Nat×Bool)}
variable {T:TypeId} {d:TypeDesc} {sz dP:Nat} {z:List Value} {ag:Bool}
theorem TH(ps:Array (Nat×Operand)){l:List (Nat×Value)}(h:Yv n env ps.toList=some l):(ps.map λx=>(x.1,ev n env x.2)).toList=l:=by
 grind [Array.toList_map,asX]
def VU(hC:∀main T,C main T->Closed P main T){E:TypeId}{m:Nat}{ps:Array (Nat×Operand)}{pv:List (Nat×Value)}{d':TypeDesc}(ho:ops[i]?=some ⟨dst,.buildSlice T m ps,ty,pos,gf,g⟩) (hw:bN ops n env g=true)
 (tf:TF P T (.slice E) sz dP z ag) (og:TF P E d' nF Dc z' EM) (hz:Nat.beq z'.length nF=true) (hp:Yv n env ps.toList=some pv) (hm:Nat.ble (m*nF) 16777216=true) (hf:vY (λi=>some (i*nF,nF)) (gr z' m) (BO pv)=some l)
 (h:∀b,¬s.knows b->aR C fn bW ops rest Q (A n (upd dst (.slice (some ⟨b,0,none⟩) m m) env) D) ⟨s.ro,(b,.cells ⟨l⟩ E)::s.rw⟩):aR C fn bW ops (i::rest) Q (A n env D) s:=by
 refine eF hC ho hw (by simp) ?_;have hle:¬m*nF>2^24:=by have:=cP hm;omega
 have Ec:z'.length=nF:=dW hz;rw[qB] at hf;have h1:=fill_eq _ _ _ _ hf;have h2:=TH ps hp;simp only[execOp,Instr.buildSlice,aI,db tf,eE og,hle,cJ];by_cases h0:m*nF=0
 .rw[dN h0];have SL:((Array.range (m*nF)).map λi=>(#[]:Array Value)[i % (#[]:Array Value).size]!)=⟨gr z' m⟩:=by
   rw[h0];have:gr z' m=[]:=kQ (by rw[oD,Ec,h0]);rw[this];simp
  simp only[aI,aQ];rw[SL,h2,h1];simp only[aI,lT,aQ];intro b hb;have:=h b hb;rw[<-dH] at this;exact this
 rw[cy h0];have SL:((Array.range (m*nF)).map λi=>(⟨z'⟩:Array Value)[i % (⟨z'⟩:Array Value).size]!)=⟨gr z' m⟩:=by rw[<-Ec];exact AG z' m
 simp only[aI,oE og,aQ,ij og,SL,h2,h1,lT];intro b hb;have:=h b hb;rw[<-dH] at this;exact this
end rules
def Sl(s:St)(v:Value)(sz:Nat)(enc:α->List Value)(ps:List α):Prop:=
 ∃a b o cap,v= .slice a ps.length cap/\(∀k,k <ps.length->a=some ⟨b,o,none⟩)/\∀i p,ps[i]?=some p->eW s b (o+i*sz) sz (enc p)
theorem Sl.nil(s:St)(sz:Nat)(enc:α->List Value)(a:Option Addr)(cap:Nat):Sl s (.slice a 0 cap) sz enc []:=
 ⟨a,0,0,cap,rfl,λk h=>absurd h (fS k),λi p hp=>by grind⟩
theorem eW.cell{s:St}{m:Nat}(h:eW s b o m vs)(j:Nat)(v:Value)(hj:vs[j]?=some v):Reads s b (o+j) v:=by
 obtain⟨l,t,fz,h1,h2⟩:=h;exact⟨l,t,fz,h1,by grind [yd,sub_eq]⟩
theorem eW.len{s:St}{m:Nat}(h:eW s b o m vs):vs.length=m:=by
 obtain⟨l,t,fz,h1,h2⟩:=h
 grind [sub_eq]
section sem
variable {P:Program} {α:Type} {s:St} {Q:α->St->Prop} {E:Halt->St->Prop}
theorem adh(l:List Value):∀(i:Nat) (acc:Array Value) {k:Array Value->Sem α},(∀(j:Nat) (v:Value),l[j]?=some v->Reads s b (o+i+j) v)->eN P (k (acc++l.toArray)) s Q E->
 eN P (loadCellsFrom ⟨b,o,none⟩ i l.length acc >>= k) s Q E:=by
 induction l with
 |nil=>intro i acc k _ hk;simpa [loadCellsFrom,aQ] using hk
 |cons v l ih=>
  intro i acc k h2 hk;simp only[aJ,loadCellsFrom,aI,ir];refine Dz (h2 0 v rfl)<|ih (i+1) (acc.push v) (λj x hx=>?_) (by simpa using hk);have:=h2 (j+1) x (by simpa using hx)
  grind
theorem adg{m:Nat}(hm:l.length=m)(h:∀(j:Nat) (v:Value),l[j]?=some v->Reads s b (o+j) v) {k:Array Value->Sem α} (hk:eN P (k ⟨l⟩) s Q E):eN P (loadCells ⟨b,o,none⟩ m >>= k) s Q E:=by
 subst hm;exact adh l 0 #[] (by omega) (by grind)
end sem
def abE{enc:α->List Value}:∀(ps:List α),(∀p∈ps,(enc p).length=sz)->∀(j:Nat) (v:Value),((ps.map enc).flatten)[j]?=some v->∃i p r,ps[i]?=some p/\j=i*sz+r/\(enc p)[r]?=some v
 | [],_,j,v,h=>by simp at h
 |p::ps,hl,j,v,h=>by
  simp only[bR,List.flatten_cons,List.getElem?_append] at h;have hp:=hl p (by simp);split at h
  .exact⟨0,p,j,rfl,by simp,h⟩
  rename_i hj;obtain⟨i,q,r,h1,h2,h3⟩:=abE ps (λx hx=>hl x (by simp[hx])) _ v h;refine⟨i+1,q,r,by simpa using h1,?_,h3⟩;rw[HP,Nat.one_mul];omega
theorem rA{enc:α->List Value}:∀(ps:List α),(∀p∈ps,(enc p).length=sz)->((ps.map enc).flatten).length=ps.length*sz
 | [],_=>by simp
 |p::ps,hl=>by
  have:=rA ps (λx hx=>hl x (by grind))
  grind
theorem Sl.flat{s:St}{enc:α->List Value}{ps:List α}(h:∀(i:Nat) (p:α),ps[i]?=some p->eW s b (o+i*sz) sz (enc p)):
 (∀p∈ps,(enc p).length=sz)/\∀(j:Nat) (v:Value),((ps.map enc).flatten)[j]?=some v->Reads s b (o+j) v:=by
 have hl:∀p∈ps,(enc p).length=sz:=by
  intro p hp;obtain⟨i,hi⟩:=List.mem_iff_getElem?.1 hp;exact(h i p hi).len
 refine⟨hl,λj v hv=>?_⟩;obtain⟨i,p,r,h1,rfl,h3⟩:=abE ps hl j v hv;have:=(h i p h1).cell r v h3
 grind
def bI(v:Value)(sz:Nat)(T:TypeId)(enc:α->List Value)(ps:List α)(L:List (Nat×Obj)):Prop:=
 (v= .slice none 0 0/\ps=[]/\L=[])\/
 ∃b l cap,v= .slice (some ⟨b,0,none⟩) ps.length cap/\L=[(b,.cells ⟨l⟩ T (0,0))]/\l.length=cap*sz/\ps.length<=cap/\(∀p∈ps,(enc p).length=sz)/\l.take (ps.length*sz)=(ps.map enc).flatten
def bI.nil(sz:Nat)(T:TypeId)(enc:α->List Value):bI (.slice none 0 0) sz T enc [] []:= .inl ⟨rfl,rfl,rfl⟩
theorem oz{m:Nat}(h:o+m<=l.length):sub l o m=some ((l.drop o).take m):=by
 have ht:∀(m:Nat) (l:List Value),m<=l.length->qg l m=some (l.take m):=by
  intro m
  induction m with
  |zero=>intro l _;cases l<;>simp[qg]
  |succ m ih=>
   intro l hl;cases l with
   |nil=>simp at hl
   |cons x l=>simp only[qg,ih l (by simpa using hl),List.take_succ_cons]
 induction o generalizing l with
 |zero=>have:=ht m l (by omega);cases l<;>simpa [sub] using this
 |succ o ih=>
  cases l with
  |nil=>simp at h
  |cons x l=>simp only[sub,List.drop_succ_cons];exact ih (by simp at h;omega)
theorem Lh{enc:α->List Value}:∀(ps:List α),(∀p∈ps,(enc p).length=sz)->∀(i:Nat) (p:α),ps[i]?=some p->(((ps.map enc).flatten).drop (i*sz)).take sz=enc p
 | [],_,i,p,h=>by simp at h
 |q::ps,hl,0,p,h=>(by grind)
 |q::ps,hl,i+1,p,h=>by
  have hq:=hl q (by simp);simp;rw[show (i+1)*sz=(enc q).length+i*sz from by rw[hq,HP,Nat.one_mul];omega,<-List.drop_drop,List.drop_left];exact Lh ps (λx hx=>hl x (by simp[hx])) i p (by simpa using h)
theorem bI.sl{v:Value}{T:TypeId}{enc:α->List Value}{ps:List α}{L:List (Nat×Obj)}(h:bI v sz T enc ps L){s:St}(hs:∀x∈L,s.has x.1 x.2):Sl s v sz enc ps:=by
 rcases h with ⟨rfl,rfl,rfl⟩| ⟨b,l,cap,rfl,rfl,h1,h2,h3,h4⟩
 .exact Sl.nil s sz enc none 0
 refine⟨_,b,0,cap,rfl,λ_ _=>rfl,λi p hp=>⟨l,T,(0,0),hs (b,.cells ⟨l⟩ T (0,0)) (by simp),?_⟩⟩;have hi:i <ps.length:=(by grind);have hb:i*sz+sz<=ps.length*sz:=by
  have:=mh sz hi;rw[acz] at this;exact this
 have kV:ps.length*sz<=cap*sz:=mh _ h2;rw[iE,oz (by omega)];have h5:=Lh ps h3 i p hp;rw[<-h4,List.drop_take,List.take_take] at h5;rw[<-h5,Nat.min_eq_left (by omega)]
def DW(need dP:Nat):Prop:=need<=1048576/\dP<=65536
theorem Uv(need:Nat):∀(r c:Nat),c<=2*need+768->Builtin.growBy need r c<=2*need+768
 |0,c,h=>h
 |r+1,c,h=>by
  simp only[Builtin.growBy];split
  .grind
  exact Uv _ r _ (by omega)
theorem PS{need cap:Nat}(h:cap <need):Builtin.nextslicecap need cap<=2*need+768:=by
 grind [Builtin.nextslicecap,Uv]
theorem BL:∀(l:List Value) (o:Nat) (vs:List Value),o+vs.length<=l.length->gZ l o vs=l.take o++vs++l.drop (o+vs.length)
 | [],o,vs,h=>by
  simp only[aO] at h;have h0:o=0:=by omega
  have h1:vs=[]:=kQ (by omega);subst h0;subst h1;rfl
 |x::l,0,[],_=>by simp[gZ]
 |x::l,o+1,[],_=>by simp[gZ]
 |x::l,0,v::vs,h=>by
  have:=BL l 0 vs (by simp only[aJ] at h;omega);simp[gZ,this]
 |x::l,o+1,v::vs,h=>by
  have:=BL l o (v::vs) (by simp only[aJ] at h ⊢;omega);simp only[gZ,this,List.take_succ_cons,dK];rw[show o+1+(v::vs).length=(o+(v::vs).length)+1 from by omega,List.drop_succ_cons]
theorem qh{P:Program}{s:St}{Q:β->St->Prop}{ti:TypeInfo}(h:P.info? t=some ti){k:TypeInfo->Sem β}:eN P (typeInfo t >>= k) s Q E=eN P (k ti) s Q E:=by
 grind [typeInfo,aI,jJ,aQ]
theorem am4{P:Program}{s:St}{Q:β->St->Prop}{q:Question}{k:Nat->Sem β}(hq:q.forced=false)(h:∀n,eN P (k (q.cut n)) s Q E):eN P (choose q >>= k) s Q E:=by
 show (if q.forced=true then _ else _);rw[cy (by grind)];exact h
theorem Ti{P:Program}{s:St}{Q:β->St->Prop}{q:Question}{k:Nat->Sem β}(hq:q.forced=false):eN P (choose q >>= k) s Q E=∀n,eN P (k (q.cut n)) s Q E:=by
 show (if q.forced=true then _ else _)=_;rw[cy (by grind)];rfl
theorem uA{P:Program}{s:St}{Q:β->St->Prop}{m:Nat}{k:Unit->Sem β}(h:eN P (k ()) s Q E):eN P (askRoom m >>= k) s Q E:=by
 unfold askRoom;split
 .exact⟨rfl,h⟩
 grind
section rules
variable {P:Program} {C:Class} {fn:FuncId} {bW:Option Nat} {Q:Post} {s:St} {n:Nat} {env:Env} {D:List Deferred}
variable {ops:Array Oper} {i:Nat} {rest:List Nat} {dst:Option Tmp} {ty:TypeId} {pos:String} {gf:Array Edge} {g:Option (Nat×Bool)}
variable {T:TypeId} {d:TypeDesc} {sz dP:Nat} {z:List Value} {ag:Bool}
def BF{Q:β->St->Prop}{v:Value}{enc:α->List Value}{ps:List α}(h:Sl s v sz enc ps){k:Array Value->Sem β}(hk:eN P (k ⟨(ps.map enc).flatten⟩) s Q E):eN P (Builtin.firstCells sz ps.length v >>= k) s Q E:=by
 obtain⟨a,b,o,cap,rfl,ha,hr⟩:=h;obtain⟨hl,hf⟩:=Sl.flat hr;cases ps with
 |nil=>
  cases a with
  |none=>simpa [Builtin.firstCells,aQ] using hk
  |some a=>
   simp only[Builtin.firstCells,aO,Nat.zero_mul,loadCells,loadCellsFrom,aQ];simpa using hk
 |cons p ps=>
  have:=ha 0 (by simp);subst this;simp only[Builtin.firstCells];exact adg (by rw[rA _ hl]) hf hk
def aac(hC:∀main T,C main T->Closed P main T){E:TypeId}{v w:Value}{enc:α->List Value}{ps qs:List α}{L pre:List (Nat×Obj)}{d':TypeDesc}{E2:TypeId}{sz2 Db:Nat}{z2:List Value}{ag2:Bool}{U:TypeId}
 (ho:ops[i]?=some ⟨dst,.call ⟨.builtin .append,#[x,y],#[T,U]⟩,ty,pos,gf,g⟩) (hw:bN ops n env g=true) (tf:TF P T (.slice E) sz dP z ag) (tfU:TF P U (.slice E2) sz2 Db z2 ag2) (og:TF P E d' nF Dc z' EM) (hz:z'.length=nF)
 (hx:dv n env x=some v) (hy:dv n env y=some w) (kS:bI v nF E enc ps L) (Bx:Sl s w nF enc qs) (hs:s.rw=pre++(L++R)) (hq:∀p∈qs,∀c∈enc p,single c=true) (hb:DW (ps.length+qs.length) Dc)
 (h:∀v' L',bI v' nF E enc (ps++qs) L'->aR C fn bW ops rest Q (A n (upd dst v' env) D) ⟨s.ro,pre++(L'++R)⟩):aR C fn bW ops (i::rest) Q (A n env D) s:=by
 refine eF hC ho hw (by simp) ?_;have ae5:∀s s':St,s.le s'->∀a,aR C fn bW ops rest Q a s->aR C fn bW ops rest Q a s':=
  λs s' hl a ho main T hT b k cs h1 h2 h3 h4=>(hC main T hT).mono _ _ _ hl (ho main T hT b k cs h1 h2 h3 h4)
 obtain⟨hql,_⟩:=(show (∀p∈qs,(enc p).length=nF)/\True from by
  obtain⟨a,b,o,cap,rfl,ha,hr⟩:=Bx;exact⟨(Sl.flat hr).1,trivial⟩)
 have Bf:((qs.map enc).flatten).length=qs.length*nF:=rA qs hql;have Uj:∀avE,avE <ps.length+qs.length->¬(Builtin.nextslicecap (ps.length+qs.length) avE*Dc>2^48):=by
  intro avE ei;have h1:=PS ei;obtain⟨h2,h3⟩:=hb;have h4:Builtin.nextslicecap (ps.length+qs.length) avE<=2097920:=by omega
  have h5:=Sn h4 h3;have:(2097920*65536:Nat)<=2^48:=by decide
  omega
 have hlen:∀w',Sl s w' nF enc qs->∃a cap,w'= .slice a qs.length cap:=by
  rintro w' ⟨a,b,o,cap,rfl,_,_⟩;exact⟨a,cap,rfl⟩
 obtain⟨wa,boj,hwe⟩:=hlen w Bx;simp only[execOp,resolve,invoke,builtin,Builtin.append_,oT,bR,lR,cg hx,cg hy,aQ,aI,sL,my,List.getElem?_cons_succ,db tf];have hv:∃a cap,v= .slice a ps.length cap:=by
  rcases kS with ⟨rfl,rfl,_⟩| ⟨b,l,cap,rfl,_⟩
  .exact⟨_,_,rfl⟩
  exact⟨_,_,rfl⟩
 obtain⟨va,Dt,hve⟩:=hv;have qP:∀ {β:Type} (k:Nat->Sem β) (Q:β->St->Prop) (E:Halt->St->Prop),eN P (Builtin.lenOf w >>= k) s Q E=eN P (k qs.length) s Q E:=by
  intro β k Q E;rw[hwe];rfl
 simp only[hve,aI,eE og,db tfU,aQ,aW,cJ,sr,dF,qP];obtain⟨ti,iy,beM,Wu,_⟩:=og.info;by_cases lY:ps.length+qs.length<=Dt
 .rw[dN lY];simp only[aI];refine BF Bx ?_;rcases kS with ⟨hv0,rfl,rfl⟩| ⟨b,l,cap,hv1,rfl,h1,h2,h3,h4⟩
  .rw[hv0] at hve;cases hve;have Ym:qs=[]:=kQ (by simp only[aO] at lY;omega);subst Ym;simp only[aQ];have:=h (.slice none 0 0) [] (bI.nil nF E enc);rw[<-dH] at this;rcases s with ⟨ro,rw_⟩
   simp only at hs;subst hs;exact this
  rw[hv1] at hve;cases hve;simp only[aI,ir,iE];have ov:ps.length*nF+((qs.map enc).flatten).length<=l.length:=by
   rw[Bf,h1,<-HP];exact mh _ lY
  refine s8 (L:=pre) (R:=R) ((qs.map enc).flatten) 0 l s (by rw[hs];rfl) (by omega) (λc hc=>?_) ?_
  .obtain⟨e,he,hce⟩:=List.mem_flatten.1 hc;obtain⟨p,hp,rfl⟩:=a8.1 he;exact hq p hp c hce
  have:=h (.slice (some ⟨b,0,none⟩) (ps++qs).length Dt) [(b,.cells ⟨gZ l (ps.length*nF) ((qs.map enc).flatten)⟩ E (0,0))]
   (.inr ⟨b,_,Dt,rfl,rfl,by rw[ri,h1],by simpa using lY,λp hp=>(bJ.1 hp).elim (h3 p) (hql p),by
    rw[BL _ _ _ ov,aL,HP,bx];rw[cw,YD,<-h4];rw[show ps.length*nF+qs.length*nF=(l.take (ps.length*nF)).length+qs.length*nF from by rw[cH];omega];rw[List.take_append,bF (by omega)];congr 1;rw[show (l.take (ps.length*nF)).length+qs.length*nF-(l.take (ps.length*nF)).length=((qs.map enc).flatten).length from by rw[Bf];omega,List.take_left]⟩)
  rw[<-dH] at this;simp only[aQ,ug];rw[aL] at this;exact this
 rw[cy lY];have ei:Dt <ps.length+qs.length:=by omega
 have aHA:¬(((ps.length+qs.length:Nat):Int)>IntKind.i64.max):=by
  have:IntKind.i64.max=9223372036854775807:=by decide
  obtain⟨h2,_⟩:=hb;rw[this];omega
 have hc:=Uj Dt ei;simp only[aI,qh iy,aHA,false_and,cJ];rw[Wu,cy hc];simp only[aI];rw[Ti rfl];intro tp;generalize iK:Question.cut (.appendCap (ps.length+qs.length) Dt E) tp=lh;have Yq:ps.length+qs.length<=lh:=by rw[<-iK];simp[Question.cut]
 simp only[aI];rw[qh iy];simp only[aI];refine uA ?_;simp only[aI];have hold:Sl s (.slice va ps.length Dt) nF enc ps:=by
  rw[<-hve];refine kS.sl λx hx=> .inr ?_;rw[hs];simp[hx]
 refine BF hold ?_;simp only[aI];refine BF Bx ?_;simp only[aI,oE og,ij og,Builtin.zeroCells];have SL:((Array.range ((lh-(ps.length+qs.length))*(⟨z'⟩:Array Value).size)).map λi=>(⟨z'⟩:Array Value)[i % (⟨z'⟩:Array Value).size]!)=⟨gr z' (lh-(ps.length+qs.length))⟩:=AG z' _;rw[SL];simp only[lT,aQ];intro b' mB;have wm:∀p∈ps,(enc p).length=nF:=by
  rcases kS with ⟨_,rfl,_⟩| ⟨_,_,_,_,_,_,_,h3,_⟩
  .intro p hp;cases hp
  exact h3
 have Uc:=rA ps wm;have aSu:bI (.slice (some ⟨b',0,none⟩) (ps++qs).length lh) nF E enc (ps++qs) [(b',.cells ⟨(ps.map enc).flatten++(qs.map enc).flatten++gr z' (lh-(ps.length+qs.length))⟩ E (0,0))]:=
  .inr ⟨b',_,lh,rfl,rfl,by
   simp only[aL,Uc,Bf,oD,hz,<-HP];congr 1;omega,by simpa using Yq,λp hp=>(bJ.1 hp).elim (wm p) (hql p),by
   rw[cw,YD,aL,HP,<-Uc,<-Bf,<-aL,List.take_left]⟩
 have:=h _ _ aSu;rw[<-dH,aL] at this;have aIv:((⟨(ps.map enc).flatten⟩:Array Value)++⟨(qs.map enc).flatten⟩++⟨gr z' (lh-(ps.length+qs.length))⟩)=⟨(ps.map enc).flatten++(qs.map enc).flatten++gr z' (lh-(ps.length+qs.length))⟩:=by simp
 rw[aIv];refine ae5 ⟨s.ro,pre++([(b',.cells ⟨(ps.map enc).flatten++(qs.map enc).flatten++gr z' (lh-(ps.length+qs.length))⟩ E (0,0))]++R)⟩ _ ?_ _ ?_
 .refine⟨L,?_,λ_ _ h=> .inl h⟩;rw[hs];rw[bx pre,bx [_] R L];simp only[dK,aY];refine List.Perm.trans ?_ jB.symm;refine List.Perm.cons _<|AB pre<|iB
 simpa using this
end rules
section rules
variable {P:Program} {C:Class} {fn:FuncId} {bW:Option Nat} {Q:Post} {s:St} {n:Nat} {env:Env} {D:List Deferred}
variable {ops:Array Oper} {i:Nat} {rest:List Nat} {dst:Option Tmp} {ty:TypeId} {pos:String} {gf:Array Edge} {g:Option (Nat×Bool)}
variable {T:TypeId} {d:TypeDesc} {sz dP:Nat} {z:List Value} {ag:Bool}
def EqV(P:Program)(t:TypeId)(x y:Value)(r:Bool):Prop:=
 ∀(s:St) (k:Bool->Sem Next) (Q:Next->St->Prop) (E:Halt->St->Prop),eN P (Op.equal t x y >>= k) s Q E=eN P (k r) s Q E
def Cs(P:Program)(t:TypeId):Prop:=P.eqGuardType P.depth t=false
def awt(hC:∀main T,C main T->Closed P main T){T:TypeId}{m:List Value}(ho:ops[i]?=some ⟨dst,.binOp .eql T x y T',ty,pos,gf,g⟩) (hw:bN ops n env g=true)
 (hx:dv n env x=some (.agg ⟨l⟩)) (hy:dv n env y=some (.agg ⟨m⟩)) (hg:Cs P T) (he:EqV P T (.agg ⟨l⟩) (.agg ⟨m⟩) r) (h:aR C fn bW ops rest Q (A n (upd dst (.bool r) env) D) s):aR C fn bW ops (i::rest) Q (A n env D) s:=by
 refine eF hC ho hw (by simp) ?_;have hg':P.eqGuardType _ T=false:=hg;simp only[execOp,cg hx,cg hy,eqGuard,qZ,aW,cJ,aI,jJ,hg',sr,dF,aQ,binOp];rw[he];rw[<-dH] at h;exact h
def aoO(hC:∀main T,C main T->Closed P main T){T:TypeId}{m:List Value}(ho:ops[i]?=some ⟨dst,.binOp .neq T x y T',ty,pos,gf,g⟩) (hw:bN ops n env g=true)
 (hx:dv n env x=some (.agg ⟨l⟩)) (hy:dv n env y=some (.agg ⟨m⟩)) (hg:Cs P T) (he:EqV P T (.agg ⟨l⟩) (.agg ⟨m⟩) r) (h:aR C fn bW ops rest Q (A n (upd dst (.bool !r) env) D) s):aR C fn bW ops (i::rest) Q (A n env D) s:=by
 refine eF hC ho hw (by simp) ?_;have hg':P.eqGuardType P.depth T=false:=hg;simp only[execOp,cg hx,cg hy,eqGuard,qZ,aW,cJ,aI,jJ,hg',sr,dF,aQ,binOp];rw[he];rw[<-dH] at h;exact h
def EqD(P:Program)(dep:Nat)(t:TypeId)(x y:Value)(r:Bool):Prop:=
 ∀(α:Type) (s:St) (k:Bool->Sem α) (Q:α->St->Prop) (E:Halt->St->Prop),eN P (Op.equalIn dep t x y >>= k) s Q E=eN P (k r) s Q E
theorem tE{k:IntKind}(tf:TF P t (.int k) sz dP z ag)(a b:Int):EqD P (dep+1) t (.int k a) (.int k b) (a==b):=by
 intro α s kk Q E;simp only[Op.equalIn,aI,db tf,dF,aQ]
theorem Vn{d:TypeDesc}(tf:TF P t d sz dP z false){v:Value}(hv:nth l o=some v){k:Value->Sem α}{Q:α->St->Prop}:eN P (part t ⟨l⟩ o >>= k) s Q E=eN P (k v) s Q E:=by
 grind [yd,part,aI,pQ]
def Vm{d:TypeDesc}(tf:TF P t d sz dP z true){m:List Value}(hv:sub l o sz=some m){k:Value->Sem α}{Q:α->St->Prop}:eN P (part t ⟨l⟩ o >>= k) s Q E=eN P (k (.agg ⟨m⟩)) s Q E:=by
 obtain⟨h1,h2⟩:=sub_eq _ _ _ _ hv;simp only[part,aI,pQ tf,dF,eE tf,aQ];have:(⟨l⟩:Array Value).extract o (o+sz)=⟨m⟩:=by
  apply Array.ext';simp only[Array.toList_extract,List.extract_eq_take_drop];apply pI;intro j;rw[List.getElem?_take];split
  .rename_i hj;rw[List.getElem?_drop];have hjm:j <m.length:=by omega
   have h3:=h2 j m[j] (by simp[hjm]);rw[h3];simp[hjm]
  rename_i hj;rw[AA (by omega)]
 rw[this]
def RE(P:Program)(t:TypeId)(l:List Value)(o:Nat)(v:Value):Prop:=
 ∀(α:Type) (s:St) (k:Value->Sem α) (Q:α->St->Prop) (E:Halt->St->Prop),eN P (part t ⟨l⟩ o >>= k) s Q E=eN P (k v) s Q E
def oI{d:TypeDesc}(tf:TF P t d sz dP z false){v:Value}(hv:nth l o=some v):RE P t l o v:=λ_ _ _ _ _=>Vn tf hv
def BP{d:TypeDesc}(tf:TF P t d sz dP z true){m:List Value}(hv:sub l o sz=some m):RE P t l o (.agg ⟨m⟩):=λ_ _ _ _ _=>Vm tf hv
inductive Jt(P:Program)(dep:Nat)(l m:List Value):List Field->Bool->Prop
 |nil:Jt P dep l m [] true
 |cons {f:Field} {fs:List Field} {v w:Value} {r r':Bool} (hn:f.name≠ "_") (hv:RE P f.type l f.offset v) (hw:RE P f.type m f.offset w) (he:EqD P dep f.type v w r) (ht:Jt P dep l m fs r'):Jt P dep l m (f::fs) (r&&r')
def Cg{fields:Array Field}{m:List Value}(tf:TF P t (.struct fields) sz dP z true)(hs:P.stoodInHeld t=false)(hf:Jt P dep l m fields.toList r):EqD P (dep+1) t (.agg ⟨l⟩) (.agg ⟨m⟩) r:=by
 intro α s k Q E;simp only[Op.equalIn,aI,db tf,jJ,hs,aW,cJ];rw[<-Array.forIn_toList];generalize fields.toList=fl at hf;clear tf
 induction hf with
 |nil=>simp only[List.forIn_nil,aQ,aI,Bool.and_true]
 | @cons f fs v w r r' hn hv hw he ht ih=>
  simp only[List.forIn_cons,hn,ne_eq,not_false_eq_true,dF,aI];rw[hv];simp only[aI];rw[hw];simp only[aI];rw[he];cases r with
  |false=>simp only[sr,dF,aQ,aI,wR]
  |true=>
   simp only[qZ,aW,cJ,aQ,F8];exact ih
def afF{x y:Value}(h:EqD P 10000 t x y r):EqV P t x y r:=λs k Q E=>h _ s k Q E
end rules
section rules
variable {P:Program} {C:Class} {fn:FuncId} {bW:Option Nat} {Q:Post} {s:St} {n:Nat} {env:Env} {D:List Deferred}
variable {ops:Array Oper} {i:Nat} {rest:List Nat} {dst:Option Tmp} {ty:TypeId} {pos:String} {gf:Array Edge} {g:Option (Nat×Bool)}
variable {T:TypeId} {d:TypeDesc} {sz dP:Nat} {z:List Value} {ag:Bool}
def DO:List Value->Value
 | [x]=>x
 |l=> .tuple ⟨l⟩
inductive NZ(P:Program)(s:St)(n:Nat)(env:Env):List ResultVar->List Value->Prop
 |nil:NZ P s n env [] []
 |tmp {t:Tmp} {v:Value} {rs:List ResultVar} {vs:List Value} (h:dv n env (.tmp t)=some v) (hr:NZ P s n env rs vs):NZ P s n env (.tmp t::rs) (v::vs)
 |agg {t:Tmp} {T:TypeId} {d:TypeDesc} {sz dP:Nat} {z l:List Value} {b o:Nat} {rs:List ResultVar} {vs:List Value} (tf:TF P T d sz dP z true) (h:dv n env (.tmp t)=some (.pointer (some ⟨b,o,none⟩))) (hl:eW s b o sz l) (hr:NZ P s n env rs vs):NZ P s n env (.cell t T::rs) (.agg ⟨l⟩::vs)
 |cell {t:Tmp} {T:TypeId} {d:TypeDesc} {sz dP:Nat} {z:List Value} {v:Value} {b o:Nat} {rs:List ResultVar} {vs:List Value} (tf:TF P T d sz dP z false) (h:dv n env (.tmp t)=some (.pointer (some ⟨b,o,none⟩))) (hl:Reads s b o v) (hr:NZ P s n env rs vs):NZ P s n env (.cell t T::rs) (v::vs)
def OU:∀ {rs:List ResultVar} {vs:List Value} (_:NZ P s n env rs vs) {k:List Value->Sem α} {Q:α->St->Prop} {E:Halt->St->Prop},eN P (k vs) s Q E->
 eN P (rs.mapM (fun| .tmp t=>pure ((A n env D).tmps.getD t undef)| .cell a t=>do loadVar t (<-asAddr ((A n env D).tmps.getD a undef))) >>= k) s Q E
 |_,_,.nil,k,Q,E,h=>by simpa only[List.mapM_nil,aQ] using h
 |_,_,.tmp (t:=t) (v:=v) h hr,k,Q,E,hk=>by
  have hv:(A n env D).tmps.getD t undef=v:=by have:=xz (D:=D) h;rwa[<-fX] at this
  simp only[List.mapM_cons,aI,aQ,hv];exact OU hr hk
 |_,_,.agg (t:=t) (l:=l) (b:=b) (o:=o) tf h hl hr,k,Q,E,hk=>by
  have hv:(A n env D).tmps.getD t undef= .pointer (some ⟨b,o,none⟩):=by have:=xz (D:=D) h;rwa[<-fX] at this
  simp only[List.mapM_cons,aI,aQ,hv,asAddr,loadVar,pQ tf,dF,eE tf];refine oy hl ?_
  try simp only[aI,aQ]
  exact OU hr hk
 |_,_,.cell (t:=t) (v:=v) (b:=b) (o:=o) tf h hl hr,k,Q,E,hk=>by
  have hv:(A n env D).tmps.getD t undef= .pointer (some ⟨b,o,none⟩):=by have:=xz (D:=D) h;rwa[<-fX] at this
  simp only[List.mapM_cons,aI,aQ,hv,asAddr,loadVar,pQ tf,aW,cJ];refine Dz hl ?_
  try simp only[aI,aQ]
  exact OU hr hk
def Zm{fn:Func}{R:Ending->St->Prop}{e:Exit}{s0:St}{vs:List Value}{v:Value}(he:e= .ret\/e= .normal)(hr:NZ P s n env fn.results.toList vs)(hv:DO vs=v)(hl:s0.le s)(h:R (.returned v) s0):zv P fn R e (A n env []) s:=by
 refine EH he rfl ?_;unfold results;rw[Array.mapM_eq_mapM_toList];simp only[map_eq_pure_bind,aI,aQ];refine OU (D:=[]) hr ?_;refine⟨s0,hl,?_⟩;subst hv;have:(if h:(⟨vs⟩:Array Value).size=1 then (⟨vs⟩:Array Value)[0] else .tuple ⟨vs⟩)=DO vs:=by
  match vs with
  | []=>rfl
  | [x]=>rfl
  |x::y::l=>simp[DO]
 rw[<-this] at h;exact h
def aPN(hC:∀main T,C main T->Closed P main T){T:TypeId}{k:IntKind}{a b:Int}(ho:ops[i]?=some ⟨dst,.binOp .rem T x y T',ty,pos,gf,g⟩) (hw:bN ops n env g=true)
 (hx:dv n env x=some (.int k a)) (hy:dv n env y=some (.int k b)) (hb:b≠0) (h:aR C fn bW ops rest Q (A n (upd dst (.int k (a.tmod b)) env) D) s):aR C fn bW ops (i::rest) Q (A n env D) s:=
 Z6 hC ho hw hx hy (by
  show (if (k≠k) then _ else _)=_;rw[cy (by simp)];simp only[Op.intDiv,hb,cJ];rfl) h
def aPO(hC:∀main T,C main T->Closed P main T){T:TypeId}{k:IntKind}{a b:Int}(ho:ops[i]?=some ⟨dst,.binOp .quo T x y T',ty,pos,gf,g⟩) (hw:bN ops n env g=true)
 (hx:dv n env x=some (.int k a)) (hy:dv n env y=some (.int k b)) (hb:b≠0) (hr:k.wrap (a.tdiv b)=a.tdiv b) (h:aR C fn bW ops rest Q (A n (upd dst (.int k (a.tdiv b)) env) D) s):aR C fn bW ops (i::rest) Q (A n env D) s:=
 Z6 hC ho hw hx hy (v:= .int k (a.tdiv b)) (by
  show (if (k≠k) then _ else _)=_;rw[cy (by simp)];simp only[Op.intDiv,hb,cJ,hr];rfl) h
end rules
abbrev dw:=Nat->Option (Nat×Nat)
inductive Tr(α:Type) where
 |nil
 |node (v:Option α) (l r:Tr α)
def beq_false{a:Nat}(h:a≠b):Nat.beq a b=false:=by
 cases hb:Nat.beq a b with
 |false=>rfl
 |true=>exact absurd (dW hb) h
structure fK where
 key:Value
 val:Value
 born:Nat
inductive qy where
 |cells (l:List Value) (t:TypeId)
 |map (es:List fK) (clock:Nat)
 |kZ (s:ByteArray) (pos:Nat)
 |mapIter (m:Option Nat) (since:Nat) (seen:List Nat) (H0:Nat)
 |loop (st:LoopState) (pend:Option Code) (fn n:Nat) (env:Env) (params:Array Tmp) (assign body:Code) (defers:Nat)
 |defer (taken:Bool)
 |Ry (es:List fK)
structure CB where
 ro:Bool
 o:qy
structure Mem where
 t:Tr CB
 next:Nat
def asn{rest:Env}{t:Nat}{v:Value}(h:mP e t=some v):mP (e++rest) t=some v:=by
 induction e with
 |nil=>cases h
 |cons x e ih=>
  rcases x with ⟨k,u⟩
  simp only[mP,dK] at h ⊢;cases hb:Nat.beq k t with
  |true=>rw[hb] at h;exact h
  |false=>rw[hb] at h;exact ih h
theorem cO{rest:Env}{v:Value}(h:dv n e x=some v):dv n (e++rest) x=some v:=by
 cases x with
 |tmp t=>
  simp only[dv] at h ⊢;cases hb:Nat.blt t n with
  |true=>rw[hb] at h;exact asn h
  |false=>rw[hb] at h;cases h
 |_=>exact h
theorem Ft{rest:Env}:∀ {xs:List Operand} {vs:List Value},F5 n e xs=some vs->F5 n (e++rest) xs=some vs
 | [],vs,h=>h
 |x::xs,vs,h=>by
  simp only[F5] at h ⊢;cases hx:dv n e x with
  |none=>rw[hx] at h;cases h
  |some v=>
   rw[hx] at h;cases hr:F5 n e xs with
   |none=>rw[hr] at h;cases h
   |some r=>rw[hr] at h;rw[cO hx,Ft hr];exact h
structure TI where
 d:TypeDesc
 size:Nat
 zero:List Value
 agg:Bool
def Wi:TypeDesc->Bool
 | .struct _| .array _ _=>true
 |_=>false
def Oz:Bool->Value->Option (List Value)
 |true,.agg ⟨l⟩=>some l
 |true,_=>none
 |false,.agg _=>none
 |false,v=>some [v]
def c9(P:Program)(t:TypeId):Option TI:=
 match P.underlying t with
 |some d=>match P.info? t with
  |some i=>match i.zero with
   |some z=>match Oz (Wi d) z with
    |some l=>some ⟨d,i.size,l,Wi d⟩
    |none=>none
   |none=>none
  |none=>none
 |none=>none
theorem bA{P:Program}{x:TI}(h:c9 P t=some x):∃dP,TF P t x.d x.size dP x.zero x.agg:=by
 unfold c9 at h;split at h<;>try (cases h;done)
 rename_i d hd;split at h<;>try (cases h;done)
 rename_i i hi;split at h<;>try (cases h;done)
 rename_i z hz;split at h<;>try (cases h;done)
 rename_i l hl;cases h;refine⟨i.bytes,hd,⟨i,hi,rfl,rfl,z,hz,?_,?_⟩,?_⟩
 .revert hl;simp only;cases hb:Wi d
  .intro hl;cases z<;>simp_all[Oz,Value.cells]
  intro hl;cases z<;>simp_all[Oz,Value.cells];cases hl;rfl
 .revert hl;simp only;cases hb:Wi d
  .intro hl;cases z<;>simp_all[Oz]<;>subst hl<;>rfl
  intro hl;cases z<;>simp_all[Oz];cases hl;rfl
 cases d<;>rfl
def eg(P:Program):Sem α->Option α
 | .pure a=>some a
 | .program k=>eg P (k P)
 |_=>none
def vy{P:Program}:∀ {x:Sem α} {a:α},eg P x=some a->∀ {s:St} {Q:α->St->Prop} {E:Halt->St->Prop},Q a s->eN P x s Q E
 | .pure _,_,h,_,_,_,hq=>by simp only[eg,aB] at h;subst h;exact hq
 | .program k,_,h,_,_,_,hq=>vy (x:=k P) h hq
 | .load ..,_,h,_,_,_,_=>by cases h
 | .store ..,_,h,_,_,_,_=>by cases h
 | .new ..,_,h,_,_,_,_=>by cases h
 | .shape ..,_,h,_,_,_,_=>by cases h
 | .freeze ..,_,h,_,_,_,_=>by cases h
 | .frozen ..,_,h,_,_,_,_=>by cases h
 | .getObj ..,_,h,_,_,_,_=>by cases h
 | .setObj ..,_,h,_,_,_,_=>by cases h
 | .choose ..,_,h,_,_,_,_=>by cases h
 | .sys ..,_,h,_,_,_,_=>by cases h
 | .mark ..,_,h,_,_,_,_=>by cases h
 | .halt ..,_,h,_,_,_,_=>by cases h
def Ev(n:Nat)(e:Env)(f:Operand->Value):Prop:=∀x v,dv n e x=some v->f x=v
theorem Ev.list(h:Ev n e f):∀ {xs:List Operand} {vs:List Value},F5 n e xs=some vs->xs.map f=vs
 | [],vs,hx=>by simpa [F5] using hx
 |x::xs,vs,hx=>by
  simp only[F5] at hx;cases h1:dv n e x with
  |none=>rw[h1] at hx;cases hx
  |some v=>
   rw[h1] at hx;cases h2:F5 n e xs with
   |none=>rw[h2] at hx;cases hx
   |some r=>rw[h2] at hx;simp only[aB] at hx;subst hx;simp[h _ _ h1,Ev.list h h2]
theorem Ev.arr(h:Ev n e f)(hx:F5 n e xs.toList=some vs):xs.map f=⟨vs⟩:=by
 have:=h.list hx;rcases xs with ⟨xs⟩
 simpa using this
def Yields(P:Program)(n:Nat)(e:Env)(o:Oper)(s:St)(v:Value):Prop:=
 ∀s',Ext s s'->∀f,Ev n e f->∀(K:Next->St->Prop) (E:Halt->St->Prop),K (.value v) s'->eN P (execOp f o) s' K E
def PB:Op->Option (List Operand)
 | .binOp _ _ x y _=>some [x,y]
 | .unOp _ _ x=>some [x]
 | .convert _ _ x=>some [x]
 | .index _ x y=>some [x,y]
 | .field _ x _=>some [x]
 | .slice _ x none none none=>some [x]
 | .slice _ x (some a) none none=>some [x,a]
 | .slice _ x none (some a) none=>some [x,a]
 | .slice _ x (some a) (some b) none=>some [x,a,b]
 | .call ⟨.builtin .min,xs,_⟩=>some xs.toList
 | .call ⟨.builtin .max,xs,_⟩=>some xs.toList
 | .typeAssert x _ _ _=>some [x]
 |_=>none
def BM{o:Oper}{xs:List Operand}(h:PB o.op=some xs){f g:Operand->Value}(hfg:∀x∈xs,f x=g x):execOp f o=execOp g o:=by
  unfold PB at h;split at h<;>try (cases h;done)
  all_goals (rename_i heq;simp only[aB] at h;subst h)
  all_goals first
    | (simp[execOp,heq,hfg];done)
    | (simp only[execOp,heq,resolve]
       rename_i xs at_;have:xs.map f=xs.map g:=by
         apply Array.map_congr_left;intro a ha;exact hfg a (by simpa using ha)
       rw[this])
theorem Ev.parts(hf:Ev n e f):∀ {xs:List (Nat×Operand)} {l:List (Nat×Value)},Yv n e xs=some l->xs.map (λx=>(x.1,f x.2))=l
 | [],l,h=>by simpa [Yv] using h
 | (i,x)::xs,l,h=>by
  simp only[Yv] at h;cases hx:dv n e x with
  |none=>rw[hx] at h;cases h
  |some v=>
   rw[hx] at h;cases hr:Yv n e xs with
   |none=>rw[hr] at h;cases h
   |some r=>rw[hr] at h;simp only[aB] at h;subst h;simp[hf _ _ hx,Ev.parts hf hr]
theorem Ev.DN(hf:Ev n e f){ps:Array (Nat×Operand)}{l:List (Nat×Value)}(h:Yv n e ps.toList=some l):(ps.map λx=>(x.1,f x.2)).toList=l:=by
 rw[Array.toList_map];exact hf.parts h
def E0(P:Program):List Field->Option (List (Nat×Nat))
 | []=>some []
 |f::fs=>match c9 P f.type with
  |some ti=>match E0 P fs with
   |some r=>some ((f.offset,ti.size)::r)
   |none=>none
  |none=>none
theorem GV{P:Program}:∀ {fs:List Field} {pl:List (Nat×Nat)},E0 P fs=some pl->Ma P fs pl
 | [],pl,h=>by simp only[E0,aB] at h;subst h;exact .nil
 |f::fs,pl,h=>by
  simp only[E0] at h;split at h<;>try (cases h;done)
  rename_i ti iy;split at h<;>try (cases h;done)
  rename_i r hr;simp only[aB] at h;subst h;obtain⟨dP,tf⟩:=bA iy;exact .cons tf (GV hr)
def rO(P:Program)(t:TypeId):Nat:=match P.info? t with|some i=>i.bytes|none=>1000000
def fL{P:Program}{s:St}{r:Nat}{o:Obj}{k:Obj->Sem α}{Q:α->St->Prop}(h:s.has r o)(h1:Obj.Fa o=false)(h2:o.isChan=false)(hk:eN P (k o) s Q E):eN P (getObj r >>= k) s Q E:=⟨o,h,h1,h2,hk⟩
def jh{P:Program}{s:St}{r:Nat}{o:Obj}{L:List (Nat×Obj)}{k:Unit->Sem α}{Q:α->St->Prop}(h2:o.isChan=false)(hs:s.rw=L++(r,o')::R)(h1:Obj.Fa o'=false)(hk:eN P (k ()) ⟨s.ro,L++(r,o)::R⟩ Q E)(hr:Obj.real o=true:=by rfl):eN P (setObj r o >>= k) s Q E:=⟨h2,hr,L,o',R,hs,h1,hk⟩
def jm:Op->Bool
 | .defer _=>false
 |_=>true
def vC{op:Op}(h:jm op=true):∀c,op≠ .defer c:=by
 intro c e;subst e;cases h
section ops
variable {P:Program} {C:Class} {fn:FuncId} {bW:Option Nat} {Q:Post} {s:St} {n:Nat} {D:List Deferred} {ops:Array Oper} {i:Nat} {todo:List Nat} {ρ:dw} {ce e:Env} {o:Oper} {v:Value} {m m':Mem} {F:Nat×Obj->Prop} {R:Nat->Option Obj}
def Ev.PO(rest:Env):Ev n e (ev n (e++rest)):=λ_ _ h=>cg (cO h)
def qk(hC:∀main T,C main T->Closed P main T)(ho:ops[i]?=some o) (rest:Env) (hw:bN ops n (e++rest) o.guard=true) (hd:jm o.op=true) (hy:Yields P n e o s v) (hx:Ext s s') (hk:aR C fn bW ops todo Q (A n (upd o.dst v (e++rest)) D) s'):
 aR C fn bW ops (i::todo) Q (A n (e++rest) D) s':=by
 refine eF hC ho hw (vC hd) (hy s' hx _ (Ev.PO rest) _ _ ?_);show aR _ _ _ _ _ _ _ _;rw[dH];exact hk
end ops
inductive CR where
 |ret (v:Value)
 |panic (v:Value)
inductive Tgt where
 |fn (f:FuncId)
 |yield (l:Nat)
abbrev fC:=Tgt->List Value->Mem->Option (CR×Mem)
def HM(P:Program)(f:FuncId):Bool:=
 match P.funcs[f]? with
 |some fn=> !(fn.name== "runtime.NumGoroutine")&& !fn.body.isNone
 |none=>false
def n5{P:Program}{f:FuncId}(h:HM P f=true):FF P f:=by
 unfold HM at h;split at h
 .rename_i fn C4;simp only[av,az] at h;exact⟨fn,C4,h.1,h.2⟩
 cases h
structure AL where
 i:Nat
 id:Nat
 ob:qy
section rounds
variable {P:Program} {C:Class} {s:St}
def X3(s:St)(l:Nat)(K:Loop->(Loop->St)->Prop):Prop:=∃L r Rr,s.rw=L++(l,.loop r)::Rr/\K r λr'=>⟨s.ro,L++(l,.loop r')::Rr⟩
def afI(R:Ending->St->Prop)(l:Nat)(jump:Option Code)(s:St):Prop:=
 X3 s l λr up=>R (.returned (.bool jump.isNone)) (up {r with state:=if jump.isNone then .ready else .done,pending:=jump})
def J5(R:Ending->St->Prop)(l:Nat):Post
 | .normal,_,s=>afI R l none s
 | .ret,_,s=>afI R l (some .ret) s
 | .exit id,_,s=>afI R l (some (.exit id)) s
 | .panic ch,a,s=>a.defers=[]/\R (.panicked ch) s
 |_,_,_=>False
def af2(C:Class)(R:Ending->St->Prop)(l:Nat)(f:FuncId)(body:Code):Post
 | .normal,a,s=>X3 s l λr up=>r.state= .ready/\Wp C f (some l) body (J5 R l) a (up {r with state:= .busy})
 | .panic ch,a,s=>a.defers=[]/\R (.panicked ch) s
 |_,_,_=>False
def EW{l:Nat}{L Rr:List (Nat×Obj)}{r:Loop}(hs:s.rw=L++(l,.loop r)::Rr){k:Loop->Sem α}{Q:α->St->Prop}(hk:eN P (k r) s Q E):eN P (Instr.getLoop l >>= k) s Q E:=by
 simp only[Instr.getLoop,aI];exact fL (o:= .loop r) (.inr (by rw[hs];exact jF)) rfl rfl hk
def DF(hC:∀main T,C main T->Closed P main T)(hT:C main T){c:Frame}{l:Nat}{jump:Option Code}{R:Ending->St->Prop}(h1:fr.kind= .normal)
 (lE:∀w,stepG P main (G fr (c::cs)) w=(let (r,es):=(Instr.endRound l jump).runT P w #[];GStep.after (seen P fr.fn es)<|match r with
  | .ok v w=>doReturn P main fr (c::cs) none v w
  | .halt _ w=> .ended (.stuck "range over a function: no such loop" (fr.pos P)) w))
 (hr:afI R l jump s)(hk:∀v s',R (.returned v) s'->T (G (c.finish v) cs) s'):T (G fr (c::cs)) s:=by
 obtain⟨L,r,Rr,hs,hR⟩:=hr;have B4:eN P (Instr.endRound l jump) s (λv s'=>R (.returned v) s') (λ_ _=>False):=by
  simp only[Instr.endRound];refine EW hs<|jh rfl hs rfl hR
 refine(hC main T hT).step _ _ rfl λw yO=>?_;obtain⟨res,es,dz,hl⟩:=lK _ _ _ _ w #[] B4 yO;rw[dA] at dz;cases res with
 |ok v w'=>
  obtain⟨s',ht,hu⟩:=hl;refine⟨G (c.finish v) cs,w',seen P fr.fn es,s',?_,rfl,ht.sub (mJ _ _ _),hk _ _ hu⟩;rw[lE,dz];simp only[doReturn,h1,GStep.after,bV,G]
 |halt _ _=>obtain⟨_,_,hu⟩:=hl;exact hu.elim
def Mx(hC:∀main T,C main T->Closed P main T){l:Nat}{f:FuncId}{fn:Func}(hf:P.funcs[f]?=some fn) {tmps:Array Value} {R:Ending->St->Prop}
 (h:Wp C f (some l) assign (af2 C R l f body) ⟨tmps,[]⟩ s):Round C l f tmps assign body s R:=by
 intro main T hT cl cs k1 k2
 let b:Frame:={(default:Frame) with fn:=f,kind:= .normal,roundOf:=some l}
 have oL:Frame.round l f tmps assign body .normal=dJ b ⟨tmps,[]⟩ [.code assign,.beginRound,.code body]:=by simp[Frame.round,dJ,b]
 rw[oL];have aqh:∀ch a' s' todo,a'.defers=[]/\R (.panicked ch) s'->T (G {dJ b a' todo with mode:= .panicking ch} (cl::cs)) s':=by
  intro ch a' s' todo q;refine(hC main T hT).go rfl rfl (g':=G (cl.raise ch) cs) (λw=>?_) (k2 _ _ q.2);have SS:∀fr:Frame,fr.fn=f->fr.catches P=false:=by
   intro fr SX;simp[Frame.catches,SX,hf]
  have:=SS {dJ b a' todo with mode:= .panicking ch} rfl;simp only[dJ,q.1] at this;simp[G,stepG,unwind,dJ,b,q.1,this]
 refine h main T hT b [.beginRound,.code body] (cl::cs) rfl (by simp[b]) rfl λe a' s' q=>?_;cases e with
 |normal=>
  obtain⟨L,r,Rr,hs,dt,hw⟩:=q;have B4:eN P (do Instr.beginRound l;pure Next.skip:Sem Next) s' (λnx s2=>nx= .skip/\s2=⟨s'.ro,L++(l,.loop {r with state:= .busy})::Rr⟩) (λ_ _=>False):=by
   simp only[Instr.beginRound,aI];refine EW hs ?_;simp only[aI];refine jh rfl hs rfl ?_;simp only[dt,aQ];exact⟨rfl,rfl⟩
  have Ul:T (G (dJ b a' [.code body]) (cl::cs)) ⟨s'.ro,L++(l,.loop {r with state:= .busy})::Rr⟩:=by
   refine hw main T hT b [] (cl::cs) rfl (by simp[b]) rfl λe2 a2 s2 q2=>?_;cases e2 with
   |normal=>exact DF hC hT (l:=l) (jump:=none) rfl (λw=>by simp[G,stepG,stepG.exec,dJ,b];rfl) q2 k1
   |ret=>exact λtodo=>DF hC hT (l:=l) (jump:=some .ret) rfl (λw=>by simp[G,stepG,stepG.exec,dJ,b];rfl) q2 k1
   |exit id=>exact λtodo SM=>DF hC hT (l:=l) (jump:=some (.exit id)) rfl (λw=>by simp[G,stepG,stepG.exec,dJ,b,SM];rfl) q2 k1
   |panic ch=>exact λtodo=>aqh ch a2 s2 todo q2
   |goto l'=>exact q2.elim
   |outgrown=>exact q2.elim
  refine(hC main T hT).step _ _ rfl λw yO=>?_;obtain⟨res,es,dz,hl⟩:=lK _ _ _ _ w #[] B4 yO;rw[dA] at dz;cases res with
  |ok nx w'=>
   obtain⟨s2,ht,rfl,rfl⟩:=hl;refine⟨G (dJ b a' [.code body]) (cl::cs),w',seen P f es,_,?_,rfl,ht.sub (mJ _ _ _),Ul⟩;have lE:stepG P main (G (dJ b a' [.beginRound,.code body]) (cl::cs)) w=stepG.apply P true (dJ b a' [.beginRound,.code body]) (cl::cs) none (do Instr.beginRound l;pure Next.skip:Sem Next) w:=rfl;rw[lE];simp only[stepG.apply,dF,dz];simp[GStep.after,Frame.finish,dJ,b,G]
  |halt _ _=>obtain⟨_,_,hu⟩:=hl;exact hu.elim
 |panic ch=>exact λtodo=>aqh ch a' s' todo q
 |ret=>exact q.elim
 |exit id=>exact q.elim
 |goto l=>exact q.elim
 |outgrown=>exact q.elim
end rounds
section rounds
variable {P:Program} {C:Class} {s:St}
def jP(bd:Nat):Deferred:={target:= .collected bd,args:= #[]}
def nO(fn:FuncId)(tmps:Array Value)(params:Array Tmp)(assign body:Code)(bd:Nat):Loop:={state:= .ready,pending:=none,fn,tmps,params,assign,body,defers:=bd}
def alb(Q:Post)(a:Act)(l:Nat):Ending->St->Prop
 | .returned _,s=>X3 s l λr up=>r.state≠ .busy/\(match r.pending with
  |none=>Q .normal a (up {r with state:= .exhausted})
  |some .ret=>Q .ret a (up {r with state:= .exhausted})
  |some (.exit id)=>Q (.exit id) a (up {r with state:= .exhausted})
  |_=>False)
 | .panicked ch,s=>Q (.panic ch) a s
 | .outgrown,_=>False
def HR(hC:∀main T,C main T->Closed P main T){params:Array Tmp}{Q:Post}{a:Act}{g:FuncId}(hx:a.eval x= .func (.func g) fi ca)(ff:FF P g)
 (h:∀bd bl,¬s.knows bd->¬(⟨s.ro,(bd,.deferred (some []))::s.rw⟩:St).knows bl->
  Fn C P g (fi++ #[.func (.yield bl) #[] #[]]++ca) ⟨s.ro,(bl,.loop (nO fn a.tmps params assign body bd))::(bd,.deferred (some []))::s.rw⟩ (alb Q {a with defers:=jP bd::a.defers} bl)):
 Wp C fn none (.rangeFunc x params assign body) Q a s:=by
 intro main T hT b k cs h1 h2 h3 h4;have kp:=hC main T hT;have hk:(b.kind==CallKind.early)=false:=by simpa using h2
 have B4:eN P (Instr.enterLoop fn a.tmps params assign body none) s (λr s'=>∃bd bl,¬s.knows bd/\¬(⟨s.ro,(bd,.deferred (some []))::s.rw⟩:St).knows bl/\r=(bl,[jP bd])/\s'=⟨s.ro,(bl,.loop (nO fn a.tmps params assign body bd))::(bd,.deferred (some []))::s.rw⟩) (λ_ _=>False):=by
  simp only[Instr.enterLoop,aI,vx,aQ];refine⟨rfl,?_⟩;intro bd hbd;refine⟨rfl,?_⟩;intro bl hbl;exact⟨bd,bl,hbd,hbl,rfl,rfl⟩
 refine kp.step _ _ rfl λw yO=>?_;obtain⟨res,es,dz,hl⟩:=lK _ _ _ _ w #[] B4 yO;rw[dA] at dz;cases res with
 |halt _ _=>obtain⟨_,_,hu⟩:=hl;exact hu.elim
 |ok r w1=>
  obtain⟨s1,ht1,bd,bl,hbd,hbl,rfl,rfl⟩:=hl;have aSa:eN P (callFunc g (fi++ #[.func (.yield bl) #[] #[]]++ca)) ⟨s.ro,(bl,.loop (nO fn a.tmps params assign body bd))::(bd,.deferred (some []))::s.rw⟩ (λnx s2=>nx= .enter g (fi++ #[.func (.yield bl) #[] #[]]++ca)/\s2=⟨s.ro,(bl,.loop (nO fn a.tmps params assign body bd))::(bd,.deferred (some []))::s.rw⟩) (λ_ _=>False):=oF ff ⟨rfl,rfl⟩;obtain⟨bbM,NQ,aBH,ID⟩:=lK _ _ _ _ w1 #[] aSa ht1.ny;rw[dA] at aBH;cases bbM with
  |halt _ _=>obtain⟨_,_,hu⟩:=ID;exact hu.elim
  |ok nx w2=>
   obtain⟨s2,ht2,rfl,rfl⟩:=ID
   let oe:Frame:=dJ b {a with defers:=jP bd::a.defers} (.inRangeFunc bl::k)
   refine⟨G (Frame.enter P g (fi++ #[.func (.yield bl) #[] #[]]++ca) .normal) (oe::cs),w2,seen P b.fn es++seen P b.fn NQ,_,?_,rfl,(ht1.sub (mJ _ _ _)).trans (ht2.sub (mJ _ _ _)),?_⟩
   .have WB:(dJ b {a with defers:=jP bd::a.defers} (.inRangeFunc bl::k)).eval x= .func (.func g) fi ca:=by rw[Q3];exact hx
    have hdo:(do let d <-resolve (dJ b {a with defers:=jP bd::a.defers} (.inRangeFunc bl::k)).eval {callee:= .value x,args:= #[.const (.func (.yield bl) #[] #[])],argTypes:= #[]} 0;invoke d.target d.args:Sem Next)=callFunc g (fi++ #[.func (.yield bl) #[] #[]]++ca):=by
     have hm:Array.map (dJ b {a with defers:=jP bd::a.defers} (.inRangeFunc bl::k)).eval #[Operand.const (.func (.yield bl) #[] #[])]= #[.func (.yield bl) #[] #[]]:=by simp[Frame.eval]
     simp only[resolve,WB,Deferred.ofValue];rw[hm];rfl
    have dt:stepG P main (G (dJ b a (.code (.rangeFunc x params assign body)::k)) cs) w=
     (let (r,es):=(Instr.enterLoop b.fn a.tmps params assign body b.roundOf).runT P w #[]
      GStep.after (seen P b.fn es)<|match r with
       | .ok (l,mark) w=>
        stepG.apply P true (dJ b {a with defers:=mark++a.defers} (.inRangeFunc l::k)) cs none (do let d <-resolve (dJ b {a with defers:=mark++a.defers} (.inRangeFunc l::k)).eval {callee:= .value x,args:= #[.const (.func (.yield l) #[] #[])],argTypes:= #[]} 0;invoke d.target d.args) w
       | .halt _ w=> .ended (.stuck "range over a function: no such loop" ((dJ b a (.code (.rangeFunc x params assign body)::k)).pos P)) w):=rfl
    rw[dt,h1,h3,dz];simp only[List.singleton_append];rw[hdo];simp only[stepG.apply,dF,aBH];simp only[dJ,hk,aW,cJ,GStep.after,h1];simp[G,oe,dJ,h1]
   refine h bd bl hbd hbl main T hT oe cs (λv s' hv=>?_) (λch s' hv=>h4 _ _ _ hv _);obtain⟨L,r,Rr,hs,hnb,hq⟩:=hv;have C5:∀(jump:Option Code),r.pending=jump->T (G (dJ b {a with defers:=jP bd::a.defers} ((jump.map Item.code).toList++k)) cs) ⟨s'.ro,L++(bl,.loop {r with state:= .exhausted})::Rr⟩->T (G (oe.finish v) cs) s':=by
    intro jump hj hT';have aR9:eN P (Instr.endLoop bl) s' (λj s2=>j=jump/\s2=⟨s'.ro,L++(bl,.loop {r with state:= .exhausted})::Rr⟩) (λ_ _=>False):=by
     simp only[Instr.endLoop];refine EW hs ?_;have hbq:(r.state==LoopState.busy)=false:=by simpa using hnb
     simp only[hbq,aW,cJ,aI,aQ];exact jh rfl hs rfl ⟨hj,rfl⟩
    refine kp.step _ _ rfl λw yO=>?_;obtain⟨res,es,dz,hl⟩:=lK _ _ _ _ w #[] aR9 yO;rw[dA] at dz;cases res with
    |halt _ _=>obtain⟨_,_,hu⟩:=hl;exact hu.elim
    |ok j w'=>
     obtain⟨s2,ht,rfl,rfl⟩:=hl;refine⟨_,w',seen P b.fn es,_,?_,rfl,ht.sub (mJ _ _ _),hT'⟩;have beO:stepG P main (G (oe.finish v) cs) w=(let (r,es):=(Instr.endLoop bl).runT P w #[]
      GStep.after (seen P b.fn es)<|match r with
      | .ok jump w=> .go (G (dJ b {a with defers:=jP bd::a.defers} ((jump.map Item.code).toList++k)) cs) w
      | .halt (.panic v) w=> .go (G ((dJ b {a with defers:=jP bd::a.defers} (.endRangeFunc bl::k)).raise [{v,recovered:=false}]) cs) w
      | .halt _ w=> .ended (.stuck "range over a function: no such loop" ((dJ b {a with defers:=jP bd::a.defers} (.endRangeFunc bl::k)).pos P)) w):=rfl
     rw[beO,dz];simp[GStep.after]
   split at hq
   .rename_i hp;exact C5 none hp (h4 _ _ _ hq)
   .rename_i hp;exact C5 _ hp (h4 _ _ _ hq k)
   .rename_i id hp;refine C5 _ hp ?_;have h':=h4 _ _ _ hq;simp only[After] at h';cases iu:exitTo id k with
    |some k'=>
     rw[iu] at h';exact kp.go rfl rfl (g':=G (dJ b {a with defers:=jP bd::a.defers} k') cs) (λw=>by simp[G,stepG,stepG.exec,dJ,iu]) h'
    |none=>rw[iu] at h';exact h' k iu
   exact hq.elim
end rounds
section marks
variable {P:Program} {C:Class} {s:St}
def unwind_mark(hC:∀main T,C main T->Closed P main T)(hT:C main T)(hm:fr.mode= .returning\/∃ch,fr.mode= .panicking ch){bd:Nat}(hd:fr.defers=jP bd::ds)
 {L Rr:List (Nat×Obj)}(hs:s.rw=L++(bd,.deferred (some []))::Rr)(h:T (G {fr with defers:=ds} cs) ⟨s.ro,L++(bd,.deferred none)::Rr⟩):T (G fr cs) s:=by
 have B4:eN P (Instr.takeDeferred bd) s (λc s2=>c=[]/\s2=⟨s.ro,L++(bd,.deferred none)::Rr⟩) (λ_ _=>False):=by
  simp only[Instr.takeDeferred];refine fL (o:= .deferred (some [])) (.inr (by rw[hs];exact jF)) rfl rfl ?_;exact jh rfl hs rfl ⟨rfl,rfl⟩
 refine(hC main T hT).step _ _ rfl λw yO=>?_;obtain⟨res,es,dz,hl⟩:=lK _ _ _ _ w #[] B4 yO;rw[dA] at dz;cases res with
 |halt _ _=>obtain⟨_,_,hu⟩:=hl;exact hu.elim
 |ok c w'=>
  obtain⟨s2,ht,rfl,rfl⟩:=hl;refine⟨_,w',seen P fr.fn es,_,?_,rfl,ht.sub (mJ _ _ _),h⟩;rcases fr with ⟨fn',tmps,todo,defers,mode,kind,ro⟩
  simp only at hm hd;subst hd;rcases hm with rfl| ⟨ch,rfl⟩
  .simp only[G,stepG,unwind,jP,dz,GStep.after,bV,aY]
  simp only[G,stepG,unwind,jP,dz,GStep.after,bV,aY]
end marks
section code
variable {P:Program} {C:Class} {fn:FuncId} {bW:Option Nat} {n LF:Nat} {F:Nat×Obj->Prop} {R:Nat->Option Obj} {call:fC}
def YL{Q:Post}{a:Act}{s:St}(hC:∀main T,C main T->Closed P main T){c:Code}(h:Wp C fn bW c Q a s):Wp C fn bW (.scope c) Q a s:=by
 intro main T hT b k cs h1 h2 h3 h4;refine(hC main T hT).go rfl rfl (g':=G (dJ b a (.code c:: .inScope c::k)) cs) (λw=>by simp[G,stepG,stepG.exec,dJ]) ?_;refine h main T hT b (.inScope c::k) cs h1 h2 h3 λe a' s' q=>?_;cases e with
 |normal=>exact(hC main T hT).go rfl rfl (g':=G (dJ b a' k) cs) (λw=>by simp[G,stepG,stepG.exec,dJ]) (h4 _ _ _ q)
 |exit id=>
  have hh:exitTo id (.inScope c::k)=exitTo id k:=rfl;have:=h4 _ _ _ q;simp only[After,hh] at this ⊢;exact this
 |ret=>exact h4 _ _ _ q
 |panic ch=>exact h4 _ _ _ q
 |goto l=>exact(h4 _ _ _ q).elim
 |outgrown=>exact(h4 _ _ _ q).elim
def wp_label{Q:Post}{a:Act}{s:St}(hC:∀main T,C main T->Closed P main T){l:Nat}(h:Q .normal a s):Wp C fn bW (.label l) Q a s:=
 λmain T hT b k cs _ _ _ h4=>(hC main T hT).go rfl rfl (g':=G (dJ b a k) cs) (λw=>by simp[G,stepG,stepG.exec,dJ]) (h4 _ _ _ h)
end code
section code
variable {P:Program} {C:Class} {fn:FuncId} {bW:Option Nat} {n LF:Nat} {D:List Deferred} {F:Nat×Obj->Prop} {R:Nat->Option Obj} {call:fC}
def ni(hC:∀main T,C main T->Closed P main T)(hT:C main T){s:St}(hm:fr.mode= .returning\/∃ch,fr.mode= .panicking ch){f:FuncId}(ff:FF P f){a:Array Value} 
 (hd:fr.defers={target:= .fn (.func f) ca,args:=a}::ds)(h:T (G (Frame.enter P f (a++ca) .deferred) ({fr with defers:=ds}::cs)) s):T (G fr cs) s:=by
 have B4:eN P (invoke (.fn (.func f) ca) a) s (λnx s2=>nx= .enter f (a++ca)/\s2=s) (λ_ _=>False):=by
  simp only[invoke];exact oF ff ⟨rfl,rfl⟩
 refine(hC main T hT).step _ _ rfl λw yO=>?_;obtain⟨res,es,dz,hl⟩:=lK _ _ _ _ w #[] B4 yO;rw[dA] at dz;cases res with
 |halt _ _=>obtain⟨_,_,hu⟩:=hl;exact hu.elim
 |ok c w'=>
  obtain⟨s2,ht,rfl,rfl⟩:=hl;refine⟨_,w',seen P fr.fn es,_,?_,rfl,ht.sub (mJ _ _ _),h⟩;rcases fr with ⟨fn',tmps,todo,defers,mode,kind,ro⟩
  simp only at hm hd;subst hd;rcases hm with rfl| ⟨ch,rfl⟩
  .simp only[G,stepG,unwind,callDeferred,dz,GStep.after,bV];rfl
  simp only[G,stepG,unwind,callDeferred,dz,GStep.after,bV];rfl
end code
def oA:Code->List Code
 | .seq a b=>oA a++oA b
 |c=>[c]
end Go.L
