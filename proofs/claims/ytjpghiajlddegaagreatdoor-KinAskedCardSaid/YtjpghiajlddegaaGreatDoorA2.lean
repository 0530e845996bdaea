/- Part 2 of the proof: a program logic, contracts, a theorem on goroutines. -/
import Derived.Test.YtjpghiajlddegaaGreatDoorA1
import Derived.Laws.Sem
set_option maxRecDepth 100000
set_option linter.all false
namespace Go.L
open Go Go.Conc
variable {E:Halt→St→Prop} {α β:Type} {l z vs z':List Value} {Pl:List (Nat×Value)} {P:Program} {f:Operand→Value} {t T T':TypeId} {s s':St} {o i n b sz j ij uF dep:Nat} {e env rest:Env} {x y:Operand} {X:List Nat} {r we:Bool}
def CN:List Edge→List Nat
 | []=>[]
 |e::l=>bif Region.binds .any e then e.on::CN l else CN l
def bw(ops:Array Oper)(i:Nat):List Nat:=
 match ops[i]? with
 |some o=>CN o.after.toList
 |none=>[]
theorem Bx{e:Edge}:∀ {l:List Edge},e∈l→Region.binds .any e=true→e.on∈CN l
 |x::l,h,hb=>by
  rcases List.mem_cons.1 h with rfl|h
  ·simp[CN,hb]
  ·simp only[CN]
   cases Region.binds .any x
   ·exact Bx h hb
   ·exact List.mem_cons_of_mem _ (Bx h hb)
theorem tz:∀ {l:List Edge},j∈CN l→∃e∈l,Region.binds .any e=true∧e.on=j
 |x::l,h=>by
  simp only[CN] at h
  cases hb:Region.binds .any x
  ·rw[hb] at h
   obtain⟨e,he,h2⟩:=tz h
   exact⟨e,List.mem_cons_of_mem _ he,h2⟩
  ·rw[hb] at h
   rcases List.mem_cons.1 h with rfl|h
   ·exact⟨x,by simp,hb,rfl⟩
   ·obtain⟨e,he,h2⟩:=tz h
    exact⟨e,List.mem_cons_of_mem _ he,h2⟩
def Lin(ops:Array Oper):List Nat→List Nat→Prop
 |X,[]=>∀i,i <ops.size→i∈X
 |X,i::l=>i <ops.size∧i∉X∧(∀j∈bw ops i,j∈X)∧Lin ops (i::X) l
def yF(ops:Array Oper):Bool:=(List.range ops.size).all fun i=>(bw ops i).all fun j=>Nat.blt j i
theorem wD[BEq α][LawfulBEq α]:∀ {l₁ l₂:List α},l₁.Nodup→(∀x∈l₁,x∈l₂)→l₁.length≤l₂.length
 | [],_,_,_=>by simp
 |x::l,l₂,hn,hs=>by
  rw[List.nodup_cons] at hn
  have hx:=hs x (by simp)
  have h1:(l₂.erase x).length=l₂.length-1:=List.length_erase_of_mem hx
  have h2:=wD (l₁:=l) (l₂:=l₂.erase x) hn.2 (fun y hy=>by
   have eg:y≠x:=fun e=>hn.1 (e▸hy)
   exact(List.mem_erase_of_ne eg).2 (hs y (by simp[hy])))
  have h3:=List.length_pos_of_mem hx
  simp only[List.length_cons]
  omega
theorem aqY(ops:Array Oper)(hd:yF ops=true):∀(fuel t:Nat) (listed:Array Bool) (acc:List Nat),listed.size=ops.size→acc.Nodup→(∀i∈acc,i <ops.size)→
 (∀i,i <ops.size→(listed.getD i true=true↔i∈acc))→fuel+acc.length=ops.size→∃l,Region.linearise.go .any ops fuel t listed acc=acc.reverse++l∧Lin ops acc l:=by
 intro fuel
 induction fuel with
 |zero=>
  intro t listed acc hs hn cK hl hf
  refine⟨[],by simp[Region.linearise.go],fun i hi=>?_⟩
  apply Classical.byContradiction
  intro qo
  have h1:(i::acc).Nodup:=List.nodup_cons.2 ⟨qo,hn⟩
  have h2:∀x∈i::acc,x∈List.range ops.size:=by
   intro x hx
   rcases List.mem_cons.1 hx with rfl|hx
   ·exact List.mem_range.2 hi
   ·exact List.mem_range.2 (cK x hx)
  have h3:=wD h1 h2
  simp at h3
  omega
 |succ fuel ih=>
  intro t listed acc hs hn cK hl hf
  simp only[Region.linearise.go]
  generalize hrs:(List.range ops.size).filter (fun i=> !listed.getD i true&&((ops[i]?).map (·.after.all fun e=> !Region.binds .any e||listed.getD e.on false)).getD false)=rs
  have eg:∃i,i <ops.size∧i∉acc:=by
   apply Classical.byContradiction
   intro Hw
   have h2:∀x∈List.range ops.size,x∈acc:=by
    intro x hx
    apply Classical.byContradiction
    intro hx2
    exact Hw ⟨x,List.mem_range.1 hx,hx2⟩
   have h3:=wD List.nodup_range h2
   simp at h3
   omega
  have iS:∀i,i∈rs↔(i <ops.size∧i∉acc∧∀j∈bw ops i,j∈acc):=by
   intro i
   rw[←hrs,List.mem_filter,List.mem_range]
   constructor
   ·rintro⟨h1,h2⟩
    rw[Bool.and_eq_true] at h2
    refine⟨h1,fun hm=>?_,fun j hj=>?_⟩
    ·have:=(hl i h1).2 hm
     rw[this] at h2;simp at h2
    ·obtain⟨h3,h4⟩:=h2
     have ho:ops[i]?=some ops[i]:=by simp[h1]
     simp only[bw,ho] at hj
     obtain⟨e,he,hb,rfl⟩:=tz hj
     rw[ho] at h4
     simp only[Option.map_some,Option.getD_some,Array.all_eq_true'] at h4
     have h5:=h4 e (Array.mem_toList_iff.1 he)
     rw[hb] at h5
     simp only[Bool.not_true,Bool.false_or] at h5
     have BM:e.on <ops.size:=by
      apply Classical.byContradiction
      intro hc
      have:listed.getD e.on false=false:=by
       rw[Array.getD_eq_getD_getElem?,Array.getElem?_eq_none (by omega)];rfl
      rw[this] at h5;cases h5
     have:listed.getD e.on true=true:=by
      rw[Array.getD_eq_getD_getElem?] at h5 ⊢
      have:listed[e.on]?=some listed[e.on]:=by simp[hs,BM]
      rw[this] at h5 ⊢;exact h5
     exact(hl _ BM).1 this
   ·rintro⟨h1,h2,h3⟩
    refine⟨h1,?_⟩
    have hf':listed.getD i true=false:=by
     cases hh:listed.getD i true with
     |false=>rfl
     |true=>exact absurd ((hl i h1).1 hh) h2
    rw[hf']
    have ho:ops[i]?=some ops[i]:=by simp[h1]
    rw[ho]
    simp only[Bool.not_false,Bool.true_and,Option.map_some,Option.getD_some,Array.all_eq_true']
    intro e he
    cases hb:Region.binds .any e with
    |false=>rfl
    |true=>
     have hj:e.on∈acc:=h3 _ (by simp only[bw,ho];exact Bx (Array.mem_toList_iff.2 he) hb)
     have BM:=cK _ hj
     have h4:=(hl _ BM).2 hj
     rw[Array.getD_eq_getD_getElem?] at h4 ⊢
     have:listed[e.on]?=some listed[e.on]:=by simp[hs,BM]
     rw[this] at h4 ⊢
     simpa using h4
  have hrn:rs≠[]:=by
   obtain⟨i,hi,qo⟩:=eg
   have asJ:∃i,i <ops.size∧i∉acc∧∀j,j <i→j∈acc:=by
    have:∀m i,i≤m→i <ops.size→i∉acc→∃i,i <ops.size∧i∉acc∧∀j,j <i→j∈acc:=by
     intro m
     induction m with
     |zero=>intro i h1 h2 h3;exact⟨i,h2,h3,fun j hj=>by omega⟩
     |succ m ihm=>
      intro i h1 h2 h3
      by_cases hex:∃j,j <i∧j∉acc
      ·obtain⟨j,hj,hnj⟩:=hex
       exact ihm j (by omega) (by omega) hnj
      ·refine⟨i,h2,h3,fun j hj=>?_⟩
       apply Classical.byContradiction
       intro hc
       exact hex ⟨j,hj,hc⟩
    exact this i i (Nat.le_refl _) hi qo
   obtain⟨i,h1,h2,h3⟩:=asJ
   have:i∈rs:=(iS i).2 ⟨h1,h2,fun j hj=>by
    have:=(List.all_eq_true.1 hd) i (List.mem_range.2 h1)
    have:=(List.all_eq_true.1 this) j hj
    exact h3 j (by simpa [Nat.blt_eq] using this)⟩
   intro he;rw[he] at this;cases this
  have aAl:0 <rs.length:=List.length_pos_iff.2 hrn
  have aPx:=Nat.mod_lt t aAl
  have oe:rs[t % rs.length]?=some rs[t % rs.length]:=by simp[aPx]
  rw[oe]
  simp only
  generalize hi:rs[t % rs.length]=i
  have hir:i∈rs:=by rw[←hi];exact List.getElem_mem _
  obtain⟨h1,h2,h3⟩:=(iS i).1 hir
  obtain⟨l,BN,qp⟩:=ih (t / rs.length) (listed.setIfInBounds i true) (i::acc) (by simpa using hs) (List.nodup_cons.2 ⟨h2,hn⟩)
   (fun j hj=>by rcases List.mem_cons.1 hj with rfl|hj;exact h1;exact cK j hj)
   (fun j hj=>by
    rw[Array.getD_eq_getD_getElem?,Array.getElem?_setIfInBounds]
    by_cases e:i=j
    ·subst e;simp[hs,h1]
    ·have:=hl j hj
     rw[Array.getD_eq_getD_getElem?] at this
     simp only[e,if_false,this,List.mem_cons]
     constructor
     ·exact .inr
     ·rintro(h|h)
      ·exact absurd h.symm e
      ·exact h)
   (by simp;omega)
  exact⟨i::l,by rw[BN];simp,h1,h2,h3,qp⟩
theorem zv{ops:Array Oper}(hd:yF ops=true)(t:Nat):Lin ops [] (Region.schedule true ops t):=by
 have:Region.schedule true ops t=Region.linearise .any ops t:=by simp[Region.schedule]
 rw[this]
 obtain⟨l,h1,h2⟩:=aqY ops hd ops.size t (Array.replicate ops.size false) [] (by simp) (by simp) (by simp) (fun i hi=>by simp[Array.getD_eq_getD_getElem?,hi]) (by simp)
 unfold Region.linearise
 rw[h1];simpa using h2
def aS(ops:Array Oper)(i:Nat):Option Tmp:=(ops[i]?).bind (·.dst)
def iU(ops:Array Oper)(base:Env):List (Nat×Value)→Env
 | []=>base
 | (i,v)::r=>upd (aS ops i) v (iU ops base r)
def bk:Nat→List Nat→Bool
 |_,[]=>false
 |i,x::l=>Nat.beq i x||bk i l
theorem aL:∀ {l:List Nat},bk i l=true↔i∈l
 | []=>by simp[bk]
 |x::l=>by
  simp only[bk,Bool.or_eq_true,List.mem_cons,aL (l:=l),Nat.beq_eq]
def cq(ops:Array Oper)(base:Env)(j:Nat):List (Nat×Value)→Env
 | []=>base.filter fun x=> !((List.range ops.size).any fun i=>aS ops i==some x.1&& !bk j (bw ops i))
 | (i,v)::r=>bif bk i (bw ops j) then upd (aS ops i) v (cq ops base j r) else cq ops base j r
def ak:List (Nat×Value)→List Nat
 | []=>[]
 | (i,_)::r=>i::ak r
theorem aR:∀ {l:List (Nat×Value)},i∈ak l↔∃v,(i,v)∈l
 | []=>by simp[ak]
 | (j,w)::r=>by
  simp only[ak,List.mem_cons,aR (l:=r),Prod.mk.injEq]
  constructor
  ·rintro(rfl| ⟨v,hv⟩)
   ·exact⟨w,.inl ⟨rfl,rfl⟩⟩
   ·exact⟨v,.inr hv⟩
  ·rintro⟨v,⟨rfl,_⟩|hv⟩
   ·exact .inl rfl
   ·exact .inr ⟨v,hv⟩
def fG(ops:Array Oper):Bool:=
 (List.range ops.size).all fun i=>(List.range ops.size).all fun j=>Nat.beq i j||(match aS ops i,aS ops j with|some a,some b=> !Nat.beq a b|_,_=>true)
section any
variable {P:Program} {C:Class} {fn:FuncId} {aC:Option Nat} {Q:Post} {s:St} {n:Nat} {D:List Deferred} {ops:Array Oper} {base:Env}
def eS(C:Class)(fn:FuncId)(aC:Option Nat)(ops:Array Oper)(n:Nat)(D:List Deferred)(i:Nat)(v:Value)(e:Env)(s:St):Prop:=
 ∀s',Ext s s'→∀rest todo Q,ab C fn aC ops todo Q (A n (upd (aS ops i) v (e++rest)) D) s'→ab C fn aC ops (i::todo) Q (A n (e++rest) D) s'
structure Fits(ops:Array Oper)(base:Env)(Pl:List (Nat×Value))(X:List Nat)(env:Env):Prop where
 done:∀i v,(i,v)∈Pl→i∈X→∀d,aS ops i=some d→get env d=v
 old:∀t,(∀i∈X,aS ops i≠some t)→get env t=get base t
 cl:∀i∈X,i <ops.size∧∀j∈bw ops i,j∈X
def sS(C:Class)(fn:FuncId)(aC:Option Nat)(ops:Array Oper)(n:Nat)(D:List Deferred)(base:Env)(Pl:List (Nat×Value))(Sl:List (Nat×Value))(Q:Post)(s:St):Prop:=
 (∀i v,(i,v)∈Sl→eS C fn aC ops n D i v (cq ops base i Pl) s)→∀X l env,(∀i∈X,i∈ak Pl)→(∀i v,(i,v)∈Pl→i∉X→(i,v)∈Sl)→Lin ops X l→Fits ops base Pl X env→
  ab C fn aC ops l Q (A n env D) s
def fH(l k:List Nat):Bool:=l.all fun j=>bk j k
theorem bK{l k:List Nat}:fH l k=true↔∀j∈l,j∈k:=by
 simp only[fH,List.all_eq_true,aL]
theorem vY(h:fG ops=true)(hi:i <ops.size)(hj:j <ops.size)(eg:i≠j){a b:Tmp}(ha:aS ops i=some a)(hb:aS ops j=some b):a≠b:=by
 have h1:=(List.all_eq_true.1 h) i (List.mem_range.2 hi)
 have h2:=(List.all_eq_true.1 h1) j (List.mem_range.2 hj)
 rw[ha,hb] at h2
 have:Nat.beq i j=false:=by
  cases hb:Nat.beq i j with
  |false=>rfl
  |true=>exact absurd (Nat.eq_of_beq_eq_true hb) eg
 rw[this] at h2
 intro e;subst e
 simp at h2
theorem yE{d:Tmp}(h:aS ops i=some d):i <ops.size:=by
 apply Classical.byContradiction
 intro hc
 simp[aS,Array.getElem?_eq_none (show ops.size≤i by omega)] at h
theorem vz(hf:Fits ops base Pl X env)(j0:Nat)(hds:∀j∈bw ops j0,j∈X)(hj0:j0∉X):∃rest,A n env D=A n (cq ops base j0 Pl++rest) D:=by
 have key:∀Pl',(∀x∈Pl',x∈Pl)→∀t,((cq ops base j0 Pl').any fun x=>x.1==t)=true→get (cq ops base j0 Pl') t=get env t:=by
  intro Pl'
  induction Pl' with
  |nil=>
   intro _ t ht
   simp only[cq] at ht ⊢
   obtain⟨x,hx,hk⟩:=List.any_eq_true.1 ht
   have hk:x.1=t:=by simpa using hk
   rw[List.mem_filter] at hx
   have Hw:∀i,i <ops.size→aS ops i=some t→bk j0 (bw ops i)=true:=by
    intro i hi hd
    have h2:=hx.2
    rw[Bool.not_eq_true'] at h2
    have h3:=(List.any_eq_false.1 h2) i (List.mem_range.2 hi)
    rw[hd,hk] at h3
    simpa using h3
   rw[hf.old t fun i hi hd=>hj0 ((hf.cl i hi).2 j0 (aL.1 (Hw i (hf.cl i hi).1 hd)))]
   have vv:∀(b:Env) (p:Nat×Value→Bool),(∀v,p (t,v)=true)→get (b.filter p) t=get b t:=by
    intro b p hp
    induction b with
    |nil=>rfl
    |cons y b ih=>
     rcases y with ⟨k,v⟩
     by_cases e:k=t
     ·subst e;simp[List.filter_cons,hp,cF]
     ·simp only[List.filter_cons]
      split
      ·simp only[cF,e,if_false,ih]
      ·simp only[cF,e,if_false,ih]
   refine vv base _ fun v=>?_
   simp only[Bool.not_eq_true',List.any_eq_false,List.mem_range]
   intro i hi
   have:=Hw i hi
   simp only[Bool.and_eq_true,beq_iff_eq,Bool.not_eq_true',not_and,Bool.not_eq_false]
   exact this
  |cons x Pl' ih=>
   intro fD t ht
   rcases x with ⟨i,v⟩
   simp only[cq] at ht ⊢
   cases hm:bk i (bw ops j0) with
   |false=>rw[hm] at ht;simp only[cond_false] at ht ⊢;exact ih (fun x hx=>fD x (by simp[hx])) t ht
   |true=>
    rw[hm] at ht
    simp only[cond_true] at ht ⊢
    cases hd:aS ops i with
    |none=>rw[hd] at ht;simp only[upd] at ht ⊢;exact ih (fun x hx=>fD x (by simp[hx])) t ht
    |some d=>
     rw[hd] at ht
     simp only[upd] at ht ⊢
     rw[cF]
     by_cases e:d=t
     ·subst e
      rw[if_pos rfl]
      exact(hf.done i v (fD _ (by simp)) (hds i (aL.1 hm)) d hd).symm
     ·rw[if_neg e]
      refine ih (fun x hx=>fD x (by simp[hx])) t ?_
      simpa [e] using ht
 refine⟨env,?_⟩
 simp only[A,Act.mk.injEq,and_true]
 congr 1
 funext i
 rw[get_append]
 split
 ·rename_i ha
  exact(key Pl (fun _ h=>h) _ ha).symm
 ·rfl
theorem sJ(mD:fG ops=true)(hf:Fits ops base Pl X env){v:Value}(hi:i <ops.size)(hx:i∉X)(hdp:∀j∈bw ops i,j∈X)(hv:∀w,(i,w)∈Pl→w=v):
 Fits ops base Pl (i::X) (upd (aS ops i) v env):=by
 refine⟨fun j w hj hjx d hd=>?_,fun t ht=>?_,fun j hj=>?_⟩
 ·rcases List.mem_cons.1 hjx with rfl|hjx
  ·rw[hd];simp only[upd,cF,if_true];exact(hv w hj).symm
  ·cases hdi:aS ops i with
   |none=>simp only[upd];exact hf.done j w hj hjx d hd
   |some d'=>
    have eg:d'≠d:=vY mD hi (yE hd) (by intro e;subst e;exact hx hjx) hdi hd
    simp only[upd,cF,if_neg eg]
    exact hf.done j w hj hjx d hd
 ·cases hdi:aS ops i with
  |none=>simp only[upd];exact hf.old t fun j hj=>ht j (List.mem_cons_of_mem _ hj)
  |some d'=>
   have eg:d'≠t:=by intro e;subst e;exact ht i List.mem_cons_self hdi
   simp only[upd,cF,if_neg eg]
   exact hf.old t fun j hj=>ht j (List.mem_cons_of_mem _ hj)
 ·rcases List.mem_cons.1 hj with rfl|hj
  ·exact⟨hi,fun k hk=>List.mem_cons_of_mem _ (hdp k hk)⟩
  ·exact⟨(hf.cl j hj).1,fun k hk=>List.mem_cons_of_mem _ ((hf.cl j hj).2 k hk)⟩
theorem BU(hf:Fits ops base Pl X env){v:Value}(hx:i∉X):Fits ops base ((i,v)::Pl) X env:=
 ⟨fun j w hj hjx d hd=>by
  rcases List.mem_cons.1 hj with hj|hj
  ·cases hj;exact absurd hjx hx
  ·exact hf.done j w hj hjx d hd,hf.old,hf.cl⟩
theorem Cg{kP:Env}(h:A n env D=A n kP D)(d:Option Tmp)(v:Value):A n (upd d v env) D=A n (upd d v kP) D:=by
 rw[←a8,←a8,h]
theorem cR{v:Value}(h:i∉bw ops j):cq ops base j ((i,v)::Pl)=cq ops base j Pl:=by
 simp only[cq]
 cases hm:bk i (bw ops j) with
 |false=>rfl
 |true=>exact absurd (aL.1 hm) h
theorem eS.ext{v:Value}(h:eS C fn aC ops n D i v e s)(he:Ext s s'):eS C fn aC ops n D i v e s':=
 fun ZG h2=>h ZG (he.trans h2)
def oG(ops:Array Oper)(ks:List Nat):Bool:=ks.all fun i=>fH (bw ops i) ks
def nodupB:List Nat→Bool
 | []=>true
 |i::l=> !bk i l&&nodupB l
theorem He{Sl:List (Nat×Value)}(i:Nat){v:Value}(hn:bk i (ak Pl)=false)(hk:fH (bw ops i) (ak Pl)=true)(jD:oG ops (ak Pl)=true)(hs:fH (ak Sl) (ak Pl)=true)
 (bS:eS C fn aC ops n D i v (cq ops base i Pl) s)(h:sS C fn aC ops n D base ((i,v)::Pl) ((i,v)::Sl) Q s):sS C fn aC ops n D base Pl Sl Q s:=by
 have qo:i∉ak Pl:=fun hm=>by rw[aL.2 hm] at hn;cases hn
 intro hSl X l env hX hl oJ hf
 have Ds:i∉X:=fun hm=>qo (hX i hm)
 have LP:∀j,j∈ak Pl→i∉bw ops j:=by
  intro j hj hm
  have:=(List.all_eq_true.1 jD) j hj
  exact qo (bK.1 this i hm)
 refine h (fun j w hj=>?_) X l env (fun j hj=>List.mem_cons_of_mem _ (hX j hj)) (fun j w hj hjx=>?_) oJ (BU hf Ds)
 ·rcases List.mem_cons.1 hj with hj|hj
  ·cases hj
   rw[cR (fun hm=>qo (bK.1 hk i hm))];exact bS
  ·rw[cR (LP j (bK.1 hs j (aR.2 ⟨w,hj⟩)))];exact hSl j w hj
 ·rcases List.mem_cons.1 hj with hj|hj
  ·cases hj;simp
  ·exact List.mem_cons_of_mem _ (hl j w hj hjx)
def pending(ops:Array Oper)(i:Nat)(Sl:List (Nat×Value)):List (Nat×Value):=Sl.filter fun x=> !bk x.1 (bw ops i)
theorem ahj(hC:∀main T,C main T→Closed P main T){Sl:List (Nat×Value)}(mD:fG ops=true)(lX:nodupB (ak Pl)=true)(dr:fH (List.range ops.size) (ak Pl)=true)(cK:fH (ak Pl) (List.range ops.size)=true)(h:Q .normal (A n (iU ops base Pl) D) s):sS C fn aC ops n D base Pl Sl Q s:=by
 intro hSl X l
 have FR:∀(l:List (Nat×Value)),nodupB (ak l)=true→∀j v w,(j,v)∈l→(j,w)∈l→w=v:=by
  intro l
  induction l with
  |nil=>intro _ j v w h;cases h
  |cons x l ih=>
   rcases x with ⟨k,u⟩
   intro hb j v w h1 h2
   simp only[ak,nodupB,Bool.and_eq_true,Bool.not_eq_true'] at hb
   have hk:k∉ak l:=fun hm=>by rw[aL.2 hm] at hb;cases hb.1
   rcases List.mem_cons.1 h1 with h1|h1<;>rcases List.mem_cons.1 h2 with h2|h2
   ·cases h1;cases h2;rfl
   ·cases h1;exact absurd (aR.2 ⟨_,h2⟩) hk
   ·cases h2;exact absurd (aR.2 ⟨_,h1⟩) hk
   ·exact ih hb.2 j v w h1 h2
 have Jy:∀(l:List (Nat×Value)),(∀j∈ak l,j <ops.size)→nodupB (ak l)=true→(∀i v,(i,v)∈l→∀d,aS ops i=some d→get (iU ops base l) d=v)∧(∀t,(∀i∈ak l,aS ops i≠some t)→get (iU ops base l) t=get base t):=by
  intro l
  induction l with
  |nil=>intro _ _;exact⟨fun _ _ h=>((by cases h)),fun _ _=>rfl⟩
  |cons x l ih=>
   rcases x with ⟨k,u⟩
   intro cK hb
   simp only[ak,nodupB,Bool.and_eq_true,Bool.not_eq_true'] at hb
   have hk:k∉ak l:=fun hm=>by rw[aL.2 hm] at hb;cases hb.1
   obtain⟨i1,i2⟩:=ih (fun j hj=>cK j (by simp[ak,hj])) hb.2
   have hk1:k <ops.size:=cK k (by simp[ak])
   refine⟨fun i v hi d hd=>?_,fun t ht=>?_⟩
   ·simp only[iU]
    rcases List.mem_cons.1 hi with hi|hi
    ·cases hi;rw[hd];simp only[upd,cF,if_true]
    ·have eg:k≠i:=fun e=>hk (e▸aR.2 ⟨_,hi⟩)
     cases hdk:aS ops k with
     |none=>simp only[upd];exact i1 i v hi d hd
     |some d'=>simp only[upd,cF,if_neg (vY mD hk1 (yE hd) eg hdk hd)];exact i1 i v hi d hd
   ·simp only[iU]
    cases hdk:aS ops k with
    |none=>simp only[upd];exact i2 t fun i hi=>ht i (by simp[ak,hi])
    |some d'=>
     have eg:d'≠t:=fun e=>ht k (by simp[ak]) (by rw[hdk,e])
     simp only[upd,cF,if_neg eg];exact i2 t fun i hi=>ht i (by simp[ak,hi])
 obtain⟨a1,a2⟩:=Jy Pl (fun j hj=>List.mem_range.1 (bK.1 cK j hj)) lX
 induction l generalizing X with
 |nil=>
  intro env hX hl oJ hf
  refine tw hC ?_
  have:A n env D=A n (iU ops base Pl) D:=by
   simp only[A,Act.mk.injEq,and_true]
   congr 1
   funext i
   by_cases he:∃j,j <ops.size∧aS ops j=some i.val
   ·obtain⟨j,hj,hd⟩:=he
    obtain⟨v,hv⟩:=aR.1 (bK.1 dr j (List.mem_range.2 hj))
    rw[hf.done j v hv (oJ j hj) _ hd,a1 j v hv _ hd]
   ·rw[hf.old _ (fun j hj hd=>he ⟨j,(hf.cl j hj).1,hd⟩),a2 _ (fun j hj hd=>he ⟨j,List.mem_range.1 (bK.1 cK j hj),hd⟩)]
  rw[this];exact h
 |cons j l ih=>
  intro env hX hl oJ hf
  obtain⟨h1,h2,h3,h4⟩:=oJ
  obtain⟨w,hw⟩:=aR.1 (bK.1 dr j (List.mem_range.2 h1))
  obtain⟨rest,hr⟩:=vz (n:=n) (D:=D) hf j h3 h2
  rw[hr]
  refine hSl j w (hl j w hw h2) s (Ext.refl s) rest l Q ?_
  rw[←Cg hr]
  refine ih (j::X) _ (fun k hk=>?_) (fun k u hk AS=>hl k u hk (fun h=>AS (List.mem_cons_of_mem _ h))) h4 (sJ mD hf h1 h2 h3 (fun u hu=>FR Pl lX j w u hw hu))
  rcases List.mem_cons.1 hk with rfl|hk
  ·exact aR.2 ⟨w,hw⟩
  ·exact hX k hk
def Og:List (Nat×Value)→Nat→Option Value
 | [],_=>none
 | (i,v)::r,j=>bif Nat.beq i j then some v else Og r j
theorem Zp(hC:∀main T,C main T→Closed P main T){id:Nat}(hm:P.follows .mixedOrders=true)(hd:yF ops=true)(h:sS C fn aC ops n D env [] [] Q s):Wp C fn aC (.region id ops true) Q (A n env D) s:=by
 refine wp_region_draw (P:=P) hC fun t=>?_
 rw[hm]
 exact h (fun _ _ h=>((by cases h))) [] _ env (fun _ h=>((by cases h))) (fun _ _ h=>((by cases h))) (zv hd t) ⟨fun _ _ h=>((by cases h)),fun _ _=>rfl,fun _ h=>((by cases h))⟩
end any
def ov(place:Nat→Option (Nat×Nat)):List Value→List (Nat×List Value)→Option (List Value)
 |cs,[]=>some cs
 |cs,(i,vs)::r=>match place i with
  |some (off,size)=>bif Nat.beq vs.length size&&Nat.ble (off+vs.length) cs.length then ov place (dB cs off vs) r else none
  |none=>none
theorem JD(off:Nat):∀(vs:List Value) (k:Nat) (cs:Array Value),off+k+vs.length≤cs.size→
 (vs.zipIdx k).foldl (fun(cs:Array Value) (x:Value×Nat)=>cs.setIfInBounds (off+x.2) x.1) cs=⟨dB cs.toList (off+k) vs⟩
 | [],k,cs,_=>by simp[kX]
 |v::vs,k,cs,h=>by
  simp only[List.length_cons] at h
  simp only[List.zipIdx_cons,List.foldl_cons]
  rw[JD off vs (k+1) _ (by simp;omega),Bo _ _ _ _ (by simp;omega)]
  simp[Nat.add_assoc]
theorem fill_eq(place:Nat→Option (Nat×Nat)):∀(parts:List (Nat×Value)) (cs l:List Value),ov place cs (parts.map fun x=>(x.1,x.2.cells.toList))=some l→Instr.fill place ⟨cs⟩ parts=some ⟨l⟩
 | [],cs,l,h=>by simp[ov] at h;subst h;rfl
 | (i,v)::r,cs,l,h=>by
  simp only[List.map_cons,ov] at h
  simp only[Instr.fill]
  cases hp:place i with
  |none=>rw[hp] at h;cases h
  |some x=>
   rcases x with ⟨off,size⟩
   rw[hp] at h
   simp only at h ⊢
   cases hb:(Nat.beq v.cells.toList.length size&&Nat.ble (off+v.cells.toList.length) cs.length) with
   |false=>rw[hb] at h;cases h
   |true=>
    rw[hb] at h
    simp only[cond_true] at h
    rw[Bool.and_eq_true] at hb
    have h1:v.cells.size=size:=by simpa using Nat.eq_of_beq_eq_true hb.1
    have h2:off+v.cells.size≤cs.length:=by simpa using Nat.le_of_ble_eq_true hb.2
    rw[if_neg (by simp[h1];omega)]
    rw[show v.cells.zipIdx.foldl (fun(cs:Array Value) (x:Value×Nat)=>cs.setIfInBounds (off+x.2) x.1) (⟨cs⟩:Array Value)=⟨dB cs off v.cells.toList⟩ from by
     rw[←Array.foldl_toList,Array.toList_zipIdx]
     have:=JD off v.cells.toList 0 ⟨cs⟩ (by simpa using h2)
     simpa using this]
    exact fill_eq place r _ l h
def Nh(n:Nat)(env:Env):List (Nat×Operand)→Option (List (Nat×Value))
 | []=>some []
 | (i,x)::l=>match bu n env x with
  |some v=>match Nh n env l with
   |some r=>some ((i,v)::r)
   |none=>none
  |none=>none
theorem agq:∀ {xs:List (Nat×Operand)} {l:List (Nat×Value)},Nh n env xs=some l→xs.map (fun x=>(x.1,ev n env x.2))=l
 | [],l,h=>by simpa [Nh] using h
 | (i,x)::xs,l,h=>by
  simp only[Nh] at h
  cases hx:bu n env x with
  |none=>rw[hx] at h;cases h
  |some v=>
   rw[hx] at h
   cases hr:Nh n env xs with
   |none=>rw[hr] at h;cases h
   |some r=>rw[hr] at h;simp only[Option.some.injEq] at h;subst h;simp[aG hx,agq hr]
def dZ:Value→List Value
 | .agg ⟨l⟩=>l
 |v=>[v]
theorem ma(v:Value):dZ v=v.cells.toList:=by cases v<;>rfl
def tt:List (Nat×Value)→List (Nat×List Value)
 | []=>[]
 | (i,v)::r=>(i,dZ v)::tt r
theorem ki:∀(l:List (Nat×Value)),tt l=l.map fun x=>(x.1,x.2.cells.toList)
 | []=>rfl
 | (i,v)::r=>by simp[tt,ma,ki r]
def cT(z:List Value):Nat→List Value
 |0=>[]
 |n+1=>z++cT z n
theorem iM(z:List Value):∀n,(cT z n).length=n*z.length
 |0=>by simp[cT]
 |n+1=>by simp[cT,iM z n,Nat.add_mul,Nat.add_comm]
theorem Em(z:List Value)(hz:0 <z.length):∀n i,i <n*z.length→(cT z n)[i]?=z[i % z.length]?
 |0,i,h=>by simp at h
 |n+1,i,h=>by
  simp only[cT,List.getElem?_append]
  split
  ·rename_i hl;rw[Nat.mod_eq_of_lt hl]
  ·rename_i hl
   rw[Em z hz n (i-z.length) (by rw[Nat.add_mul,Nat.one_mul] at h;omega)]
   rw[show i % z.length=(i-z.length) % z.length from by rw[Nat.mod_eq_sub_mod (by omega)]]
theorem rM(z:List Value)(n:Nat):((Array.range (n*z.length)).map fun i=>(⟨z⟩:Array Value)[i % (⟨z⟩:Array Value).size]!)=⟨cT z n⟩:=by
 apply Array.ext_getElem?
 intro i
 simp only[Array.getElem?_map,Array.getElem?_range]
 by_cases h:i <n*z.length
 ·have hz:0 <z.length:=by
   rcases Nat.eq_zero_or_pos z.length with h0|h0
   ·rw[h0] at h;simp at h
   ·exact h0
  have hm:i % z.length <z.length:=Nat.mod_lt _ hz
  simp only[h,if_true,Option.map_some]
  have:=Em z hz n i h
  simp only[List.size_toArray,List.getElem?_toArray]
  rw[this]
  simp[hm,getElem!_pos]
 ·simp only[h,if_false,Option.map_none]
  simp[iM,List.getElem?_eq_none (show (cT z n).length≤i by rw[iM];omega)]
inductive Cc(P:Program):List Field→List (Nat×Nat)→Prop
 |nil:Cc P [] []
 |cons {f:Field} {d:TypeDesc} {sz bE:Nat} {z:List Value} {ag:Bool} {fs:List Field} {ps:List (Nat×Nat)} (h:TF P f.type d sz bE z ag) (t:Cc P fs ps):Cc P (f::fs) ((f.offset,sz)::ps)
theorem nN{Q:α→St→Prop}:∀ {fs:List Field} {ps:List (Nat×Nat)} (_:Cc P fs ps) {k:List (Nat×Nat)→Sem α},
 bN P (fs.mapM (fun f=>do pure (f.offset,←sizeOf f.type)) >>= k) s Q E=bN P (k ps) s Q E
 |_,_,.nil,k=>by simp only[List.mapM_nil,af]
 |_,_,.cons h t,k=>by
  simp only[List.mapM_cons,aa,cm h,af]
  exact nN t
section rules
variable {P:Program} {C:Class} {fn:FuncId} {aC:Option Nat} {Q:Post} {s:St} {n:Nat} {env:Env} {D:List Deferred}
variable {ops:Array Oper} {i:Nat} {rest:List Nat} {dst:Option Tmp} {ty:TypeId} {pos:String} {dc:Array Edge} {g:Option (Nat×Bool)}
variable {T:TypeId} {d:TypeDesc} {sz bE:Nat} {z:List Value} {ag:Bool}
theorem I6(ps:Array (Nat×Operand)){l:List (Nat×Value)}(h:Nh n env ps.toList=some l):(ps.map fun x=>(x.1,ev n env x.2)).toList=l:=by
 rw[Array.toList_map];exact agq h
theorem KV(hC:∀main T,C main T→Closed P main T){E:TypeId}{m:Nat}{ps:Array (Nat×Operand)}{pv:List (Nat×Value)}{d':TypeDesc}(ho:ops[i]?=some ⟨dst,.buildSlice T m ps,ty,pos,dc,g⟩) (hw:az ops n env g=true)
 (tf:TF P T (.slice E) sz bE z ag) (jL:TF P E d' ij uF z' we) (hz:Nat.beq z'.length ij=true) (hp:Nh n env ps.toList=some pv) (hm:Nat.ble (m*ij) 16777216=true) (hf:ov (fun i=>some (i*ij,ij)) (cT z' m) (tt pv)=some l)
 (h:∀b,¬s.knows b→ab C fn aC ops rest Q (A n (upd dst (.slice (some ⟨b,0,none⟩) m m) env) D) ⟨s.ro,(b,.cells ⟨l⟩ E)::s.rw⟩):ab C fn aC ops (i::rest) Q (A n env D) s:=by
 refine bR hC ho hw (by simp) ?_
 have hle:¬m*ij>2^24:=by have:=Nat.le_of_ble_eq_true hm;omega
 have Dg:z'.length=ij:=Nat.eq_of_beq_eq_true hz
 rw[ki] at hf
 have h1:=fill_eq _ _ _ _ hf
 have h2:=I6 ps hp
 simp only[execOp,Instr.buildSlice,aa,bh tf,cm jL,hle,if_false]
 by_cases h0:m*ij=0
 ·rw[if_pos h0]
  have H3:((Array.range (m*ij)).map fun i=>(#[]:Array Value)[i % (#[]:Array Value).size]!)=⟨cT z' m⟩:=by
   rw[h0]
   have:cT z' m=[]:=List.eq_nil_of_length_eq_zero (by rw[iM,Dg,h0])
   rw[this];simp
  simp only[aa,af]
  rw[H3,h2,h1]
  simp only[aa,jb,af]
  intro b hb
  have:=h b hb
  rw[←a8] at this
  exact this
 ·rw[if_neg h0]
  have H3:((Array.range (m*ij)).map fun i=>(⟨z'⟩:Array Value)[i % (⟨z'⟩:Array Value).size]!)=⟨cT z' m⟩:=by rw[←Dg];exact rM z' m
  simp only[aa,jT jL,af,eo jL,H3,h2,h1,jb]
  intro b hb
  have:=h b hb
  rw[←a8] at this
  exact this
end rules
def Sl(s:St)(v:Value)(sz:Nat)(enc:α→List Value)(ps:List α):Prop:=
 ∃a b o cap,v= .slice a ps.length cap∧(∀k,k <ps.length→a=some ⟨b,o,none⟩)∧∀i p,ps[i]?=some p→cA s b (o+i*sz) sz (enc p)
theorem Sl.nil(s:St)(sz:Nat)(enc:α→List Value)(a:Option Addr)(cap:Nat):Sl s (.slice a 0 cap) sz enc []:=
 ⟨a,0,0,cap,rfl,fun k h=>absurd h (Nat.not_lt_zero k),fun i p hp=>by simp at hp⟩
theorem cA.cell{m:Nat}(h:cA s b o m vs)(j:Nat)(v:Value)(hj:vs[j]?=some v):Reads s b (o+j) v:=by
 obtain⟨l,t,fz,h1,h2⟩:=h
 exact⟨l,t,fz,h1,by rw[rk];exact(sub_eq _ _ _ _ h2).2 j v hj⟩
theorem cA.len{m:Nat}(h:cA s b o m vs):vs.length=m:=by
 obtain⟨l,t,fz,h1,h2⟩:=h
 exact(sub_eq _ _ _ _ h2).1
section sem
variable {P:Program} {α:Type} {s:St} {Q:α→St→Prop} {E:Halt→St→Prop}
theorem Ri(l:List Value):∀(i:Nat) (acc:Array Value) {k:Array Value→Sem α},(∀(j:Nat) (v:Value),l[j]?=some v→Reads s b (o+i+j) v)→bN P (k (acc++l.toArray)) s Q E→
 bN P (loadCellsFrom ⟨b,o,none⟩ i l.length acc >>= k) s Q E:=by
 induction l with
 |nil=>intro i acc k _ hk;simpa [loadCellsFrom,af] using hk
 |cons v l ih=>
  intro i acc k h2 hk
  simp only[List.length_cons,loadCellsFrom,aa,dP]
  refine uR (h2 0 v rfl) ?_
  refine ih (i+1) (acc.push v) (fun j x hx=>?_) (by simpa using hk)
  have:=h2 (j+1) x (by simpa using hx)
  rw[show o+(i+1)+j=o+i+(j+1) from by omega];exact this
theorem Rh{m:Nat}(hm:l.length=m)(h:∀(j:Nat) (v:Value),l[j]?=some v→Reads s b (o+j) v) {k:Array Value→Sem α} (hk:bN P (k ⟨l⟩) s Q E):bN P (loadCells ⟨b,o,none⟩ m >>= k) s Q E:=by
 subst hm
 exact Ri l 0 #[] (by simpa using h) (by simpa using hk)
end sem
theorem PX{enc:α→List Value}:∀(ps:List α),(∀p∈ps,(enc p).length=sz)→∀(j:Nat) (v:Value),((ps.map enc).flatten)[j]?=some v→∃i p r,ps[i]?=some p∧j=i*sz+r∧(enc p)[r]?=some v
 | [],_,j,v,h=>by simp at h
 |p::ps,hl,j,v,h=>by
  simp only[List.map_cons,List.flatten_cons,List.getElem?_append] at h
  have hp:=hl p (by simp)
  split at h
  ·exact⟨0,p,j,rfl,by simp,h⟩
  ·rename_i hj
   obtain⟨i,q,r,h1,h2,h3⟩:=PX ps (fun x hx=>hl x (by simp[hx])) _ v h
   refine⟨i+1,q,r,by simpa using h1,?_,h3⟩
   rw[Nat.add_mul,Nat.one_mul];omega
theorem j5{enc:α→List Value}:∀(ps:List α),(∀p∈ps,(enc p).length=sz)→((ps.map enc).flatten).length=ps.length*sz
 | [],_=>by simp
 |p::ps,hl=>by
  have:=j5 ps (fun x hx=>hl x (by simp[hx]))
  simp only[List.map_cons,List.flatten_cons,List.length_append,this,hl p (by simp),List.length_cons,Nat.add_mul,Nat.one_mul];omega
theorem Sl.flat{enc:α→List Value}{ps:List α}(h:∀(i:Nat) (p:α),ps[i]?=some p→cA s b (o+i*sz) sz (enc p)):
 (∀p∈ps,(enc p).length=sz)∧∀(j:Nat) (v:Value),((ps.map enc).flatten)[j]?=some v→Reads s b (o+j) v:=by
 have hl:∀p∈ps,(enc p).length=sz:=by
  intro p hp
  obtain⟨i,hi⟩:=List.mem_iff_getElem?.1 hp
  exact(h i p hi).len
 refine⟨hl,fun j v hv=>?_⟩
 obtain⟨i,p,r,h1,rfl,h3⟩:=PX ps hl j v hv
 have:=(h i p h1).cell r v h3
 rw[show o+(i*sz+r)=o+i*sz+r from by omega];exact this
def aD(v:Value)(sz:Nat)(T:TypeId)(enc:α→List Value)(ps:List α)(L:List (Nat×Obj)):Prop:=
 (v= .slice none 0 0∧ps=[]∧L=[])∨
 ∃b l cap,v= .slice (some ⟨b,0,none⟩) ps.length cap∧L=[(b,.cells ⟨l⟩ T (0,0))]∧l.length=cap*sz∧ps.length≤cap∧(∀p∈ps,(enc p).length=sz)∧l.take (ps.length*sz)=(ps.map enc).flatten
theorem aD.nil(sz:Nat)(T:TypeId)(enc:α→List Value):aD (.slice none 0 0) sz T enc [] []:= .inl ⟨rfl,rfl,rfl⟩
theorem iK{m:Nat}(h:o+m≤l.length):sub l o m=some ((l.drop o).take m):=by
 have ht:∀(m:Nat) (l:List Value),m≤l.length→jR l m=some (l.take m):=by
  intro m
  induction m with
  |zero=>intro l _;cases l<;>simp[jR]
  |succ m ih=>
   intro l hl
   cases l with
   |nil=>simp at hl
   |cons x l=>simp only[jR,ih l (by simpa using hl),List.take_succ_cons]
 induction o generalizing l with
 |zero=>have:=ht m l (by omega);cases l<;>simpa [sub] using this
 |succ o ih=>
  cases l with
  |nil=>simp at h
  |cons x l=>simp only[sub,List.drop_succ_cons];exact ih (by simp at h;omega)
theorem BT{enc:α→List Value}:∀(ps:List α),(∀p∈ps,(enc p).length=sz)→∀(i:Nat) (p:α),ps[i]?=some p→(((ps.map enc).flatten).drop (i*sz)).take sz=enc p
 | [],_,i,p,h=>by simp at h
 |q::ps,hl,0,p,h=>by
  simp at h;subst h
  have:=hl q (by simp)
  simp[←this]
 |q::ps,hl,i+1,p,h=>by
  have hq:=hl q (by simp)
  simp only[List.map_cons,List.flatten_cons]
  rw[show (i+1)*sz=(enc q).length+i*sz from by rw[hq,Nat.add_mul,Nat.one_mul];omega,←List.drop_drop,List.drop_left]
  exact BT ps (fun x hx=>hl x (by simp[hx])) i p (by simpa using h)
theorem aD.sl{v:Value}{enc:α→List Value}{ps:List α}{L:List (Nat×Obj)}(h:aD v sz T enc ps L)(hs:∀x∈L,s.has x.1 x.2):Sl s v sz enc ps:=by
 rcases h with ⟨rfl,rfl,rfl⟩| ⟨b,l,cap,rfl,rfl,h1,h2,h3,h4⟩
 ·exact Sl.nil s sz enc none 0
 ·refine⟨_,b,0,cap,rfl,fun _ _=>rfl,fun i p hp=>⟨l,T,(0,0),hs (b,.cells ⟨l⟩ T (0,0)) (by simp),?_⟩⟩
  have hi:i <ps.length:=by
   rcases Nat.lt_or_ge i ps.length with h|h
   ·exact h
   ·rw[List.getElem?_eq_none h] at hp;cases hp
  have hb:i*sz+sz≤ps.length*sz:=by
   have:=Nat.mul_le_mul_right sz hi
   rw[Nat.succ_mul] at this;exact this
  have gp:ps.length*sz≤cap*sz:=Nat.mul_le_mul_right _ h2
  rw[Nat.zero_add,iK (by omega)]
  have h5:=BT ps h3 i p hp
  rw[←h4,List.drop_take,List.take_take] at h5
  rw[←h5,Nat.min_eq_left (by omega)]
def u5(eX bE:Nat):Prop:=eX≤1048576∧bE≤65536
theorem JB(eX:Nat):∀(r c:Nat),c≤2*eX+768→Builtin.growBy eX r c≤2*eX+768
 |0,c,h=>h
 |r+1,c,h=>by
  simp only[Builtin.growBy]
  split
  ·exact h
  ·exact JB eX r _ (by omega)
theorem Fq{eX cap:Nat}(h:cap <eX):Builtin.nextslicecap eX cap≤2*eX+768:=by
 simp only[Builtin.nextslicecap]
 split
 ·omega
 ·split
  ·omega
  ·exact JB eX 4 cap (by omega)
theorem qD:∀(l:List Value) (o:Nat) (vs:List Value),o+vs.length≤l.length→dB l o vs=l.take o++vs++l.drop (o+vs.length)
 | [],o,vs,h=>by
  simp only[List.length_nil] at h
  have h0:o=0:=by omega
  have h1:vs=[]:=List.eq_nil_of_length_eq_zero (by omega)
  subst h0;subst h1;rfl
 |x::l,0,[],_=>by simp[dB]
 |x::l,o+1,[],_=>by simp[dB]
 |x::l,0,v::vs,h=>by
  have:=qD l 0 vs (by simp only[List.length_cons] at h;omega)
  simp[dB,this]
 |x::l,o+1,v::vs,h=>by
  have:=qD l o (v::vs) (by simp only[List.length_cons] at h ⊢;omega)
  simp only[dB,this,List.take_succ_cons,List.cons_append]
  rw[show o+1+(v::vs).length=(o+(v::vs).length)+1 from by omega,List.drop_succ_cons]
theorem ni{Q:β→St→Prop}{ti:TypeInfo}(h:P.info? t=some ti){k:TypeInfo→Sem β}:bN P (typeInfo t >>= k) s Q E=bN P (k ti) s Q E:=by
 simp only[typeInfo,aa,eT,h,af]
theorem aa2{Q:β→St→Prop}{q:Question}{k:Nat→Sem β}(hq:q.forced=false)(h:∀n,bN P (k (q.cut n)) s Q E):bN P (choose q >>= k) s Q E:=by
 show (if q.forced=true then _ else _)
 rw[if_neg (by rw[hq];simp)]
 exact h
theorem IF{Q:β→St→Prop}{q:Question}{k:Nat→Sem β}(hq:q.forced=false):bN P (choose q >>= k) s Q E=∀n,bN P (k (q.cut n)) s Q E:=by
 show (if q.forced=true then _ else _)=_
 rw[if_neg (by rw[hq];simp)]
 rfl
theorem rV{Q:β→St→Prop}{m:Nat}{k:Unit→Sem β}(h:bN P (k ()) s Q E):bN P (askRoom m >>= k) s Q E:=by
 unfold askRoom
 split
 ·exact⟨rfl,h⟩
 ·exact h
section rules
variable {P:Program} {C:Class} {fn:FuncId} {aC:Option Nat} {Q:Post} {s:St} {n:Nat} {env:Env} {D:List Deferred}
variable {ops:Array Oper} {i:Nat} {rest:List Nat} {dst:Option Tmp} {ty:TypeId} {pos:String} {dc:Array Edge} {g:Option (Nat×Bool)}
variable {T:TypeId} {d:TypeDesc} {sz bE:Nat} {z:List Value} {ag:Bool}
theorem s8{Q:β→St→Prop}{v:Value}{enc:α→List Value}{ps:List α}(h:Sl s v sz enc ps){k:Array Value→Sem β}(hk:bN P (k ⟨(ps.map enc).flatten⟩) s Q E):bN P (Builtin.firstCells sz ps.length v >>= k) s Q E:=by
 obtain⟨a,b,o,cap,rfl,ha,hr⟩:=h
 obtain⟨hl,hf⟩:=Sl.flat hr
 cases ps with
 |nil=>
  cases a with
  |none=>simpa [Builtin.firstCells,af] using hk
  |some a=>
   simp only[Builtin.firstCells,List.length_nil,Nat.zero_mul,loadCells,loadCellsFrom,af]
   simpa using hk
 |cons p ps=>
  have:=ha 0 (by simp)
  subst this
  simp only[Builtin.firstCells]
  exact Rh (by rw[j5 _ hl]) hf hk
theorem OE(hC:∀main T,C main T→Closed P main T){E:TypeId}{v w:Value}{enc:α→List Value}{ps qs:List α}{L pre R:List (Nat×Obj)}{d':TypeDesc}{E2:TypeId}{sz2 AE:Nat}{z2:List Value}{ag2:Bool}{U:TypeId}
 (ho:ops[i]?=some ⟨dst,.call ⟨.builtin .append,#[x,y],#[T,U]⟩,ty,pos,dc,g⟩) (hw:az ops n env g=true) (tf:TF P T (.slice E) sz bE z ag) (Qy:TF P U (.slice E2) sz2 AE z2 ag2) (jL:TF P E d' ij uF z' we) (hz:z'.length=ij)
 (hx:bu n env x=some v) (hy:bu n env y=some w) (ky:aD v ij E enc ps L) (Jr:Sl s w ij enc qs) (hs:s.rw=pre++(L++R)) (hq:∀p∈qs,∀c∈enc p,single c=true) (hb:u5 (ps.length+qs.length) uF)
 (h:∀v' L',aD v' ij E enc (ps++qs) L'→ab C fn aC ops rest Q (A n (upd dst v' env) D) ⟨s.ro,pre++(L'++R)⟩):ab C fn aC ops (i::rest) Q (A n env D) s:=by
 refine bR hC ho hw (by simp) ?_
 have S8:∀s s':St,s.le s'→∀a,ab C fn aC ops rest Q a s→ab C fn aC ops rest Q a s':=
  fun s s' hl a ho main T hT b k cs h1 h2 h3 h4=>(hC main T hT).mono _ _ _ hl (ho main T hT b k cs h1 h2 h3 h4)
 obtain⟨hql,_⟩:=(show (∀p∈qs,(enc p).length=ij)∧True from by
  obtain⟨a,b,o,cap,rfl,ha,hr⟩:=Jr
  exact⟨(Sl.flat hr).1,trivial⟩)
 have sB:((qs.map enc).flatten).length=qs.length*ij:=j5 qs hql
 have Jv:∀ai4,ai4 <ps.length+qs.length→¬(Builtin.nextslicecap (ps.length+qs.length) ai4*uF>2^48):=by
  intro ai4 cK
  have h1:=Fq cK
  obtain⟨h2,h3⟩:=hb
  have h4:Builtin.nextslicecap (ps.length+qs.length) ai4≤2097920:=by omega
  have h5:=Nat.mul_le_mul h4 h3
  have:(2097920*65536:Nat)≤2^48:=by decide
  omega
 have hlen:∀w',Sl s w' ij enc qs→∃a cap,w'= .slice a qs.length cap:=by
  rintro w' ⟨a,b,o,cap,rfl,_,_⟩;exact⟨a,cap,rfl⟩
 obtain⟨wa,aZb,hwe⟩:=hlen w Jr
 simp only[execOp,resolve,invoke,builtin,Builtin.append_,List.map_toArray,List.map_cons,List.map_nil,aG hx,aG hy,af,aa,List.getElem?_toArray,List.getElem?_cons_zero,List.getElem?_cons_succ,bh tf]
 have hv:∃a cap,v= .slice a ps.length cap:=by
  rcases ky with ⟨rfl,rfl,_⟩| ⟨b,l,cap,rfl,_⟩
  ·exact⟨_,_,rfl⟩
  ·exact⟨_,_,rfl⟩
 obtain⟨va,uO,hve⟩:=hv
 have Ab:∀ {β:Type} (k:Nat→Sem β) (Q:β→St→Prop) (E:Halt→St→Prop),bN P (Builtin.lenOf w >>= k) s Q E=bN P (k qs.length) s Q E:=by
  intro β k Q E;rw[hwe];rfl
 simp only[hve,aa,cm jL,bh Qy,af,Bool.false_eq_true,if_false,Bool.not_false,if_true,Ab]
 obtain⟨ti,dR,aOv,Lx,_⟩:=jL.info
 by_cases fM:ps.length+qs.length≤uO
 ·rw[if_pos fM]
  simp only[aa]
  refine s8 Jr ?_
  rcases ky with ⟨hv0,rfl,rfl⟩| ⟨b,l,cap,hv1,rfl,h1,h2,h3,h4⟩
  ·rw[hv0] at hve
   cases hve
   have VQ:qs=[]:=List.eq_nil_of_length_eq_zero (by simp only[List.length_nil] at fM;omega)
   subst VQ
   simp only[af]
   have:=h (.slice none 0 0) [] (aD.nil ij E enc)
   rw[←a8] at this
   rcases s with ⟨ro,HR⟩
   simp only at hs
   subst hs
   exact this
  ·rw[hv1] at hve
   cases hve
   simp only[aa,dP,Nat.zero_add]
   have oW:ps.length*ij+((qs.map enc).flatten).length≤l.length:=by
    rw[sB,h1,←Nat.add_mul];exact Nat.mul_le_mul_right _ fM
   refine my (L:=pre) (R:=R) ((qs.map enc).flatten) 0 l s (by rw[hs];rfl) (by omega) (fun c hc=>?_) ?_
   ·obtain⟨e,he,hce⟩:=List.mem_flatten.1 hc
    obtain⟨p,hp,rfl⟩:=List.mem_map.1 he
    exact hq p hp c hce
   ·have:=h (.slice (some ⟨b,0,none⟩) (ps++qs).length uO) [(b,.cells ⟨dB l (ps.length*ij) ((qs.map enc).flatten)⟩ E (0,0))]
     (.inr ⟨b,_,uO,rfl,rfl,by rw[kY,h1],by simpa using fM,fun p hp=>(List.mem_append.1 hp).elim (h3 p) (hql p),by
      rw[qD _ _ _ oW,List.length_append,Nat.add_mul,List.append_assoc]
      rw[List.map_append,List.flatten_append,←h4]
      rw[show ps.length*ij+qs.length*ij=(l.take (ps.length*ij)).length+qs.length*ij from by rw[List.length_take];omega]
      rw[List.take_append,List.take_of_length_le (by omega)]
      congr 1
      rw[show (l.take (ps.length*ij)).length+qs.length*ij-(l.take (ps.length*ij)).length=((qs.map enc).flatten).length from by rw[sB];omega,List.take_left]⟩)
    rw[←a8] at this
    simp only[af,Nat.add_zero]
    rw[List.length_append] at this
    exact this
 ·rw[if_neg fM]
  have cK:uO <ps.length+qs.length:=by omega
  have asC:¬(((ps.length+qs.length:Nat):Int)>IntKind.i64.max):=by
   have:IntKind.i64.max=9223372036854775807:=by decide
   obtain⟨h2,_⟩:=hb
   rw[this];omega
  have hc:=Jv uO cK
  simp only[aa,ni dR,asC,false_and,if_false]
  rw[Lx,if_neg hc]
  simp only[aa]
  rw[IF rfl]
  intro tp
  generalize og:Question.cut (.appendCap (ps.length+qs.length) uO E) tp=fQ
  have Pv:ps.length+qs.length≤fQ:=by rw[←og];simp[Question.cut]
  simp only[aa]
  rw[ni dR]
  simp only[aa]
  refine rV ?_
  simp only[aa]
  have hold:Sl s (.slice va ps.length uO) ij enc ps:=by
   rw[←hve]
   refine ky.sl fun x hx=> .inr ?_
   rw[hs];simp[hx]
  refine s8 hold ?_
  simp only[aa]
  refine s8 Jr ?_
  simp only[aa,jT jL,eo jL,Builtin.zeroCells]
  have H3:((Array.range ((fQ-(ps.length+qs.length))*(⟨z'⟩:Array Value).size)).map fun i=>(⟨z'⟩:Array Value)[i % (⟨z'⟩:Array Value).size]!)=⟨cT z' (fQ-(ps.length+qs.length))⟩:=rM z' _
  rw[H3]
  simp only[jb,af]
  intro b' mo
  have QJ:∀p∈ps,(enc p).length=ij:=by
   rcases ky with ⟨_,rfl,_⟩| ⟨_,_,_,_,_,_,_,h3,_⟩
   ·intro p hp;cases hp
   ·exact h3
  have hol:=j5 ps QJ
  have aAt:aD (.slice (some ⟨b',0,none⟩) (ps++qs).length fQ) ij E enc (ps++qs) [(b',.cells ⟨(ps.map enc).flatten++(qs.map enc).flatten++cT z' (fQ-(ps.length+qs.length))⟩ E (0,0))]:=
   .inr ⟨b',_,fQ,rfl,rfl,by
    simp only[List.length_append,hol,sB,iM,hz,←Nat.add_mul]
    congr 1;omega,by simpa using Pv,fun p hp=>(List.mem_append.1 hp).elim (QJ p) (hql p),by
    rw[List.map_append,List.flatten_append,List.length_append,Nat.add_mul,←hol,←sB,←List.length_append,List.take_left]⟩
  have:=h _ _ aAt
  rw[←a8,List.length_append] at this
  have aty:((⟨(ps.map enc).flatten⟩:Array Value)++⟨(qs.map enc).flatten⟩++⟨cT z' (fQ-(ps.length+qs.length))⟩)=⟨(ps.map enc).flatten++(qs.map enc).flatten++cT z' (fQ-(ps.length+qs.length))⟩:=by simp
  rw[aty]
  refine S8 ⟨s.ro,pre++([(b',.cells ⟨(ps.map enc).flatten++(qs.map enc).flatten++cT z' (fQ-(ps.length+qs.length))⟩ E (0,0))]++R)⟩ _ ?_ _ ?_
  ·refine⟨L,?_,fun _ _ h=> .inl h⟩
   rw[hs]
   rw[List.append_assoc pre,List.append_assoc [_] R L]
   simp only[List.cons_append,List.nil_append]
   refine List.Perm.trans ?_ List.perm_middle.symm
   refine List.Perm.cons _ ?_
   refine List.Perm.append_left pre ?_
   exact List.perm_append_comm
  ·simpa using this
end rules
section rules
variable {P:Program} {C:Class} {fn:FuncId} {aC:Option Nat} {Q:Post} {s:St} {n:Nat} {env:Env} {D:List Deferred}
variable {ops:Array Oper} {i:Nat} {rest:List Nat} {dst:Option Tmp} {ty:TypeId} {pos:String} {dc:Array Edge} {g:Option (Nat×Bool)}
variable {T:TypeId} {d:TypeDesc} {sz bE:Nat} {z:List Value} {ag:Bool}
def EqV(P:Program)(t:TypeId)(x y:Value)(r:Bool):Prop:=
 ∀(s:St) (k:Bool→Sem Next) (Q:Next→St→Prop) (E:Halt→St→Prop),bN P (Op.equal t x y >>= k) s Q E=bN P (k r) s Q E
def nT(P:Program)(t:TypeId):Prop:=P.eqGuardType P.depth t=false
theorem ajE(hC:∀main T,C main T→Closed P main T){m:List Value}(ho:ops[i]?=some ⟨dst,.binOp .eql T x y T',ty,pos,dc,g⟩) (hw:az ops n env g=true)
 (hx:bu n env x=some (.agg ⟨l⟩)) (hy:bu n env y=some (.agg ⟨m⟩)) (hg:nT P T) (he:EqV P T (.agg ⟨l⟩) (.agg ⟨m⟩) r) (h:ab C fn aC ops rest Q (A n (upd dst (.bool r) env) D) s):ab C fn aC ops (i::rest) Q (A n env D) s:=by
 refine bR hC ho hw (by simp) ?_
 have hg':P.eqGuardType P.depth T=false:=hg
 simp only[execOp,aG hx,aG hy,eqGuard,Bool.not_true,Bool.false_eq_true,if_false,aa,eT,hg',Bool.not_false,if_true,af,binOp]
 rw[he]
 rw[←a8] at h
 exact h
theorem ack(hC:∀main T,C main T→Closed P main T){m:List Value}(ho:ops[i]?=some ⟨dst,.binOp .neq T x y T',ty,pos,dc,g⟩) (hw:az ops n env g=true)
 (hx:bu n env x=some (.agg ⟨l⟩)) (hy:bu n env y=some (.agg ⟨m⟩)) (hg:nT P T) (he:EqV P T (.agg ⟨l⟩) (.agg ⟨m⟩) r) (h:ab C fn aC ops rest Q (A n (upd dst (.bool !r) env) D) s):ab C fn aC ops (i::rest) Q (A n env D) s:=by
 refine bR hC ho hw (by simp) ?_
 have hg':P.eqGuardType P.depth T=false:=hg
 simp only[execOp,aG hx,aG hy,eqGuard,Bool.not_true,Bool.false_eq_true,if_false,aa,eT,hg',Bool.not_false,if_true,af,binOp]
 rw[he]
 rw[←a8] at h
 exact h
def ZB(P:Program)(dep:Nat)(t:TypeId)(x y:Value)(r:Bool):Prop:=
 ∀(α:Type) (s:St) (k:Bool→Sem α) (Q:α→St→Prop) (E:Halt→St→Prop),bN P (Op.equalIn dep t x y >>= k) s Q E=bN P (k r) s Q E
theorem nQ{k:IntKind}(tf:TF P t (.int k) sz bE z ag)(a b:Int):ZB P (dep+1) t (.int k a) (.int k b) (a==b):=by
 intro α s kk Q E
 simp only[Op.equalIn,aa,bh tf,if_true,af]
theorem J8{d:TypeDesc}(tf:TF P t d sz bE z false){v:Value}(hv:nth l o=some v){k:Value→Sem α}{Q:α→St→Prop}:bN P (part t ⟨l⟩ o >>= k) s Q E=bN P (k v) s Q E:=by
 rw[rk] at hv
 simp only[part,aa,j9 tf,Bool.false_eq_true,if_false,List.getElem?_toArray]
 rw[hv]
 simp only[af]
theorem J7{d:TypeDesc}(tf:TF P t d sz bE z true){m:List Value}(hv:sub l o sz=some m){k:Value→Sem α}{Q:α→St→Prop}:bN P (part t ⟨l⟩ o >>= k) s Q E=bN P (k (.agg ⟨m⟩)) s Q E:=by
 obtain⟨h1,h2⟩:=sub_eq _ _ _ _ hv
 simp only[part,aa,j9 tf,if_true,cm tf,af]
 have:(⟨l⟩:Array Value).extract o (o+sz)=⟨m⟩:=by
  apply Array.ext'
  simp only[Array.toList_extract,List.extract_eq_take_drop]
  apply List.ext_getElem?
  intro j
  rw[List.getElem?_take]
  split
  ·rename_i hj
   rw[List.getElem?_drop]
   have V2:j <m.length:=by omega
   have h3:=h2 j m[j] (by simp[V2])
   rw[h3];simp[V2]
  ·rename_i hj
   rw[List.getElem?_eq_none (by omega)]
 rw[this]
def Hj(P:Program)(t:TypeId)(l:List Value)(o:Nat)(v:Value):Prop:=
 ∀(α:Type) (s:St) (k:Value→Sem α) (Q:α→St→Prop) (E:Halt→St→Prop),bN P (part t ⟨l⟩ o >>= k) s Q E=bN P (k v) s Q E
theorem jY{d:TypeDesc}(tf:TF P t d sz bE z false){v:Value}(hv:nth l o=some v):Hj P t l o v:=fun _ _ _ _ _=>J8 tf hv
theorem Fc{d:TypeDesc}(tf:TF P t d sz bE z true){m:List Value}(hv:sub l o sz=some m):Hj P t l o (.agg ⟨m⟩):=fun _ _ _ _ _=>J7 tf hv
inductive AN(P:Program)(dep:Nat)(l m:List Value):List Field→Bool→Prop
 |nil:AN P dep l m [] true
 |cons {f:Field} {fs:List Field} {v w:Value} {r r':Bool} (hn:f.name≠ "_") (hv:Hj P f.type l f.offset v) (hw:Hj P f.type m f.offset w) (he:ZB P dep f.type v w r) (ht:AN P dep l m fs r'):AN P dep l m (f::fs) (r&&r')
theorem tP{fields:Array Field}{m:List Value}(tf:TF P t (.struct fields) sz bE z true)(hs:P.stoodInHeld t=false)(hf:AN P dep l m fields.toList r):ZB P (dep+1) t (.agg ⟨l⟩) (.agg ⟨m⟩) r:=by
 intro α s k Q E
 simp only[Op.equalIn,aa,bh tf,eT,hs,Bool.false_eq_true,if_false]
 rw[←Array.forIn_toList]
 generalize fields.toList=fl at hf
 clear tf
 induction hf with
 |nil=>simp only[List.forIn_nil,af,aa,Bool.and_true]
 | @cons f fs v w r r' hn hv hw he ht ih=>
  simp only[List.forIn_cons,hn,ne_eq,not_false_eq_true,if_true,aa]
  rw[hv]
  simp only[aa]
  rw[hw]
  simp only[aa]
  rw[he]
  cases r with
  |false=>simp only[Bool.not_false,if_true,af,aa,Bool.false_and]
  |true=>
   simp only[Bool.not_true,Bool.false_eq_true,if_false,af,Bool.true_and]
   exact ih
theorem Mn{x y:Value}(h:ZB P 10000 t x y r):EqV P t x y r:=fun s k Q E=>h Go.Next s k Q E
end rules
section rules
variable {P:Program} {C:Class} {fn:FuncId} {aC:Option Nat} {Q:Post} {s:St} {n:Nat} {env:Env} {D:List Deferred}
variable {ops:Array Oper} {i:Nat} {rest:List Nat} {dst:Option Tmp} {ty:TypeId} {pos:String} {dc:Array Edge} {g:Option (Nat×Bool)}
variable {T:TypeId} {d:TypeDesc} {sz bE:Nat} {z:List Value} {ag:Bool}
def ue:List Value→Value
 | [x]=>x
 |l=> .tuple ⟨l⟩
inductive DJ(P:Program)(s:St)(n:Nat)(env:Env):List ResultVar→List Value→Prop
 |nil:DJ P s n env [] []
 |tmp {t:Tmp} {v:Value} {rs:List ResultVar} {vs:List Value} (h:bu n env (.tmp t)=some v) (hr:DJ P s n env rs vs):DJ P s n env (.tmp t::rs) (v::vs)
 |agg {t:Tmp} {T:TypeId} {d:TypeDesc} {sz bE:Nat} {z l:List Value} {b o:Nat} {rs:List ResultVar} {vs:List Value} (tf:TF P T d sz bE z true) (h:bu n env (.tmp t)=some (.pointer (some ⟨b,o,none⟩))) (hl:cA s b o sz l) (hr:DJ P s n env rs vs):DJ P s n env (.cell t T::rs) (.agg ⟨l⟩::vs)
 |cell {t:Tmp} {T:TypeId} {d:TypeDesc} {sz bE:Nat} {z:List Value} {v:Value} {b o:Nat} {rs:List ResultVar} {vs:List Value} (tf:TF P T d sz bE z false) (h:bu n env (.tmp t)=some (.pointer (some ⟨b,o,none⟩))) (hl:Reads s b o v) (hr:DJ P s n env rs vs):DJ P s n env (.cell t T::rs) (v::vs)
theorem EH:∀ {rs:List ResultVar} {vs:List Value} (_:DJ P s n env rs vs) {k:List Value→Sem α} {Q:α→St→Prop} {E:Halt→St→Prop},bN P (k vs) s Q E→
 bN P (rs.mapM (fun| .tmp t=>pure ((A n env D).tmps.getD t undef)| .cell a t=>do loadVar t (←asAddr ((A n env D).tmps.getD a undef))) >>= k) s Q E
 |_,_,.nil,k,Q,E,h=>by simpa only[List.mapM_nil,af] using h
 |_,_,.tmp (t:=t) (v:=v) h hr,k,Q,E,hk=>by
  have hv:(A n env D).tmps.getD t undef=v:=by have:=oZ (D:=D) h;rwa[←Array.getD_eq_getD_getElem?] at this
  simp only[List.mapM_cons,aa,af,hv]
  exact EH hr hk
 |_,_,.agg (t:=t) (l:=l) (b:=b) (o:=o) tf h hl hr,k,Q,E,hk=>by
  have hv:(A n env D).tmps.getD t undef= .pointer (some ⟨b,o,none⟩):=by have:=oZ (D:=D) h;rwa[←Array.getD_eq_getD_getElem?] at this
  simp only[List.mapM_cons,aa,af,hv,asAddr,loadVar,j9 tf,if_true,cm tf]
  refine iJ hl ?_
  try simp only[aa,af]
  exact EH hr hk
 |_,_,.cell (t:=t) (v:=v) (b:=b) (o:=o) tf h hl hr,k,Q,E,hk=>by
  have hv:(A n env D).tmps.getD t undef= .pointer (some ⟨b,o,none⟩):=by have:=oZ (D:=D) h;rwa[←Array.getD_eq_getD_getElem?] at this
  simp only[List.mapM_cons,aa,af,hv,asAddr,loadVar,j9 tf,Bool.false_eq_true,if_false]
  refine uR hl ?_
  try simp only[aa,af]
  exact EH hr hk
theorem N4{fn:Func}{R:Ending→St→Prop}{e:Exit}{s0:St}{vs:List Value}{v:Value}(he:e= .ret∨e= .normal)(hr:DJ P s n env fn.results.toList vs)(hv:ue vs=v)(hl:s0.le s)(h:R (.returned v) s0):qR P fn R e (A n env []) s:=by
 refine vX he rfl ?_
 unfold results
 rw[Array.mapM_eq_mapM_toList]
 simp only[map_eq_pure_bind,aa,af]
 refine EH (D:=[]) hr ?_
 refine⟨s0,hl,?_⟩
 subst hv
 have:(if h:(⟨vs⟩:Array Value).size=1 then (⟨vs⟩:Array Value)[0] else .tuple ⟨vs⟩)=ue vs:=by
  match vs with
  | []=>rfl
  | [x]=>rfl
  |x::y::l=>simp[ue]
 rw[←this] at h
 exact h
theorem ayT(hC:∀main T,C main T→Closed P main T){k:IntKind}{a b:Int}(ho:ops[i]?=some ⟨dst,.binOp .rem T x y T',ty,pos,dc,g⟩) (hw:az ops n env g=true)
 (hx:bu n env x=some (.int k a)) (hy:bu n env y=some (.int k b)) (hb:b≠0) (h:ab C fn aC ops rest Q (A n (upd dst (.int k (a.tmod b)) env) D) s):ab C fn aC ops (i::rest) Q (A n env D) s:=
 OB hC ho hw hx hy (v:= .int k (a.tmod b)) (by
  show (if (k≠k) then _ else _)=_
  rw[if_neg (by simp)]
  show Op.intDiv .rem k a b=_
  simp only[Op.intDiv,hb,if_false];rfl) h
end rules
abbrev aW:=Nat→Option (Nat×Nat)
def sN:Nat:=18446744073709551616
def oz:Nat:=36893488147419103232
def zm:Go.Fn→Bool
 | .yield _=>false
 |_=>true
mutual
inductive VR (ρ:aW):Value→Value→Prop
 |bool (b:Bool):VR ρ (.bool b) (.bool b)
 |int (k:IntKind) (n:Int):VR ρ (.int k n) (.int k n)
 |string (b:ByteArray):VR ρ (.string b) (.string b)
 |R7:VR ρ (.pointer none) (.pointer none)
 |ptr (i b c o:Nat):ρ i=some (b,c)→VR ρ (.pointer (some ⟨i,o,none⟩)) (.pointer (some ⟨b,o,none⟩))
 |pJ (l c:Nat):VR ρ (.slice none l c) (.slice none l c)
 |slice (i b c o l k:Nat):ρ i=some (b,c)→k≤sN→VR ρ (.slice (some ⟨i,o,none⟩) l k) (.slice (some ⟨b,o,none⟩) l k)
 |gD (i b c o l k:Nat):ρ i=some (b,c)→sN <k→k≤oz→l+(oz-k)≤c→VR ρ (.slice (some ⟨i,o,none⟩) l k) (.slice (some ⟨b,o,none⟩) l (c-(oz-k)))
 |Sk:VR ρ (.map none) (.map none)
 |map (i b c:Nat):ρ i=some (b,c)→VR ρ (.map (some i)) (.map (some b))
 |GZ:VR ρ (.chan none) (.chan none)
 |chan (i b c:Nat):ρ i=some (b,c)→VR ρ (.chan (some i)) (.chan (some b))
 |func (f:Go.Fn) (x y x' y':List Value):zm f=true→jJ ρ x x'→jJ ρ y y'→VR ρ (.func f ⟨x⟩ ⟨y⟩) (.func f ⟨x'⟩ ⟨y'⟩)
 |yield (i b c:Nat):ρ i=some (b,c)→VR ρ (.func (.yield i) #[] #[]) (.func (.yield b) #[] #[])
 |nilFunc:VR ρ .nilFunc .nilFunc
 |iface (t:TypeId) (v v':Value):VR ρ v v'→VR ρ (.iface t v) (.iface t v')
 |nilIface:VR ρ .nilIface .nilIface
 |agg (l l':List Value):jJ ρ l l'→VR ρ (.agg ⟨l⟩) (.agg ⟨l'⟩)
 |tuple (l l':List Value):jJ ρ l l'→VR ρ (.tuple ⟨l⟩) (.tuple ⟨l'⟩)
inductive jJ (ρ:aW):List Value→List Value→Prop
 |nil:jJ ρ [] []
 |cons (v v':Value) (l l':List Value):VR ρ v v'→jJ ρ l l'→jJ ρ (v::l) (v'::l')
end
def flatAll(f:Value→Bool):List Value→Bool
 | []=>true
 |v::l=>f v&&flatAll f l
def mZ:Nat→Value→Bool
 |0,_=>false
 |_+1,.bool _|_+1,.int _ _|_+1,.string _|_+1,.pointer none|_+1,.slice none _ _|_+1,.map none|_+1,.chan none|_+1,.nilFunc|_+1,.nilIface=>true
 |n+1,.func f x y=>zm f&&(flatAll (mZ n) x.toList&&flatAll (mZ n) y.toList)
 |n+1,.iface _ v=>mZ n v
 |n+1,.agg l=>flatAll (mZ n) l.toList
 |n+1,.tuple l=>flatAll (mZ n) l.toList
 |_,_=>false
def flat(v:Value):Bool:=mZ 12 v
inductive Tr(α:Type) where
 |nil
 |node (v:Option α) (l r:Tr α)
theorem beq_false{a:Nat}(h:a≠b):Nat.beq a b=false:=by
 cases hb:Nat.beq a b with
 |false=>rfl
 |true=>exact absurd (Nat.eq_of_beq_eq_true hb) h
structure cD where
 key:Value
 val:Value
 born:Nat
inductive j7 where
 |cells (l:List Value) (t:TypeId)
 |map (es:List cD) (clock:Nat)
 |fP (s:ByteArray) (pos:Nat)
 |mapIter (m:Option Nat) (since:Nat) (seen:List Nat) (za:Nat)
 |loop (st:LoopState) (pend:Option Code) (fn n:Nat) (env:Env) (params:Array Tmp) (assign body:Code) (defers:Nat)
 |defer (taken:Bool)
 |Hc (es:List cD)
structure CB where
 ro:Bool
 o:j7
structure Mem where
 t:Tr CB
 next:Nat
def cO(n:Nat)(ce:Env):Operand→Option Value
 | .tmp t=>bif Nat.blt t n then gM ce t else none
 | .const v=>bif flat v then some v else none
 | .global _=>none
 | .func f=>some (.func (.func f) #[] #[])
def tO(n:Nat)(ce:Env):List Operand→Option (List Value)
 | []=>some []
 |x::l=>match cO n ce x with
  |some v=>match tO n ce l with
   |some r=>some (v::r)
   |none=>none
  |none=>none
theorem afW{t:Nat}{v:Value}(h:gM e t=some v):gM (e++rest) t=some v:=by
 induction e with
 |nil=>cases h
 |cons x e ih=>
  rcases x with ⟨k,u⟩
  simp only[gM,List.cons_append] at h ⊢
  cases hb:Nat.beq k t with
  |true=>rw[hb] at h;exact h
  |false=>rw[hb] at h;exact ih h
theorem bn{v:Value}(h:bu n e x=some v):bu n (e++rest) x=some v:=by
 cases x with
 |tmp t=>
  simp only[bu] at h ⊢
  cases hb:Nat.blt t n with
  |true=>rw[hb] at h;exact afW h
  |false=>rw[hb] at h;cases h
 |_=>exact h
theorem wJ:∀ {xs:List Operand} {vs:List Value},xg n e xs=some vs→xg n (e++rest) xs=some vs
 | [],vs,h=>h
 |x::xs,vs,h=>by
  simp only[xg] at h ⊢
  cases hx:bu n e x with
  |none=>rw[hx] at h;cases h
  |some v=>
   rw[hx] at h
   cases hr:xg n e xs with
   |none=>rw[hr] at h;cases h
   |some r=>rw[hr] at h;rw[bn hx,wJ hr];exact h
structure TI where
 d:TypeDesc
 size:Nat
 zero:List Value
 agg:Bool
def Lj:TypeDesc→Bool
 | .struct _| .array _ _=>true
 |_=>false
def En:Bool→Value→Option (List Value)
 |true,.agg ⟨l⟩=>some l
 |true,_=>none
 |false,.agg _=>none
 |false,v=>some [v]
def ba(P:Program)(t:TypeId):Option TI:=
 match P.underlying t with
 |some d=>match P.info? t with
  |some i=>match i.zero with
   |some z=>match En (Lj d) z with
    |some l=>some ⟨d,i.size,l,Lj d⟩
    |none=>none
   |none=>none
  |none=>none
 |none=>none
theorem au{x:TI}(h:ba P t=some x):∃bE,TF P t x.d x.size bE x.zero x.agg:=by
 unfold ba at h
 split at h<;>try (cases h;done)
 rename_i d hd
 split at h<;>try (cases h;done)
 rename_i i hi
 split at h<;>try (cases h;done)
 rename_i z hz
 split at h<;>try (cases h;done)
 rename_i l hl
 cases h
 refine⟨i.bytes,hd,⟨i,hi,rfl,rfl,z,hz,?_,?_⟩,?_⟩
 ·revert hl
  simp only
  cases hb:Lj d
  ·intro hl;cases z<;>simp_all[En,Value.cells]
  ·intro hl;cases z<;>simp_all[En,Value.cells]
   cases hl;rfl
 ·revert hl
  simp only
  cases hb:Lj d
  ·intro hl;cases z<;>simp_all[En]<;>subst hl<;>rfl
  ·intro hl;cases z<;>simp_all[En]
   cases hl;rfl
 ·cases d<;>rfl
def bx(P:Program):Sem α→Option α
 | .pure a=>some a
 | .program k=>bx P (k P)
 |_=>none
theorem nZ:∀ {x:Sem α} {a:α},bx P x=some a→∀ {s:St} {Q:α→St→Prop} {E:Halt→St→Prop},Q a s→bN P x s Q E
 | .pure _,_,h,_,_,_,hq=>by simp only[bx,Option.some.injEq] at h;subst h;exact hq
 | .program k,_,h,_,_,_,hq=>nZ (x:=k P) h hq
 | .load ..,_,h,_,_,_,_=>by cases h
 | .store ..,_,h,_,_,_,_=>by cases h
 | .new ..,_,h,_,_,_,_=>by cases h
 | .shape ..,_,h,_,_,_,_=>by cases h
 | .freeze ..,_,h,_,_,_,_=>by cases h
 | .frozen ..,_,h,_,_,_,_=>by cases h
 | .getObj ..,_,h,_,_,_,_=>by cases h
 | .setObj ..,_,h,_,_,_,_=>by cases h
 | .choose ..,_,h,_,_,_,_=>by cases h
 | .sys ..,_,h,_,_,_,_=>by cases h
 | .mark ..,_,h,_,_,_,_=>by cases h
 | .halt ..,_,h,_,_,_,_=>by cases h
theorem aZ{x:Sem α}{a:α}{k:α→Sem β}{Q:β→St→Prop}(h:bx P x=some a)(hk:bN P (k a) s Q E):bN P (x >>= k) s Q E:=
 NB x k s Q E (nZ h hk)
def Ev(n:Nat)(e:Env)(f:Operand→Value):Prop:=∀x v,bu n e x=some v→f x=v
theorem Ev.list(h:Ev n e f):∀ {xs:List Operand} {vs:List Value},xg n e xs=some vs→xs.map f=vs
 | [],vs,hx=>by simpa [xg] using hx
 |x::xs,vs,hx=>by
  simp only[xg] at hx
  cases h1:bu n e x with
  |none=>rw[h1] at hx;cases hx
  |some v=>
   rw[h1] at hx
   cases h2:xg n e xs with
   |none=>rw[h2] at hx;cases hx
   |some r=>rw[h2] at hx;simp only[Option.some.injEq] at hx;subst hx;simp[h _ _ h1,Ev.list h h2]
theorem Ev.arr(h:Ev n e f){xs:Array Operand}(hx:xg n e xs.toList=some vs):xs.map f=⟨vs⟩:=by
 have:=h.list hx
 rcases xs with ⟨xs⟩
 simpa using this
def Yields(P:Program)(n:Nat)(e:Env)(o:Oper)(s:St)(v:Value):Prop:=
 ∀s',Ext s s'→∀f,Ev n e f→∀(K:Next→St→Prop) (E:Halt→St→Prop),K (.value v) s'→bN P (execOp f o) s' K E
def E8:Op→Option (List Operand)
 | .binOp _ _ x y _=>some [x,y]
 | .unOp _ _ x=>some [x]
 | .convert _ _ x=>some [x]
 | .index _ x y=>some [x,y]
 | .field _ x _=>some [x]
 | .slice _ x none none none=>some [x]
 | .slice _ x (some a) none none=>some [x,a]
 | .slice _ x none (some a) none=>some [x,a]
 | .slice _ x (some a) (some b) none=>some [x,a,b]
 | .call ⟨.builtin .min,xs,_⟩=>some xs.toList
 | .call ⟨.builtin .max,xs,_⟩=>some xs.toList
 | .typeAssert x _ _ _=>some [x]
 |_=>none
theorem tk{o:Oper}{xs:List Operand}(h:E8 o.op=some xs){f g:Operand→Value}(hfg:∀x∈xs,f x=g x):execOp f o=execOp g o:=by
  unfold E8 at h
  split at h<;>try (cases h;done)
  all_goals (rename_i heq;simp only[Option.some.injEq] at h;subst h)
  all_goals first
    | (simp[execOp,heq,hfg];done)
    | (simp only[execOp,heq,resolve]
       rename_i xs at_
       have:xs.map f=xs.map g:=by
         apply Array.map_congr_left
         intro a ha;exact hfg a (by simpa using ha)
       rw[this])
theorem Ev.parts(hf:Ev n e f):∀ {xs:List (Nat×Operand)} {l:List (Nat×Value)},Nh n e xs=some l→xs.map (fun x=>(x.1,f x.2))=l
 | [],l,h=>by simpa [Nh] using h
 | (i,x)::xs,l,h=>by
  simp only[Nh] at h
  cases hx:bu n e x with
  |none=>rw[hx] at h;cases h
  |some v=>
   rw[hx] at h
   cases hr:Nh n e xs with
   |none=>rw[hr] at h;cases h
   |some r=>rw[hr] at h;simp only[Option.some.injEq] at h;subst h;simp[hf _ _ hx,Ev.parts hf hr]
theorem Ev.u2(hf:Ev n e f){ps:Array (Nat×Operand)}{l:List (Nat×Value)}(h:Nh n e ps.toList=some l):(ps.map fun x=>(x.1,f x.2)).toList=l:=by
 rw[Array.toList_map];exact hf.parts h
def wB(P:Program):List Field→Option (List (Nat×Nat))
 | []=>some []
 |f::fs=>match ba P f.type with
  |some ti=>match wB P fs with
   |some r=>some ((f.offset,ti.size)::r)
   |none=>none
  |none=>none
theorem x3:∀ {fs:List Field} {pl:List (Nat×Nat)},wB P fs=some pl→Cc P fs pl
 | [],pl,h=>by simp only[wB,Option.some.injEq] at h;subst h;exact .nil
 |f::fs,pl,h=>by
  simp only[wB] at h
  split at h<;>try (cases h;done)
  rename_i ti dR
  split at h<;>try (cases h;done)
  rename_i r hr
  simp only[Option.some.injEq] at h;subst h
  obtain⟨bE,tf⟩:=au dR
  exact .cons tf (x3 hr)
def sY(P:Program)(t:TypeId):Nat:=match P.info? t with|some i=>i.bytes|none=>1000000
theorem cE{r:Nat}{o:Obj}{k:Obj→Sem α}{Q:α→St→Prop}(h:s.has r o)(h1:Obj.wF o=false)(h2:o.isChan=false)(hk:bN P (k o) s Q E):bN P (getObj r >>= k) s Q E:=⟨o,h,h1,h2,hk⟩
theorem eC{r:Nat}{o o':Obj}{L R:List (Nat×Obj)}{k:Unit→Sem α}{Q:α→St→Prop}(h2:o.isChan=false)(hs:s.rw=L++(r,o')::R)(h1:Obj.wF o'=false)(hk:bN P (k ()) ⟨s.ro,L++(r,o)::R⟩ Q E):bN P (setObj r o >>= k) s Q E:=⟨h2,L,o',R,hs,h1,hk⟩
def eF:Op→Bool
 | .defer _=>false
 |_=>true
theorem n8{op:Op}(h:eF op=true):∀c,op≠ .defer c:=by
 intro c e;subst e;cases h
section ops
variable {P:Program} {C:Class} {fn:FuncId} {aC:Option Nat} {Q:Post} {s:St} {n:Nat} {D:List Deferred} {ops:Array Oper} {i:Nat} {todo:List Nat} {ρ:aW} {ce e:Env} {o:Oper} {v:Value} {m m':Mem} {F:Nat×Obj→Prop} {R:Nat→Option Obj}
theorem Ev.Fj(rest:Env):Ev n e (ev n (e++rest)):=fun _ _ h=>aG (bn h)
theorem lG(hC:∀main T,C main T→Closed P main T)(ho:ops[i]?=some o) (rest:Env) (hw:az ops n (e++rest) o.guard=true) (hd:eF o.op=true) (hy:Yields P n e o s v) (hx:Ext s s') (hk:ab C fn aC ops todo Q (A n (upd o.dst v (e++rest)) D) s'):
 ab C fn aC ops (i::todo) Q (A n (e++rest) D) s':=by
 refine bR hC ho hw (n8 hd) (hy s' hx _ (Ev.Fj rest) _ _ ?_)
 show ab _ _ _ _ _ _ _ _
 rw[a8];exact hk
end ops
inductive CR where
 |ret (v:Value)
 |panic (v:Value)
inductive Tgt where
 |fn (f:FuncId)
 |yield (l:Nat)
abbrev cd:=Tgt→List Value→Mem→Option (CR×Mem)
def AW(P:Program)(f:FuncId):Bool:=
 match P.funcs[f]? with
 |some fn=> !(fn.name== "runtime.NumGoroutine")&& !fn.body.isNone
 |none=>false
theorem kO{f:FuncId}(h:AW P f=true):FF P f:=by
 unfold AW at h
 split at h
 ·rename_i fn ui
  simp only[Bool.and_eq_true,Bool.not_eq_true'] at h
  exact⟨fn,ui,h.1,h.2⟩
 ·cases h
def target(P:Program)(n:Nat)(ce:Env):Op→Option (Tgt×List Value)
 | .call ⟨.value x,xs,_⟩=>match cO n ce x with
  |some (.func (.func f) ⟨fi⟩ ⟨ca⟩)=>match tO n ce xs.toList with
   |some vs=>bif AW P f then some (.fn f,fi++vs++ca) else none
   |none=>none
  |some (.func (.yield l) ⟨[]⟩ ⟨[]⟩)=>match tO n ce xs.toList with
   |some vs=>some (.yield l,vs)
   |none=>none
  |_=>none
 | .call ⟨.invoke x name,xs,_⟩=>match cO n ce x with
  |some (.iface t v)=>bif flat v then (match bx P (method (P.types.size+Made.depth) t v name) with
   |some (f,r)=>match tO n ce xs.toList with
    |some vs=>bif AW P f&&flat r then some (.fn f,r::vs) else none
    |none=>none
   |none=>none) else none
  |_=>none
 |_=>none
def Im(d:Nat):Env→Env
 | []=>[]
 | (k,v)::r=>bif Nat.beq k d then r else (k,v)::Im d r
def fe(dst:Option Tmp)(v:Value)(env:Env):Env:=
 match dst with
 |some d=>(d,v)::Im d env
 |none=>env
theorem P8{d t:Nat}(h:d≠t):∀(e:Env),get (Im d e) t=get e t
 | []=>rfl
 | (k,v)::r=>by
  simp only[Im]
  cases hb:Nat.beq k d with
  |true=>
   have:=Nat.eq_of_beq_eq_true hb
   subst this
   simp only[cond_true,cF,if_neg h]
  |false=>simp only[cond_false,cF,P8 h r]
theorem jQ(n:Nat)(dst:Option Tmp)(v:Value)(e:Env)(D:List Deferred):A n (upd dst v e) D=A n (fe dst v e) D:=by
 cases dst with
 |none=>rfl
 |some d=>
  simp only[A,upd,fe,Act.mk.injEq,and_true]
  congr 1
  funext i
  rw[cF,cF]
  split
  ·rfl
  ·rename_i h;rw[P8 h]
structure AL where
 i:Nat
 id:Nat
 ob:j7
section rounds
variable {P:Program} {C:Class} {s:St}
def Cd(s:St)(l:Nat)(K:Loop→(Loop→St)→Prop):Prop:=∃L r Rr,s.rw=L++(l,.loop r)::Rr∧K r fun r'=>⟨s.ro,L++(l,.loop r')::Rr⟩
def TP(R:Ending→St→Prop)(l:Nat)(jump:Option Code)(s:St):Prop:=
 Cd s l fun r up=>R (.returned (.bool jump.isNone)) (up {r with state:=if jump.isNone then .ready else .done,pending:=jump})
def Bb(R:Ending→St→Prop)(l:Nat):Post
 | .normal,_,s=>TP R l none s
 | .ret,_,s=>TP R l (some .ret) s
 | .exit id,_,s=>TP R l (some (.exit id)) s
 | .panic ch,a,s=>a.defers=[]∧R (.panicked ch) s
 |_,_,_=>False
def Hb(C:Class)(R:Ending→St→Prop)(l:Nat)(f:FuncId)(body:Code):Post
 | .normal,a,s=>Cd s l fun r up=>r.state= .ready∧Wp C f (some l) body (Bb R l) a (up {r with state:= .busy})
 | .panic ch,a,s=>a.defers=[]∧R (.panicked ch) s
 |_,_,_=>False
theorem wq{l:Nat}{L Rr:List (Nat×Obj)}{r:Loop}(hs:s.rw=L++(l,.loop r)::Rr){k:Loop→Sem α}{Q:α→St→Prop}(hk:bN P (k r) s Q E):bN P (Instr.getLoop l >>= k) s Q E:=by
 simp only[Instr.getLoop,aa]
 exact cE (o:= .loop r) (.inr (by rw[hs];exact fy)) rfl rfl hk
theorem uX(hC:∀main T,C main T→Closed P main T){main:Bool}{T:Goroutine→St→Prop}(hT:C main T){fr c:Frame}{cs:List Frame}{l:Nat}{jump:Option Code}{R:Ending→St→Prop}(h1:fr.kind= .normal)
 (gB:∀w,stepG P main (G fr (c::cs)) w=(let (r,es):=(Instr.endRound l jump).runT P w #[];GStep.after (seen P fr.fn es)<|match r with
  | .ok v w=>doReturn P main fr (c::cs) none v w
  | .halt _ w=> .ended (.stuck "range over a function: no such loop" (fr.pos P)) w))
 (hr:TP R l jump s)(hk:∀v s',R (.returned v) s'→T (G (c.finish v) cs) s'):T (G fr (c::cs)) s:=by
 obtain⟨L,r,Rr,hs,hR⟩:=hr
 have vk:bN P (Instr.endRound l jump) s (fun v s'=>R (.returned v) s') (fun _ _=>False):=by
  simp only[Instr.endRound]
  refine wq hs ?_
  exact eC rfl hs rfl hR
 refine(hC main T hT).step _ _ rfl fun w oY=>?_
 obtain⟨res,es,bV,hl⟩:=gH _ _ _ _ w #[] vk oY
 rw[Array.empty_append] at bV
 cases res with
 |ok v w'=>
  obtain⟨s',ht,hu⟩:=hl
  refine⟨G (c.finish v) cs,w',seen P fr.fn es,s',?_,rfl,ht.sub (iv _ _ _),hk _ _ hu⟩
  rw[gB,bV]
  simp only[doReturn,h1,GStep.after,Array.append_empty,G]
 |halt _ _=>obtain⟨_,_,hu⟩:=hl;exact hu.elim
theorem Co(hC:∀main T,C main T→Closed P main T){l:Nat}{f:FuncId}{fn:Func}(hf:P.funcs[f]?=some fn) {tmps:Array Value} {assign body:Code} {R:Ending→St→Prop}
 (h:Wp C f (some l) assign (Hb C R l f body) ⟨tmps,[]⟩ s):Round C l f tmps assign body s R:=by
 intro main T hT cl cs k1 k2
 let b:Frame:={(default:Frame) with fn:=f,kind:= .normal,roundOf:=some l}
 have gY:Frame.round l f tmps assign body .normal=aM b ⟨tmps,[]⟩ [.code assign,.beginRound,.code body]:=by simp[Frame.round,aM,b]
 rw[gY]
 have adY:∀ch a' s' todo,a'.defers=[]∧R (.panicked ch) s'→T (G {aM b a' todo with mode:= .panicking ch} (cl::cs)) s':=by
  intro ch a' s' todo q
  refine(hC main T hT).go rfl rfl (g':=G (cl.raise ch) cs) (fun w=>?_) (k2 _ _ q.2)
  have CE:∀fr:Frame,fr.fn=f→fr.catches P=false:=by
   intro fr YG;simp[Frame.catches,YG,hf]
  have:=CE {aM b a' todo with mode:= .panicking ch} rfl
  simp only[aM,q.1] at this
  simp[G,stepG,unwind,aM,b,q.1,this]
 refine h main T hT b [.beginRound,.code body] (cl::cs) rfl (by simp[b]) rfl fun e a' s' q=>?_
 cases e with
 |normal=>
  obtain⟨L,r,Rr,hs,bS,hw⟩:=q
  have vk:bN P (do Instr.beginRound l;pure Next.skip:Sem Next) s' (fun nx s2=>nx= .skip∧s2=⟨s'.ro,L++(l,.loop {r with state:= .busy})::Rr⟩) (fun _ _=>False):=by
   simp only[Instr.beginRound,aa]
   refine wq hs ?_
   simp only[aa]
   refine eC rfl hs rfl ?_
   simp only[bS,af]
   exact⟨rfl,rfl⟩
  have Jw:T (G (aM b a' [.code body]) (cl::cs)) ⟨s'.ro,L++(l,.loop {r with state:= .busy})::Rr⟩:=by
   refine hw main T hT b [] (cl::cs) rfl (by simp[b]) rfl fun e2 a2 s2 q2=>?_
   cases e2 with
   |normal=>exact uX hC hT (l:=l) (jump:=none) rfl (fun w=>by simp[G,stepG,stepG.exec,aM,b];rfl) q2 k1
   |ret=>exact fun todo=>uX hC hT (l:=l) (jump:=some .ret) rfl (fun w=>by simp[G,stepG,stepG.exec,aM,b];rfl) q2 k1
   |exit id=>exact fun todo Yr=>uX hC hT (l:=l) (jump:=some (.exit id)) rfl (fun w=>by simp[G,stepG,stepG.exec,aM,b,Yr];rfl) q2 k1
   |panic ch=>exact fun todo=>adY ch a2 s2 todo q2
   |goto l'=>exact q2.elim
   |outgrown=>exact q2.elim
  refine(hC main T hT).step _ _ rfl fun w oY=>?_
  obtain⟨res,es,bV,hl⟩:=gH _ _ _ _ w #[] vk oY
  rw[Array.empty_append] at bV
  cases res with
  |ok nx w'=>
   obtain⟨s2,ht,rfl,rfl⟩:=hl
   refine⟨G (aM b a' [.code body]) (cl::cs),w',seen P f es,_,?_,rfl,ht.sub (iv _ _ _),Jw⟩
   have gB:stepG P main (G (aM b a' [.beginRound,.code body]) (cl::cs)) w=stepG.apply P true (aM b a' [.beginRound,.code body]) (cl::cs) none (do Instr.beginRound l;pure Next.skip:Sem Next) w:=rfl
   rw[gB]
   simp only[stepG.apply,if_true,bV]
   simp[GStep.after,Frame.finish,aM,b,G]
  |halt _ _=>obtain⟨_,_,hu⟩:=hl;exact hu.elim
 |panic ch=>exact fun todo=>adY ch a' s' todo q
 |ret=>exact q.elim
 |exit id=>exact q.elim
 |goto l=>exact q.elim
 |outgrown=>exact q.elim
end rounds
end Go.L
