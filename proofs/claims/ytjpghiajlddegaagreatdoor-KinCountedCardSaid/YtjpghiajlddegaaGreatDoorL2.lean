/- Part 2 of the proof: a program logic, contracts, a theorem on goroutines. -/
import Derived.Test.YtjpghiajlddegaaGreatDoorL1
import Derived.Laws.Sem
set_option maxRecDepth 100000
set_option linter.all false
namespace Go.L
open Go Go.Conc
variable {E:Halt→St→Prop} {α β:Type} {l z vs z':List Value} {Pl:List (Nat×Value)} {P:Program} {f:Operand→Value} {t T T':TypeId} {s s':St} {o i n b sz j gQ uD dep:Nat} {e env rest:Env} {x y:Operand} {X:List Nat} {r wh:Bool}
def Cz:List Edge→List Nat
 | []=>[]
 |e::l=>bif Region.binds .any e then e.on::Cz l else Cz l
def bh(ops:Array Oper)(i:Nat):List Nat:=
 match ops[i]? with
 |some o=>Cz o.after.toList
 |none=>[]
theorem Bn{e:Edge}:∀ {l:List Edge},e∈l→Region.binds .any e=true→e.on∈Cz l
 |x::l,h,hb=>by
  rcases List.mem_cons.1 h with rfl|h
  ·simp[Cz,hb]
  ·simp only[Cz]
   cases Region.binds .any x
   ·exact Bn h hb
   ·exact List.mem_cons_of_mem _ (Bn h hb)
theorem tB:∀ {l:List Edge},j∈Cz l→∃e∈l,Region.binds .any e=true∧e.on=j
 |x::l,h=>by
  simp only[Cz] at h
  cases hb:Region.binds .any x
  ·rw[hb] at h
   obtain⟨e,he,h2⟩:=tB h
   exact⟨e,List.mem_cons_of_mem _ he,h2⟩
  ·rw[hb] at h
   rcases List.mem_cons.1 h with rfl|h
   ·exact⟨x,by simp,hb,rfl⟩
   ·obtain⟨e,he,h2⟩:=tB h
    exact⟨e,List.mem_cons_of_mem _ he,h2⟩
def Lin(ops:Array Oper):List Nat→List Nat→Prop
 |X,[]=>∀i,i <ops.size→i∈X
 |X,i::l=>i <ops.size∧i∉X∧(∀j∈bh ops i,j∈X)∧Lin ops (i::X) l
def yA(ops:Array Oper):Bool:=(List.range ops.size).all fun i=>(bh ops i).all fun j=>Nat.blt j i
theorem wD[BEq α][LawfulBEq α]:∀ {l₁ l₂:List α},l₁.Nodup→(∀x∈l₁,x∈l₂)→l₁.length≤l₂.length
 | [],_,_,_=>by simp
 |x::l,l₂,hn,hs=>by
  rw[List.nodup_cons] at hn
  have hx:=hs x (by simp)
  have h1:(l₂.erase x).length=l₂.length-1:=List.length_erase_of_mem hx
  have h2:=wD (l₁:=l) (l₂:=l₂.erase x) hn.2 (fun y hy=>by
   have dP:y≠x:=fun e=>hn.1 (e▸hy)
   exact(List.mem_erase_of_ne dP).2 (hs y (by simp[hy])))
  have h3:=List.length_pos_of_mem hx
  simp only[List.length_cons]
  omega
theorem aps(ops:Array Oper)(hd:yA ops=true):∀(fuel t:Nat) (listed:Array Bool) (acc:List Nat),listed.size=ops.size→acc.Nodup→(∀i∈acc,i <ops.size)→
 (∀i,i <ops.size→(listed.getD i true=true↔i∈acc))→fuel+acc.length=ops.size→∃l,Region.linearise.go .any ops fuel t listed acc=acc.reverse++l∧Lin ops acc l:=by
 intro fuel
 induction fuel with
 |zero=>
  intro t listed acc hs hn cz hl hf
  refine⟨[],by simp[Region.linearise.go],fun i hi=>?_⟩
  apply Classical.byContradiction
  intro qm
  have h1:(i::acc).Nodup:=List.nodup_cons.2 ⟨qm,hn⟩
  have h2:∀x∈i::acc,x∈List.range ops.size:=by
   intro x hx
   rcases List.mem_cons.1 hx with rfl|hx
   ·exact List.mem_range.2 hi
   ·exact List.mem_range.2 (cz x hx)
  have h3:=wD h1 h2
  simp at h3
  omega
 |succ fuel ih=>
  intro t listed acc hs hn cz hl hf
  simp only[Region.linearise.go]
  generalize hrs:(List.range ops.size).filter (fun i=> !listed.getD i true&&((ops[i]?).map (·.after.all fun e=> !Region.binds .any e||listed.getD e.on false)).getD false)=rs
  have dP:∃i,i <ops.size∧i∉acc:=by
   apply Classical.byContradiction
   intro IY
   have h2:∀x∈List.range ops.size,x∈acc:=by
    intro x hx
    apply Classical.byContradiction
    intro hx2
    exact IY ⟨x,List.mem_range.1 hx,hx2⟩
   have h3:=wD List.nodup_range h2
   simp at h3
   omega
  have iE:∀i,i∈rs↔(i <ops.size∧i∉acc∧∀j∈bh ops i,j∈acc):=by
   intro i
   rw[←hrs,List.mem_filter,List.mem_range]
   constructor
   ·rintro⟨h1,h2⟩
    rw[Bool.and_eq_true] at h2
    refine⟨h1,fun hm=>?_,fun j hj=>?_⟩
    ·have:=(hl i h1).2 hm
     rw[this] at h2;simp at h2
    ·obtain⟨h3,h4⟩:=h2
     have ho:ops[i]?=some ops[i]:=by simp[h1]
     simp only[bh,ho] at hj
     obtain⟨e,he,hb,rfl⟩:=tB hj
     rw[ho] at h4
     simp only[Option.map_some,Option.getD_some,Array.all_eq_true'] at h4
     have h5:=h4 e (Array.mem_toList_iff.1 he)
     rw[hb] at h5
     simp only[Bool.not_true,Bool.false_or] at h5
     have BE:e.on <ops.size:=by
      apply Classical.byContradiction
      intro hc
      have:listed.getD e.on false=false:=by
       rw[Array.getD_eq_getD_getElem?,Array.getElem?_eq_none (by omega)];rfl
      rw[this] at h5;cases h5
     have:listed.getD e.on true=true:=by
      rw[Array.getD_eq_getD_getElem?] at h5 ⊢
      have:listed[e.on]?=some listed[e.on]:=by simp[hs,BE]
      rw[this] at h5 ⊢;exact h5
     exact(hl _ BE).1 this
   ·rintro⟨h1,h2,h3⟩
    refine⟨h1,?_⟩
    have hf':listed.getD i true=false:=by
     cases hh:listed.getD i true with
     |false=>rfl
     |true=>exact absurd ((hl i h1).1 hh) h2
    rw[hf']
    have ho:ops[i]?=some ops[i]:=by simp[h1]
    rw[ho]
    simp only[Bool.not_false,Bool.true_and,Option.map_some,Option.getD_some,Array.all_eq_true']
    intro e he
    cases hb:Region.binds .any e with
    |false=>rfl
    |true=>
     have hj:e.on∈acc:=h3 _ (by simp only[bh,ho];exact Bn (Array.mem_toList_iff.2 he) hb)
     have BE:=cz _ hj
     have h4:=(hl _ BE).2 hj
     rw[Array.getD_eq_getD_getElem?] at h4 ⊢
     have:listed[e.on]?=some listed[e.on]:=by simp[hs,BE]
     rw[this] at h4 ⊢
     simpa using h4
  have hrn:rs≠[]:=by
   obtain⟨i,hi,qm⟩:=dP
   have aq8:∃i,i <ops.size∧i∉acc∧∀j,j <i→j∈acc:=by
    have:∀m i,i≤m→i <ops.size→i∉acc→∃i,i <ops.size∧i∉acc∧∀j,j <i→j∈acc:=by
     intro m
     induction m with
     |zero=>intro i h1 h2 h3;exact⟨i,h2,h3,fun j hj=>by omega⟩
     |succ m ihm=>
      intro i h1 h2 h3
      by_cases hex:∃j,j <i∧j∉acc
      ·obtain⟨j,hj,hnj⟩:=hex
       exact ihm j (by omega) (by omega) hnj
      ·refine⟨i,h2,h3,fun j hj=>?_⟩
       apply Classical.byContradiction
       intro hc
       exact hex ⟨j,hj,hc⟩
    exact this i i (Nat.le_refl _) hi qm
   obtain⟨i,h1,h2,h3⟩:=aq8
   have:i∈rs:=(iE i).2 ⟨h1,h2,fun j hj=>by
    have:=(List.all_eq_true.1 hd) i (List.mem_range.2 h1)
    have:=(List.all_eq_true.1 this) j hj
    exact h3 j (by simpa [Nat.blt_eq] using this)⟩
   intro he;rw[he] at this;cases this
  have ay1:0 <rs.length:=List.length_pos_iff.2 hrn
  have aOq:=Nat.mod_lt t ay1
  have nU:rs[t % rs.length]?=some rs[t % rs.length]:=by simp[aOq]
  rw[nU]
  simp only
  generalize hi:rs[t % rs.length]=i
  have hir:i∈rs:=by rw[←hi];exact List.getElem_mem _
  obtain⟨h1,h2,h3⟩:=(iE i).1 hir
  obtain⟨l,Cr,qt⟩:=ih (t / rs.length) (listed.setIfInBounds i true) (i::acc) (by simpa using hs) (List.nodup_cons.2 ⟨h2,hn⟩)
   (fun j hj=>by rcases List.mem_cons.1 hj with rfl|hj;exact h1;exact cz j hj)
   (fun j hj=>by
    rw[Array.getD_eq_getD_getElem?,Array.getElem?_setIfInBounds]
    by_cases e:i=j
    ·subst e;simp[hs,h1]
    ·have:=hl j hj
     rw[Array.getD_eq_getD_getElem?] at this
     simp only[e,if_false,this,List.mem_cons]
     constructor
     ·exact .inr
     ·rintro(h|h)
      ·exact absurd h.symm e
      ·exact h)
   (by simp;omega)
  exact⟨i::l,by rw[Cr];simp,h1,h2,h3,qt⟩
theorem zm{ops:Array Oper}(hd:yA ops=true)(t:Nat):Lin ops [] (Region.schedule true ops t):=by
 have:Region.schedule true ops t=Region.linearise .any ops t:=by simp[Region.schedule]
 rw[this]
 obtain⟨l,h1,h2⟩:=aps ops hd ops.size t (Array.replicate ops.size false) [] (by simp) (by simp) (by simp) (fun i hi=>by simp[Array.getD_eq_getD_getElem?,hi]) (by simp)
 unfold Region.linearise
 rw[h1];simpa using h2
def aO(ops:Array Oper)(i:Nat):Option Tmp:=(ops[i]?).bind (·.dst)
def iG(ops:Array Oper)(base:Env):List (Nat×Value)→Env
 | []=>base
 | (i,v)::r=>upd (aO ops i) v (iG ops base r)
def aX:Nat→List Nat→Bool
 |_,[]=>false
 |i,x::l=>Nat.beq i x||aX i l
theorem aG:∀ {l:List Nat},aX i l=true↔i∈l
 | []=>by simp[aX]
 |x::l=>by
  simp only[aX,Bool.or_eq_true,List.mem_cons,aG (l:=l),Nat.beq_eq]
def bY(ops:Array Oper)(base:Env)(j:Nat):List (Nat×Value)→Env
 | []=>base.filter fun x=> !((List.range ops.size).any fun i=>aO ops i==some x.1&& !aX j (bh ops i))
 | (i,v)::r=>bif aX i (bh ops j) then upd (aO ops i) v (bY ops base j r) else bY ops base j r
def ai:List (Nat×Value)→List Nat
 | []=>[]
 | (i,_)::r=>i::ai r
theorem aM:∀ {l:List (Nat×Value)},i∈ai l↔∃v,(i,v)∈l
 | []=>by simp[ai]
 | (j,w)::r=>by
  simp only[ai,List.mem_cons,aM (l:=r),Prod.mk.injEq]
  constructor
  ·rintro(rfl| ⟨v,hv⟩)
   ·exact⟨w,.inl ⟨rfl,rfl⟩⟩
   ·exact⟨v,.inr hv⟩
  ·rintro⟨v,⟨rfl,_⟩|hv⟩
   ·exact .inl rfl
   ·exact .inr ⟨v,hv⟩
def fx(ops:Array Oper):Bool:=
 (List.range ops.size).all fun i=>(List.range ops.size).all fun j=>Nat.beq i j||(match aO ops i,aO ops j with|some a,some b=> !Nat.beq a b|_,_=>true)
section any
variable {P:Program} {C:Class} {fn:FuncId} {ay:Option Nat} {Q:Post} {s:St} {n:Nat} {D:List Deferred} {ops:Array Oper} {base:Env}
def eH(C:Class)(fn:FuncId)(ay:Option Nat)(ops:Array Oper)(n:Nat)(D:List Deferred)(i:Nat)(v:Value)(e:Env)(s:St):Prop:=
 ∀s',Ext s s'→∀rest todo Q,ab C fn ay ops todo Q (A n (upd (aO ops i) v (e++rest)) D) s'→ab C fn ay ops (i::todo) Q (A n (e++rest) D) s'
structure Fits(ops:Array Oper)(base:Env)(Pl:List (Nat×Value))(X:List Nat)(env:Env):Prop where
 done:∀i v,(i,v)∈Pl→i∈X→∀d,aO ops i=some d→get env d=v
 old:∀t,(∀i∈X,aO ops i≠some t)→get env t=get base t
 cl:∀i∈X,i <ops.size∧∀j∈bh ops i,j∈X
def sP(C:Class)(fn:FuncId)(ay:Option Nat)(ops:Array Oper)(n:Nat)(D:List Deferred)(base:Env)(Pl:List (Nat×Value))(Sl:List (Nat×Value))(Q:Post)(s:St):Prop:=
 (∀i v,(i,v)∈Sl→eH C fn ay ops n D i v (bY ops base i Pl) s)→∀X l env,(∀i∈X,i∈ai Pl)→(∀i v,(i,v)∈Pl→i∉X→(i,v)∈Sl)→Lin ops X l→Fits ops base Pl X env→
  ab C fn ay ops l Q (A n env D) s
def fy(l k:List Nat):Bool:=l.all fun j=>aX j k
theorem bE{l k:List Nat}:fy l k=true↔∀j∈l,j∈k:=by
 simp only[fy,List.all_eq_true,aG]
theorem vZ(h:fx ops=true)(hi:i <ops.size)(hj:j <ops.size)(dP:i≠j){a b:Tmp}(ha:aO ops i=some a)(hb:aO ops j=some b):a≠b:=by
 have h1:=(List.all_eq_true.1 h) i (List.mem_range.2 hi)
 have h2:=(List.all_eq_true.1 h1) j (List.mem_range.2 hj)
 rw[ha,hb] at h2
 have:Nat.beq i j=false:=by
  cases hb:Nat.beq i j with
  |false=>rfl
  |true=>exact absurd (Nat.eq_of_beq_eq_true hb) dP
 rw[this] at h2
 intro e;subst e
 simp at h2
theorem yz{d:Tmp}(h:aO ops i=some d):i <ops.size:=by
 apply Classical.byContradiction
 intro hc
 simp[aO,Array.getElem?_eq_none (show ops.size≤i by omega)] at h
theorem vz(hf:Fits ops base Pl X env)(j0:Nat)(hds:∀j∈bh ops j0,j∈X)(hj0:j0∉X):∃rest,A n env D=A n (bY ops base j0 Pl++rest) D:=by
 have key:∀Pl',(∀x∈Pl',x∈Pl)→∀t,((bY ops base j0 Pl').any fun x=>x.1==t)=true→get (bY ops base j0 Pl') t=get env t:=by
  intro Pl'
  induction Pl' with
  |nil=>
   intro _ t ht
   simp only[bY] at ht ⊢
   obtain⟨x,hx,hk⟩:=List.any_eq_true.1 ht
   have hk:x.1=t:=by simpa using hk
   rw[List.mem_filter] at hx
   have IY:∀i,i <ops.size→aO ops i=some t→aX j0 (bh ops i)=true:=by
    intro i hi hd
    have h2:=hx.2
    rw[Bool.not_eq_true'] at h2
    have h3:=(List.any_eq_false.1 h2) i (List.mem_range.2 hi)
    rw[hd,hk] at h3
    simpa using h3
   rw[hf.old t fun i hi hd=>hj0 ((hf.cl i hi).2 j0 (aG.1 (IY i (hf.cl i hi).1 hd)))]
   have vv:∀(b:Env) (p:Nat×Value→Bool),(∀v,p (t,v)=true)→get (b.filter p) t=get b t:=by
    intro b p hp
    induction b with
    |nil=>rfl
    |cons y b ih=>
     rcases y with ⟨k,v⟩
     by_cases e:k=t
     ·subst e;simp[List.filter_cons,hp,cu]
     ·simp only[List.filter_cons]
      split
      ·simp only[cu,e,if_false,ih]
      ·simp only[cu,e,if_false,ih]
   refine vv base _ fun v=>?_
   simp only[Bool.not_eq_true',List.any_eq_false,List.mem_range]
   intro i hi
   have:=IY i hi
   simp only[Bool.and_eq_true,beq_iff_eq,Bool.not_eq_true',not_and,Bool.not_eq_false]
   exact this
  |cons x Pl' ih=>
   intro fq t ht
   rcases x with ⟨i,v⟩
   simp only[bY] at ht ⊢
   cases hm:aX i (bh ops j0) with
   |false=>rw[hm] at ht;simp only[cond_false] at ht ⊢;exact ih (fun x hx=>fq x (by simp[hx])) t ht
   |true=>
    rw[hm] at ht
    simp only[cond_true] at ht ⊢
    cases hd:aO ops i with
    |none=>rw[hd] at ht;simp only[upd] at ht ⊢;exact ih (fun x hx=>fq x (by simp[hx])) t ht
    |some d=>
     rw[hd] at ht
     simp only[upd] at ht ⊢
     rw[cu]
     by_cases e:d=t
     ·subst e
      rw[if_pos rfl]
      exact(hf.done i v (fq _ (by simp)) (hds i (aG.1 hm)) d hd).symm
     ·rw[if_neg e]
      refine ih (fun x hx=>fq x (by simp[hx])) t ?_
      simpa [e] using ht
 refine⟨env,?_⟩
 simp only[A,Act.mk.injEq,and_true]
 congr 1
 funext i
 rw[get_append]
 split
 ·rename_i ha
  exact(key Pl (fun _ h=>h) _ ha).symm
 ·rfl
theorem sH(mj:fx ops=true)(hf:Fits ops base Pl X env){v:Value}(hi:i <ops.size)(hx:i∉X)(hdp:∀j∈bh ops i,j∈X)(hv:∀w,(i,w)∈Pl→w=v):
 Fits ops base Pl (i::X) (upd (aO ops i) v env):=by
 refine⟨fun j w hj hjx d hd=>?_,fun t ht=>?_,fun j hj=>?_⟩
 ·rcases List.mem_cons.1 hjx with rfl|hjx
  ·rw[hd];simp only[upd,cu,if_true];exact(hv w hj).symm
  ·cases hdi:aO ops i with
   |none=>simp only[upd];exact hf.done j w hj hjx d hd
   |some d'=>
    have dP:d'≠d:=vZ mj hi (yz hd) (by intro e;subst e;exact hx hjx) hdi hd
    simp only[upd,cu,if_neg dP]
    exact hf.done j w hj hjx d hd
 ·cases hdi:aO ops i with
  |none=>simp only[upd];exact hf.old t fun j hj=>ht j (List.mem_cons_of_mem _ hj)
  |some d'=>
   have dP:d'≠t:=by intro e;subst e;exact ht i List.mem_cons_self hdi
   simp only[upd,cu,if_neg dP]
   exact hf.old t fun j hj=>ht j (List.mem_cons_of_mem _ hj)
 ·rcases List.mem_cons.1 hj with rfl|hj
  ·exact⟨hi,fun k hk=>List.mem_cons_of_mem _ (hdp k hk)⟩
  ·exact⟨(hf.cl j hj).1,fun k hk=>List.mem_cons_of_mem _ ((hf.cl j hj).2 k hk)⟩
theorem BJ(hf:Fits ops base Pl X env){v:Value}(hx:i∉X):Fits ops base ((i,v)::Pl) X env:=
 ⟨fun j w hj hjx d hd=>by
  rcases List.mem_cons.1 hj with hj|hj
  ·cases hj;exact absurd hjx hx
  ·exact hf.done j w hj hjx d hd,hf.old,hf.cl⟩
theorem B7{kH:Env}(h:A n env D=A n kH D)(d:Option Tmp)(v:Value):A n (upd d v env) D=A n (upd d v kH) D:=by
 rw[←aU,←aU,h]
theorem cK{v:Value}(h:i∉bh ops j):bY ops base j ((i,v)::Pl)=bY ops base j Pl:=by
 simp only[bY]
 cases hm:aX i (bh ops j) with
 |false=>rfl
 |true=>exact absurd (aG.1 hm) h
theorem eH.ext{v:Value}(h:eH C fn ay ops n D i v e s)(he:Ext s s'):eH C fn ay ops n D i v e s':=
 fun YM h2=>h YM (he.trans h2)
def oy(ops:Array Oper)(ks:List Nat):Bool:=ks.all fun i=>fy (bh ops i) ks
def nodupB:List Nat→Bool
 | []=>true
 |i::l=> !aX i l&&nodupB l
theorem GU{Sl:List (Nat×Value)}(i:Nat){v:Value}(hn:aX i (ai Pl)=false)(hk:fy (bh ops i) (ai Pl)=true)(jh:oy ops (ai Pl)=true)(hs:fy (ai Sl) (ai Pl)=true)
 (bL:eH C fn ay ops n D i v (bY ops base i Pl) s)(h:sP C fn ay ops n D base ((i,v)::Pl) ((i,v)::Sl) Q s):sP C fn ay ops n D base Pl Sl Q s:=by
 have qm:i∉ai Pl:=fun hm=>by rw[aG.2 hm] at hn;cases hn
 intro hSl X l env hX hl oC hf
 have Dj:i∉X:=fun hm=>qm (hX i hm)
 have KO:∀j,j∈ai Pl→i∉bh ops j:=by
  intro j hj hm
  have:=(List.all_eq_true.1 jh) j hj
  exact qm (bE.1 this i hm)
 refine h (fun j w hj=>?_) X l env (fun j hj=>List.mem_cons_of_mem _ (hX j hj)) (fun j w hj hjx=>?_) oC (BJ hf Dj)
 ·rcases List.mem_cons.1 hj with hj|hj
  ·cases hj
   rw[cK (fun hm=>qm (bE.1 hk i hm))];exact bL
  ·rw[cK (KO j (bE.1 hs j (aM.2 ⟨w,hj⟩)))];exact hSl j w hj
 ·rcases List.mem_cons.1 hj with hj|hj
  ·cases hj;simp
  ·exact List.mem_cons_of_mem _ (hl j w hj hjx)
def pending(ops:Array Oper)(i:Nat)(Sl:List (Nat×Value)):List (Nat×Value):=Sl.filter fun x=> !aX x.1 (bh ops i)
theorem af4(hC:∀main T,C main T→Closed P main T){Sl:List (Nat×Value)}(mj:fx ops=true)(lI:nodupB (ai Pl)=true)(cX:fy (List.range ops.size) (ai Pl)=true)(cz:fy (ai Pl) (List.range ops.size)=true)(h:Q .normal (A n (iG ops base Pl) D) s):sP C fn ay ops n D base Pl Sl Q s:=by
 intro hSl X l
 have FG:∀(l:List (Nat×Value)),nodupB (ai l)=true→∀j v w,(j,v)∈l→(j,w)∈l→w=v:=by
  intro l
  induction l with
  |nil=>intro _ j v w h;cases h
  |cons x l ih=>
   rcases x with ⟨k,u⟩
   intro hb j v w h1 h2
   simp only[ai,nodupB,Bool.and_eq_true,Bool.not_eq_true'] at hb
   have hk:k∉ai l:=fun hm=>by rw[aG.2 hm] at hb;cases hb.1
   rcases List.mem_cons.1 h1 with h1|h1<;>rcases List.mem_cons.1 h2 with h2|h2
   ·cases h1;cases h2;rfl
   ·cases h1;exact absurd (aM.2 ⟨_,h2⟩) hk
   ·cases h2;exact absurd (aM.2 ⟨_,h1⟩) hk
   ·exact ih hb.2 j v w h1 h2
 have I5:∀(l:List (Nat×Value)),(∀j∈ai l,j <ops.size)→nodupB (ai l)=true→(∀i v,(i,v)∈l→∀d,aO ops i=some d→get (iG ops base l) d=v)∧(∀t,(∀i∈ai l,aO ops i≠some t)→get (iG ops base l) t=get base t):=by
  intro l
  induction l with
  |nil=>intro _ _;exact⟨fun _ _ h=>((by cases h)),fun _ _=>rfl⟩
  |cons x l ih=>
   rcases x with ⟨k,u⟩
   intro cz hb
   simp only[ai,nodupB,Bool.and_eq_true,Bool.not_eq_true'] at hb
   have hk:k∉ai l:=fun hm=>by rw[aG.2 hm] at hb;cases hb.1
   obtain⟨i1,i2⟩:=ih (fun j hj=>cz j (by simp[ai,hj])) hb.2
   have hk1:k <ops.size:=cz k (by simp[ai])
   refine⟨fun i v hi d hd=>?_,fun t ht=>?_⟩
   ·simp only[iG]
    rcases List.mem_cons.1 hi with hi|hi
    ·cases hi;rw[hd];simp only[upd,cu,if_true]
    ·have dP:k≠i:=fun e=>hk (e▸aM.2 ⟨_,hi⟩)
     cases hdk:aO ops k with
     |none=>simp only[upd];exact i1 i v hi d hd
     |some d'=>simp only[upd,cu,if_neg (vZ mj hk1 (yz hd) dP hdk hd)];exact i1 i v hi d hd
   ·simp only[iG]
    cases hdk:aO ops k with
    |none=>simp only[upd];exact i2 t fun i hi=>ht i (by simp[ai,hi])
    |some d'=>
     have dP:d'≠t:=fun e=>ht k (by simp[ai]) (by rw[hdk,e])
     simp only[upd,cu,if_neg dP];exact i2 t fun i hi=>ht i (by simp[ai,hi])
 obtain⟨a1,a2⟩:=I5 Pl (fun j hj=>List.mem_range.1 (bE.1 cz j hj)) lI
 induction l generalizing X with
 |nil=>
  intro env hX hl oC hf
  refine tz hC ?_
  have:A n env D=A n (iG ops base Pl) D:=by
   simp only[A,Act.mk.injEq,and_true]
   congr 1
   funext i
   by_cases he:∃j,j <ops.size∧aO ops j=some i.val
   ·obtain⟨j,hj,hd⟩:=he
    obtain⟨v,hv⟩:=aM.1 (bE.1 cX j (List.mem_range.2 hj))
    rw[hf.done j v hv (oC j hj) _ hd,a1 j v hv _ hd]
   ·rw[hf.old _ (fun j hj hd=>he ⟨j,(hf.cl j hj).1,hd⟩),a2 _ (fun j hj hd=>he ⟨j,List.mem_range.1 (bE.1 cz j hj),hd⟩)]
  rw[this];exact h
 |cons j l ih=>
  intro env hX hl oC hf
  obtain⟨h1,h2,h3,h4⟩:=oC
  obtain⟨w,hw⟩:=aM.1 (bE.1 cX j (List.mem_range.2 h1))
  obtain⟨rest,hr⟩:=vz (n:=n) (D:=D) hf j h3 h2
  rw[hr]
  refine hSl j w (hl j w hw h2) s (Ext.refl s) rest l Q ?_
  rw[←B7 hr]
  refine ih (j::X) _ (fun k hk=>?_) (fun k u hk AP=>hl k u hk (fun h=>AP (List.mem_cons_of_mem _ h))) h4 (sH mj hf h1 h2 h3 (fun u hu=>FG Pl lI j w u hw hu))
  rcases List.mem_cons.1 hk with rfl|hk
  ·exact aM.2 ⟨w,hw⟩
  ·exact hX k hk
def Nn:List (Nat×Value)→Nat→Option Value
 | [],_=>none
 | (i,v)::r,j=>bif Nat.beq i j then some v else Nn r j
theorem Yv(hC:∀main T,C main T→Closed P main T){id:Nat}(hm:P.follows .mixedOrders=true)(hd:yA ops=true)(h:sP C fn ay ops n D env [] [] Q s):Wp C fn ay (.region id ops true) Q (A n env D) s:=by
 refine wp_region_draw (P:=P) hC fun t=>?_
 rw[hm]
 exact h (fun _ _ h=>((by cases h))) [] _ env (fun _ h=>((by cases h))) (fun _ _ h=>((by cases h))) (zm hd t) ⟨fun _ _ h=>((by cases h)),fun _ _=>rfl,fun _ h=>((by cases h))⟩
end any
def nY(place:Nat→Option (Nat×Nat)):List Value→List (Nat×List Value)→Option (List Value)
 |cs,[]=>some cs
 |cs,(i,vs)::r=>match place i with
  |some (off,size)=>bif Nat.beq vs.length size&&Nat.ble (off+vs.length) cs.length then nY place (de cs off vs) r else none
  |none=>none
theorem Ja(off:Nat):∀(vs:List Value) (k:Nat) (cs:Array Value),off+k+vs.length≤cs.size→
 (vs.zipIdx k).foldl (fun(cs:Array Value) (x:Value×Nat)=>cs.setIfInBounds (off+x.2) x.1) cs=⟨de cs.toList (off+k) vs⟩
 | [],k,cs,_=>by simp[kO]
 |v::vs,k,cs,h=>by
  simp only[List.length_cons] at h
  simp only[List.zipIdx_cons,List.foldl_cons]
  rw[Ja off vs (k+1) _ (by simp;omega),Bc _ _ _ _ (by simp;omega)]
  simp[Nat.add_assoc]
theorem fill_eq(place:Nat→Option (Nat×Nat)):∀(parts:List (Nat×Value)) (cs l:List Value),nY place cs (parts.map fun x=>(x.1,x.2.cells.toList))=some l→Instr.fill place ⟨cs⟩ parts=some ⟨l⟩
 | [],cs,l,h=>by simp[nY] at h;subst h;rfl
 | (i,v)::r,cs,l,h=>by
  simp only[List.map_cons,nY] at h
  simp only[Instr.fill]
  cases hp:place i with
  |none=>rw[hp] at h;cases h
  |some x=>
   rcases x with ⟨off,size⟩
   rw[hp] at h
   simp only at h ⊢
   cases hb:(Nat.beq v.cells.toList.length size&&Nat.ble (off+v.cells.toList.length) cs.length) with
   |false=>rw[hb] at h;cases h
   |true=>
    rw[hb] at h
    simp only[cond_true] at h
    rw[Bool.and_eq_true] at hb
    have h1:v.cells.size=size:=by simpa using Nat.eq_of_beq_eq_true hb.1
    have h2:off+v.cells.size≤cs.length:=by simpa using Nat.le_of_ble_eq_true hb.2
    rw[if_neg (by simp[h1];omega)]
    rw[show v.cells.zipIdx.foldl (fun(cs:Array Value) (x:Value×Nat)=>cs.setIfInBounds (off+x.2) x.1) (⟨cs⟩:Array Value)=⟨de cs off v.cells.toList⟩ from by
     rw[←Array.foldl_toList,Array.toList_zipIdx]
     have:=Ja off v.cells.toList 0 ⟨cs⟩ (by simpa using h2)
     simpa using this]
    exact fill_eq place r _ l h
def Mo(n:Nat)(env:Env):List (Nat×Operand)→Option (List (Nat×Value))
 | []=>some []
 | (i,x)::l=>match ba n env x with
  |some v=>match Mo n env l with
   |some r=>some ((i,v)::r)
   |none=>none
  |none=>none
theorem aff:∀ {xs:List (Nat×Operand)} {l:List (Nat×Value)},Mo n env xs=some l→xs.map (fun x=>(x.1,ev n env x.2))=l
 | [],l,h=>by simpa [Mo] using h
 | (i,x)::xs,l,h=>by
  simp only[Mo] at h
  cases hx:ba n env x with
  |none=>rw[hx] at h;cases h
  |some v=>
   rw[hx] at h
   cases hr:Mo n env xs with
   |none=>rw[hr] at h;cases h
   |some r=>rw[hr] at h;simp only[Option.some.injEq] at h;subst h;simp[aC hx,aff hr]
def dO:Value→List Value
 | .agg ⟨l⟩=>l
 |v=>[v]
theorem lL(v:Value):dO v=v.cells.toList:=by cases v<;>rfl
def tw:List (Nat×Value)→List (Nat×List Value)
 | []=>[]
 | (i,v)::r=>(i,dO v)::tw r
theorem jZ:∀(l:List (Nat×Value)),tw l=l.map fun x=>(x.1,x.2.cells.toList)
 | []=>rfl
 | (i,v)::r=>by simp[tw,lL,jZ r]
def cM(z:List Value):Nat→List Value
 |0=>[]
 |n+1=>z++cM z n
theorem iz(z:List Value):∀n,(cM z n).length=n*z.length
 |0=>by simp[cM]
 |n+1=>by simp[cM,iz z n,Nat.add_mul,Nat.add_comm]
theorem Eg(z:List Value)(hz:0 <z.length):∀n i,i <n*z.length→(cM z n)[i]?=z[i % z.length]?
 |0,i,h=>by simp at h
 |n+1,i,h=>by
  simp only[cM,List.getElem?_append]
  split
  ·rename_i hl;rw[Nat.mod_eq_of_lt hl]
  ·rename_i hl
   rw[Eg z hz n (i-z.length) (by rw[Nat.add_mul,Nat.one_mul] at h;omega)]
   rw[show i % z.length=(i-z.length) % z.length from by rw[Nat.mod_eq_sub_mod (by omega)]]
theorem rJ(z:List Value)(n:Nat):((Array.range (n*z.length)).map fun i=>(⟨z⟩:Array Value)[i % (⟨z⟩:Array Value).size]!)=⟨cM z n⟩:=by
 apply Array.ext_getElem?
 intro i
 simp only[Array.getElem?_map,Array.getElem?_range]
 by_cases h:i <n*z.length
 ·have hz:0 <z.length:=by
   rcases Nat.eq_zero_or_pos z.length with h0|h0
   ·rw[h0] at h;simp at h
   ·exact h0
  have hm:i % z.length <z.length:=Nat.mod_lt _ hz
  simp only[h,if_true,Option.map_some]
  have:=Eg z hz n i h
  simp only[List.size_toArray,List.getElem?_toArray]
  rw[this]
  simp[hm,getElem!_pos]
 ·simp only[h,if_false,Option.map_none]
  simp[iz,List.getElem?_eq_none (show (cM z n).length≤i by rw[iz];omega)]
inductive B2(P:Program):List Field→List (Nat×Nat)→Prop
 |nil:B2 P [] []
 |cons {f:Field} {d:TypeDesc} {sz bu:Nat} {z:List Value} {ag:Bool} {fs:List Field} {ps:List (Nat×Nat)} (h:TF P f.type d sz bu z ag) (t:B2 P fs ps):B2 P (f::fs) ((f.offset,sz)::ps)
theorem nB{Q:α→St→Prop}:∀ {fs:List Field} {ps:List (Nat×Nat)} (_:B2 P fs ps) {k:List (Nat×Nat)→Sem α},
 bG P (fs.mapM (fun f=>do pure (f.offset,←sizeOf f.type)) >>= k) s Q E=bG P (k ps) s Q E
 |_,_,.nil,k=>by simp only[List.mapM_nil,ae]
 |_,_,.cons h t,k=>by
  simp only[List.mapM_cons,aa,bW h,ae]
  exact nB t
section rules
variable {P:Program} {C:Class} {fn:FuncId} {ay:Option Nat} {Q:Post} {s:St} {n:Nat} {env:Env} {D:List Deferred}
variable {ops:Array Oper} {i:Nat} {rest:List Nat} {dst:Option Tmp} {ty:TypeId} {pos:String} {cS:Array Edge} {g:Option (Nat×Bool)}
variable {T:TypeId} {d:TypeDesc} {sz bu:Nat} {z:List Value} {ag:Bool}
theorem IA(ps:Array (Nat×Operand)){l:List (Nat×Value)}(h:Mo n env ps.toList=some l):(ps.map fun x=>(x.1,ev n env x.2)).toList=l:=by
 rw[Array.toList_map];exact aff h
theorem Kj(hC:∀main T,C main T→Closed P main T){E:TypeId}{m:Nat}{ps:Array (Nat×Operand)}{pv:List (Nat×Value)}{d':TypeDesc}(ho:ops[i]?=some ⟨dst,.buildSlice T m ps,ty,pos,cS,g⟩) (hw:aw ops n env g=true)
 (tf:TF P T (.slice E) sz bu z ag) (jC:TF P E d' gQ uD z' wh) (hz:Nat.beq z'.length gQ=true) (hp:Mo n env ps.toList=some pv) (hm:Nat.ble (m*gQ) 16777216=true) (hf:nY (fun i=>some (i*gQ,gQ)) (cM z' m) (tw pv)=some l)
 (h:∀b,¬s.knows b→ab C fn ay ops rest Q (A n (upd dst (.slice (some ⟨b,0,none⟩) m m) env) D) ⟨s.ro,(b,.cells ⟨l⟩ E)::s.rw⟩):ab C fn ay ops (i::rest) Q (A n env D) s:=by
 refine bJ hC ho hw (by simp) ?_
 have hle:¬m*gQ>2^24:=by have:=Nat.le_of_ble_eq_true hm;omega
 have Da:z'.length=gQ:=Nat.eq_of_beq_eq_true hz
 rw[jZ] at hf
 have h1:=fill_eq _ _ _ _ hf
 have h2:=IA ps hp
 simp only[execOp,Instr.buildSlice,aa,aW tf,bW jC,hle,if_false]
 by_cases h0:m*gQ=0
 ·rw[if_pos h0]
  have Hz:((Array.range (m*gQ)).map fun i=>(#[]:Array Value)[i % (#[]:Array Value).size]!)=⟨cM z' m⟩:=by
   rw[h0]
   have:cM z' m=[]:=List.eq_nil_of_length_eq_zero (by rw[iz,Da,h0])
   rw[this];simp
  simp only[aa,ae]
  rw[Hz,h2,h1]
  simp only[aa,iM,ae]
  intro b hb
  have:=h b hb
  rw[←aU] at this
  exact this
 ·rw[if_neg h0]
  have Hz:((Array.range (m*gQ)).map fun i=>(⟨z'⟩:Array Value)[i % (⟨z'⟩:Array Value).size]!)=⟨cM z' m⟩:=by rw[←Da];exact rJ z' m
  simp only[aa,jK jC,ae,dR jC,Hz,h2,h1,iM]
  intro b hb
  have:=h b hb
  rw[←aU] at this
  exact this
end rules
def Sl(s:St)(v:Value)(sz:Nat)(enc:α→List Value)(ps:List α):Prop:=
 ∃a b o cap,v= .slice a ps.length cap∧(∀k,k <ps.length→a=some ⟨b,o,none⟩)∧∀i p,ps[i]?=some p→cg s b (o+i*sz) sz (enc p)
theorem Sl.nil(s:St)(sz:Nat)(enc:α→List Value)(a:Option Addr)(cap:Nat):Sl s (.slice a 0 cap) sz enc []:=
 ⟨a,0,0,cap,rfl,fun k h=>absurd h (Nat.not_lt_zero k),fun i p hp=>by simp at hp⟩
theorem cg.cell{m:Nat}(h:cg s b o m vs)(j:Nat)(v:Value)(hj:vs[j]?=some v):Reads s b (o+j) v:=by
 obtain⟨l,t,fz,h1,h2⟩:=h
 exact⟨l,t,fz,h1,by rw[rj];exact(sub_eq _ _ _ _ h2).2 j v hj⟩
theorem cg.len{m:Nat}(h:cg s b o m vs):vs.length=m:=by
 obtain⟨l,t,fz,h1,h2⟩:=h
 exact(sub_eq _ _ _ _ h2).1
section sem
variable {P:Program} {α:Type} {s:St} {Q:α→St→Prop} {E:Halt→St→Prop}
theorem Qt(l:List Value):∀(i:Nat) (acc:Array Value) {k:Array Value→Sem α},(∀(j:Nat) (v:Value),l[j]?=some v→Reads s b (o+i+j) v)→bG P (k (acc++l.toArray)) s Q E→
 bG P (loadCellsFrom ⟨b,o,none⟩ i l.length acc >>= k) s Q E:=by
 induction l with
 |nil=>intro i acc k _ hk;simpa [loadCellsFrom,ae] using hk
 |cons v l ih=>
  intro i acc k h2 hk
  simp only[List.length_cons,loadCellsFrom,aa,dG]
  refine uU (h2 0 v rfl) ?_
  refine ih (i+1) (acc.push v) (fun j x hx=>?_) (by simpa using hk)
  have:=h2 (j+1) x (by simpa using hx)
  rw[show o+(i+1)+j=o+i+(j+1) from by omega];exact this
theorem Qs{m:Nat}(hm:l.length=m)(h:∀(j:Nat) (v:Value),l[j]?=some v→Reads s b (o+j) v) {k:Array Value→Sem α} (hk:bG P (k ⟨l⟩) s Q E):bG P (loadCells ⟨b,o,none⟩ m >>= k) s Q E:=by
 subst hm
 exact Qt l 0 #[] (by simpa using h) (by simpa using hk)
end sem
theorem O6{enc:α→List Value}:∀(ps:List α),(∀p∈ps,(enc p).length=sz)→∀(j:Nat) (v:Value),((ps.map enc).flatten)[j]?=some v→∃i p r,ps[i]?=some p∧j=i*sz+r∧(enc p)[r]?=some v
 | [],_,j,v,h=>by simp at h
 |p::ps,hl,j,v,h=>by
  simp only[List.map_cons,List.flatten_cons,List.getElem?_append] at h
  have hp:=hl p (by simp)
  split at h
  ·exact⟨0,p,j,rfl,by simp,h⟩
  ·rename_i hj
   obtain⟨i,q,r,h1,h2,h3⟩:=O6 ps (fun x hx=>hl x (by simp[hx])) _ v h
   refine⟨i+1,q,r,by simpa using h1,?_,h3⟩
   rw[Nat.add_mul,Nat.one_mul];omega
theorem jR{enc:α→List Value}:∀(ps:List α),(∀p∈ps,(enc p).length=sz)→((ps.map enc).flatten).length=ps.length*sz
 | [],_=>by simp
 |p::ps,hl=>by
  have:=jR ps (fun x hx=>hl x (by simp[hx]))
  simp only[List.map_cons,List.flatten_cons,List.length_append,this,hl p (by simp),List.length_cons,Nat.add_mul,Nat.one_mul];omega
theorem Sl.flat{enc:α→List Value}{ps:List α}(h:∀(i:Nat) (p:α),ps[i]?=some p→cg s b (o+i*sz) sz (enc p)):
 (∀p∈ps,(enc p).length=sz)∧∀(j:Nat) (v:Value),((ps.map enc).flatten)[j]?=some v→Reads s b (o+j) v:=by
 have hl:∀p∈ps,(enc p).length=sz:=by
  intro p hp
  obtain⟨i,hi⟩:=List.mem_iff_getElem?.1 hp
  exact(h i p hi).len
 refine⟨hl,fun j v hv=>?_⟩
 obtain⟨i,p,r,h1,rfl,h3⟩:=O6 ps hl j v hv
 have:=(h i p h1).cell r v h3
 rw[show o+(i*sz+r)=o+i*sz+r from by omega];exact this
def az(v:Value)(sz:Nat)(T:TypeId)(enc:α→List Value)(ps:List α)(L:List (Nat×Obj)):Prop:=
 (v= .slice none 0 0∧ps=[]∧L=[])∨
 ∃b l cap,v= .slice (some ⟨b,0,none⟩) ps.length cap∧L=[(b,.cells ⟨l⟩ T (0,0))]∧l.length=cap*sz∧ps.length≤cap∧(∀p∈ps,(enc p).length=sz)∧l.take (ps.length*sz)=(ps.map enc).flatten
theorem az.nil(sz:Nat)(T:TypeId)(enc:α→List Value):az (.slice none 0 0) sz T enc [] []:= .inl ⟨rfl,rfl,rfl⟩
theorem iv{m:Nat}(h:o+m≤l.length):sub l o m=some ((l.drop o).take m):=by
 have ht:∀(m:Nat) (l:List Value),m≤l.length→jJ l m=some (l.take m):=by
  intro m
  induction m with
  |zero=>intro l _;cases l<;>simp[jJ]
  |succ m ih=>
   intro l hl
   cases l with
   |nil=>simp at hl
   |cons x l=>simp only[jJ,ih l (by simpa using hl),List.take_succ_cons]
 induction o generalizing l with
 |zero=>have:=ht m l (by omega);cases l<;>simpa [sub] using this
 |succ o ih=>
  cases l with
  |nil=>simp at h
  |cons x l=>simp only[sub,List.drop_succ_cons];exact ih (by simp at h;omega)
theorem BI{enc:α→List Value}:∀(ps:List α),(∀p∈ps,(enc p).length=sz)→∀(i:Nat) (p:α),ps[i]?=some p→(((ps.map enc).flatten).drop (i*sz)).take sz=enc p
 | [],_,i,p,h=>by simp at h
 |q::ps,hl,0,p,h=>by
  simp at h;subst h
  have:=hl q (by simp)
  simp[←this]
 |q::ps,hl,i+1,p,h=>by
  have hq:=hl q (by simp)
  simp only[List.map_cons,List.flatten_cons]
  rw[show (i+1)*sz=(enc q).length+i*sz from by rw[hq,Nat.add_mul,Nat.one_mul];omega,←List.drop_drop,List.drop_left]
  exact BI ps (fun x hx=>hl x (by simp[hx])) i p (by simpa using h)
theorem az.sl{v:Value}{enc:α→List Value}{ps:List α}{L:List (Nat×Obj)}(h:az v sz T enc ps L)(hs:∀x∈L,s.has x.1 x.2):Sl s v sz enc ps:=by
 rcases h with ⟨rfl,rfl,rfl⟩| ⟨b,l,cap,rfl,rfl,h1,h2,h3,h4⟩
 ·exact Sl.nil s sz enc none 0
 ·refine⟨_,b,0,cap,rfl,fun _ _=>rfl,fun i p hp=>⟨l,T,(0,0),hs (b,.cells ⟨l⟩ T (0,0)) (by simp),?_⟩⟩
  have hi:i <ps.length:=by
   rcases Nat.lt_or_ge i ps.length with h|h
   ·exact h
   ·rw[List.getElem?_eq_none h] at hp;cases hp
  have hb:i*sz+sz≤ps.length*sz:=by
   have:=Nat.mul_le_mul_right sz hi
   rw[Nat.succ_mul] at this;exact this
  have fU:ps.length*sz≤cap*sz:=Nat.mul_le_mul_right _ h2
  rw[Nat.zero_add,iv (by omega)]
  have h5:=BI ps h3 i p hp
  rw[←h4,List.drop_take,List.take_take] at h5
  rw[←h5,Nat.min_eq_left (by omega)]
def u6(eN bu:Nat):Prop:=eN≤1048576∧bu≤65536
theorem I8(eN:Nat):∀(r c:Nat),c≤2*eN+768→Builtin.growBy eN r c≤2*eN+768
 |0,c,h=>h
 |r+1,c,h=>by
  simp only[Builtin.growBy]
  split
  ·exact h
  ·exact I8 eN r _ (by omega)
theorem Fb{eN cap:Nat}(h:cap <eN):Builtin.nextslicecap eN cap≤2*eN+768:=by
 simp only[Builtin.nextslicecap]
 split
 ·omega
 ·split
  ·omega
  ·exact I8 eN 4 cap (by omega)
theorem qD:∀(l:List Value) (o:Nat) (vs:List Value),o+vs.length≤l.length→de l o vs=l.take o++vs++l.drop (o+vs.length)
 | [],o,vs,h=>by
  simp only[List.length_nil] at h
  have h0:o=0:=by omega
  have h1:vs=[]:=List.eq_nil_of_length_eq_zero (by omega)
  subst h0;subst h1;rfl
 |x::l,0,[],_=>by simp[de]
 |x::l,o+1,[],_=>by simp[de]
 |x::l,0,v::vs,h=>by
  have:=qD l 0 vs (by simp only[List.length_cons] at h;omega)
  simp[de,this]
 |x::l,o+1,v::vs,h=>by
  have:=qD l o (v::vs) (by simp only[List.length_cons] at h ⊢;omega)
  simp only[de,this,List.take_succ_cons,List.cons_append]
  rw[show o+1+(v::vs).length=(o+(v::vs).length)+1 from by omega,List.drop_succ_cons]
theorem mS{Q:β→St→Prop}{ti:TypeInfo}(h:P.info? t=some ti){k:TypeInfo→Sem β}:bG P (typeInfo t >>= k) s Q E=bG P (k ti) s Q E:=by
 simp only[typeInfo,aa,eI,h,ae]
theorem ZU{Q:β→St→Prop}{q:Question}{k:Nat→Sem β}(hq:q.forced=false)(h:∀n,bG P (k (q.cut n)) s Q E):bG P (choose q >>= k) s Q E:=by
 show (if q.forced=true then _ else _)
 rw[if_neg (by rw[hq];simp)]
 exact h
theorem H8{Q:β→St→Prop}{q:Question}{k:Nat→Sem β}(hq:q.forced=false):bG P (choose q >>= k) s Q E=∀n,bG P (k (q.cut n)) s Q E:=by
 show (if q.forced=true then _ else _)=_
 rw[if_neg (by rw[hq];simp)]
 rfl
theorem rQ{Q:β→St→Prop}{m:Nat}{k:Unit→Sem β}(h:bG P (k ()) s Q E):bG P (askRoom m >>= k) s Q E:=by
 unfold askRoom
 split
 ·exact⟨rfl,h⟩
 ·exact h
section rules
variable {P:Program} {C:Class} {fn:FuncId} {ay:Option Nat} {Q:Post} {s:St} {n:Nat} {env:Env} {D:List Deferred}
variable {ops:Array Oper} {i:Nat} {rest:List Nat} {dst:Option Tmp} {ty:TypeId} {pos:String} {cS:Array Edge} {g:Option (Nat×Bool)}
variable {T:TypeId} {d:TypeDesc} {sz bu:Nat} {z:List Value} {ag:Bool}
theorem tb{Q:β→St→Prop}{v:Value}{enc:α→List Value}{ps:List α}(h:Sl s v sz enc ps){k:Array Value→Sem β}(hk:bG P (k ⟨(ps.map enc).flatten⟩) s Q E):bG P (Builtin.firstCells sz ps.length v >>= k) s Q E:=by
 obtain⟨a,b,o,cap,rfl,ha,hr⟩:=h
 obtain⟨hl,hf⟩:=Sl.flat hr
 cases ps with
 |nil=>
  cases a with
  |none=>simpa [Builtin.firstCells,ae] using hk
  |some a=>
   simp only[Builtin.firstCells,List.length_nil,Nat.zero_mul,loadCells,loadCellsFrom,ae]
   simpa using hk
 |cons p ps=>
  have:=ha 0 (by simp)
  subst this
  simp only[Builtin.firstCells]
  exact Qs (by rw[jR _ hl]) hf hk
theorem NI(hC:∀main T,C main T→Closed P main T){E:TypeId}{v w:Value}{enc:α→List Value}{ps qs:List α}{L pre R:List (Nat×Obj)}{d':TypeDesc}{E2:TypeId}{sz2 Av:Nat}{z2:List Value}{ag2:Bool}{U:TypeId}
 (ho:ops[i]?=some ⟨dst,.call ⟨.builtin .append,#[x,y],#[T,U]⟩,ty,pos,cS,g⟩) (hw:aw ops n env g=true) (tf:TF P T (.slice E) sz bu z ag) (PN:TF P U (.slice E2) sz2 Av z2 ag2) (jC:TF P E d' gQ uD z' wh) (hz:z'.length=gQ)
 (hx:ba n env x=some v) (hy:ba n env y=some w) (j8:az v gQ E enc ps L) (IX:Sl s w gQ enc qs) (hs:s.rw=pre++(L++R)) (hq:∀p∈qs,∀c∈enc p,single c=true) (hb:u6 (ps.length+qs.length) uD)
 (h:∀v' L',az v' gQ E enc (ps++qs) L'→ab C fn ay ops rest Q (A n (upd dst v' env) D) ⟨s.ro,pre++(L'++R)⟩):ab C fn ay ops (i::rest) Q (A n env D) s:=by
 refine bJ hC ho hw (by simp) ?_
 have Sk:∀s s':St,s.le s'→∀a,ab C fn ay ops rest Q a s→ab C fn ay ops rest Q a s':=
  fun s s' hl a ho main T hT b k cs h1 h2 h3 h4=>(hC main T hT).mono _ _ _ hl (ho main T hT b k cs h1 h2 h3 h4)
 obtain⟨hql,_⟩:=(show (∀p∈qs,(enc p).length=gQ)∧True from by
  obtain⟨a,b,o,cap,rfl,ha,hr⟩:=IX
  exact⟨(Sl.flat hr).1,trivial⟩)
 have sw:((qs.map enc).flatten).length=qs.length*gQ:=jR qs hql
 have I2:∀ahY,ahY <ps.length+qs.length→¬(Builtin.nextslicecap (ps.length+qs.length) ahY*uD>2^48):=by
  intro ahY cz
  have h1:=Fb cz
  obtain⟨h2,h3⟩:=hb
  have h4:Builtin.nextslicecap (ps.length+qs.length) ahY≤2097920:=by omega
  have h5:=Nat.mul_le_mul h4 h3
  have:(2097920*65536:Nat)≤2^48:=by decide
  omega
 have hlen:∀w',Sl s w' gQ enc qs→∃a cap,w'= .slice a qs.length cap:=by
  rintro w' ⟨a,b,o,cap,rfl,_,_⟩;exact⟨a,cap,rfl⟩
 obtain⟨wa,aYu,hwe⟩:=hlen w IX
 simp only[execOp,resolve,invoke,builtin,Builtin.append_,List.map_toArray,List.map_cons,List.map_nil,aC hx,aC hy,ae,aa,List.getElem?_toArray,List.getElem?_cons_zero,List.getElem?_cons_succ,aW tf]
 have hv:∃a cap,v= .slice a ps.length cap:=by
  rcases j8 with ⟨rfl,rfl,_⟩| ⟨b,l,cap,rfl,_⟩
  ·exact⟨_,_,rfl⟩
  ·exact⟨_,_,rfl⟩
 obtain⟨va,uP,hve⟩:=hv
 have zv:∀ {β:Type} (k:Nat→Sem β) (Q:β→St→Prop) (E:Halt→St→Prop),bG P (Builtin.lenOf w >>= k) s Q E=bG P (k qs.length) s Q E:=by
  intro β k Q E;rw[hwe];rfl
 simp only[hve,aa,bW jC,aW PN,ae,Bool.false_eq_true,if_false,Bool.not_false,if_true,zv]
 obtain⟨ti,dI,aNr,KH,_⟩:=jC.info
 by_cases fE:ps.length+qs.length≤uP
 ·rw[if_pos fE]
  simp only[aa]
  refine tb IX ?_
  rcases j8 with ⟨hv0,rfl,rfl⟩| ⟨b,l,cap,hv1,rfl,h1,h2,h3,h4⟩
  ·rw[hv0] at hve
   cases hve
   have Va:qs=[]:=List.eq_nil_of_length_eq_zero (by simp only[List.length_nil] at fE;omega)
   subst Va
   simp only[ae]
   have:=h (.slice none 0 0) [] (az.nil gQ E enc)
   rw[←aU] at this
   rcases s with ⟨ro,Hp⟩
   simp only at hs
   subst hs
   exact this
  ·rw[hv1] at hve
   cases hve
   simp only[aa,dG,Nat.zero_add]
   have oP:ps.length*gQ+((qs.map enc).flatten).length≤l.length:=by
    rw[sw,h1,←Nat.add_mul];exact Nat.mul_le_mul_right _ fE
   refine lZ (L:=pre) (R:=R) ((qs.map enc).flatten) 0 l s (by rw[hs];rfl) (by omega) (fun c hc=>?_) ?_
   ·obtain⟨e,he,hce⟩:=List.mem_flatten.1 hc
    obtain⟨p,hp,rfl⟩:=List.mem_map.1 he
    exact hq p hp c hce
   ·have:=h (.slice (some ⟨b,0,none⟩) (ps++qs).length uP) [(b,.cells ⟨de l (ps.length*gQ) ((qs.map enc).flatten)⟩ E (0,0))]
     (.inr ⟨b,_,uP,rfl,rfl,by rw[kP,h1],by simpa using fE,fun p hp=>(List.mem_append.1 hp).elim (h3 p) (hql p),by
      rw[qD _ _ _ oP,List.length_append,Nat.add_mul,List.append_assoc]
      rw[List.map_append,List.flatten_append,←h4]
      rw[show ps.length*gQ+qs.length*gQ=(l.take (ps.length*gQ)).length+qs.length*gQ from by rw[List.length_take];omega]
      rw[List.take_append,List.take_of_length_le (by omega)]
      congr 1
      rw[show (l.take (ps.length*gQ)).length+qs.length*gQ-(l.take (ps.length*gQ)).length=((qs.map enc).flatten).length from by rw[sw];omega,List.take_left]⟩)
    rw[←aU] at this
    simp only[ae,Nat.add_zero]
    rw[List.length_append] at this
    exact this
 ·rw[if_neg fE]
  have cz:uP <ps.length+qs.length:=by omega
  have aq1:¬(((ps.length+qs.length:Nat):Int)>IntKind.i64.max):=by
   have:IntKind.i64.max=9223372036854775807:=by decide
   obtain⟨h2,_⟩:=hb
   rw[this];omega
  have hc:=I2 uP cz
  simp only[aa,mS dI,aq1,false_and,if_false]
  rw[KH,if_neg hc]
  simp only[aa]
  rw[H8 rfl]
  intro tp
  generalize nV:Question.cut (.appendCap (ps.length+qs.length) uP E) tp=fK
  have OB:ps.length+qs.length≤fK:=by rw[←nV];simp[Question.cut]
  simp only[aa]
  rw[mS dI]
  simp only[aa]
  refine rQ ?_
  simp only[aa]
  have hold:Sl s (.slice va ps.length uP) gQ enc ps:=by
   rw[←hve]
   refine j8.sl fun x hx=> .inr ?_
   rw[hs];simp[hx]
  refine tb hold ?_
  simp only[aa]
  refine tb IX ?_
  simp only[aa,jK jC,dR jC,Builtin.zeroCells]
  have Hz:((Array.range ((fK-(ps.length+qs.length))*(⟨z'⟩:Array Value).size)).map fun i=>(⟨z'⟩:Array Value)[i % (⟨z'⟩:Array Value).size]!)=⟨cM z' (fK-(ps.length+qs.length))⟩:=rJ z' _
  rw[Hz]
  simp only[iM,ae]
  intro b' lU
  have PY:∀p∈ps,(enc p).length=gQ:=by
   rcases j8 with ⟨_,rfl,_⟩| ⟨_,_,_,_,_,_,_,h3,_⟩
   ·intro p hp;cases hp
   ·exact h3
  have hol:=jR ps PY
  have ay9:az (.slice (some ⟨b',0,none⟩) (ps++qs).length fK) gQ E enc (ps++qs) [(b',.cells ⟨(ps.map enc).flatten++(qs.map enc).flatten++cM z' (fK-(ps.length+qs.length))⟩ E (0,0))]:=
   .inr ⟨b',_,fK,rfl,rfl,by
    simp only[List.length_append,hol,sw,iz,hz,←Nat.add_mul]
    congr 1;omega,by simpa using OB,fun p hp=>(List.mem_append.1 hp).elim (PY p) (hql p),by
    rw[List.map_append,List.flatten_append,List.length_append,Nat.add_mul,←hol,←sw,←List.length_append,List.take_left]⟩
  have:=h _ _ ay9
  rw[←aU,List.length_append] at this
  have arZ:((⟨(ps.map enc).flatten⟩:Array Value)++⟨(qs.map enc).flatten⟩++⟨cM z' (fK-(ps.length+qs.length))⟩)=⟨(ps.map enc).flatten++(qs.map enc).flatten++cM z' (fK-(ps.length+qs.length))⟩:=by simp
  rw[arZ]
  refine Sk ⟨s.ro,pre++([(b',.cells ⟨(ps.map enc).flatten++(qs.map enc).flatten++cM z' (fK-(ps.length+qs.length))⟩ E (0,0))]++R)⟩ _ ?_ _ ?_
  ·refine⟨L,?_,fun _ _ h=> .inl h⟩
   rw[hs]
   rw[List.append_assoc pre,List.append_assoc [_] R L]
   simp only[List.cons_append,List.nil_append]
   refine List.Perm.trans ?_ List.perm_middle.symm
   refine List.Perm.cons _ ?_
   refine List.Perm.append_left pre ?_
   exact List.perm_append_comm
  ·simpa using this
end rules
section rules
variable {P:Program} {C:Class} {fn:FuncId} {ay:Option Nat} {Q:Post} {s:St} {n:Nat} {env:Env} {D:List Deferred}
variable {ops:Array Oper} {i:Nat} {rest:List Nat} {dst:Option Tmp} {ty:TypeId} {pos:String} {cS:Array Edge} {g:Option (Nat×Bool)}
variable {T:TypeId} {d:TypeDesc} {sz bu:Nat} {z:List Value} {ag:Bool}
def EqV(P:Program)(t:TypeId)(x y:Value)(r:Bool):Prop:=
 ∀(s:St) (k:Bool→Sem Next) (Q:Next→St→Prop) (E:Halt→St→Prop),bG P (Op.equal t x y >>= k) s Q E=bG P (k r) s Q E
def nH(P:Program)(t:TypeId):Prop:=P.eqGuardType P.depth t=false
theorem aiz(hC:∀main T,C main T→Closed P main T){m:List Value}(ho:ops[i]?=some ⟨dst,.binOp .eql T x y T',ty,pos,cS,g⟩) (hw:aw ops n env g=true)
 (hx:ba n env x=some (.agg ⟨l⟩)) (hy:ba n env y=some (.agg ⟨m⟩)) (hg:nH P T) (he:EqV P T (.agg ⟨l⟩) (.agg ⟨m⟩) r) (h:ab C fn ay ops rest Q (A n (upd dst (.bool r) env) D) s):ab C fn ay ops (i::rest) Q (A n env D) s:=by
 refine bJ hC ho hw (by simp) ?_
 have hg':P.eqGuardType P.depth T=false:=hg
 simp only[execOp,aC hx,aC hy,eqGuard,Bool.not_true,Bool.false_eq_true,if_false,aa,eI,hg',Bool.not_false,if_true,ae,binOp]
 rw[he]
 rw[←aU] at h
 exact h
theorem aa7(hC:∀main T,C main T→Closed P main T){m:List Value}(ho:ops[i]?=some ⟨dst,.binOp .neq T x y T',ty,pos,cS,g⟩) (hw:aw ops n env g=true)
 (hx:ba n env x=some (.agg ⟨l⟩)) (hy:ba n env y=some (.agg ⟨m⟩)) (hg:nH P T) (he:EqV P T (.agg ⟨l⟩) (.agg ⟨m⟩) r) (h:ab C fn ay ops rest Q (A n (upd dst (.bool !r) env) D) s):ab C fn ay ops (i::rest) Q (A n env D) s:=by
 refine bJ hC ho hw (by simp) ?_
 have hg':P.eqGuardType P.depth T=false:=hg
 simp only[execOp,aC hx,aC hy,eqGuard,Bool.not_true,Bool.false_eq_true,if_false,aa,eI,hg',Bool.not_false,if_true,ae,binOp]
 rw[he]
 rw[←aU] at h
 exact h
def YH(P:Program)(dep:Nat)(t:TypeId)(x y:Value)(r:Bool):Prop:=
 ∀(α:Type) (s:St) (k:Bool→Sem α) (Q:α→St→Prop) (E:Halt→St→Prop),bG P (Op.equalIn dep t x y >>= k) s Q E=bG P (k r) s Q E
theorem nF{k:IntKind}(tf:TF P t (.int k) sz bu z ag)(a b:Int):YH P (dep+1) t (.int k a) (.int k b) (a==b):=by
 intro α s kk Q E
 simp only[Op.equalIn,aa,aW tf,if_true,ae]
theorem JD{d:TypeDesc}(tf:TF P t d sz bu z false){v:Value}(hv:nth l o=some v){k:Value→Sem α}{Q:α→St→Prop}:bG P (part t ⟨l⟩ o >>= k) s Q E=bG P (k v) s Q E:=by
 rw[rj] at hv
 simp only[part,aa,jW tf,Bool.false_eq_true,if_false,List.getElem?_toArray]
 rw[hv]
 simp only[ae]
theorem JC{d:TypeDesc}(tf:TF P t d sz bu z true){m:List Value}(hv:sub l o sz=some m){k:Value→Sem α}{Q:α→St→Prop}:bG P (part t ⟨l⟩ o >>= k) s Q E=bG P (k (.agg ⟨m⟩)) s Q E:=by
 obtain⟨h1,h2⟩:=sub_eq _ _ _ _ hv
 simp only[part,aa,jW tf,if_true,bW tf,ae]
 have:(⟨l⟩:Array Value).extract o (o+sz)=⟨m⟩:=by
  apply Array.ext'
  simp only[Array.toList_extract,List.extract_eq_take_drop]
  apply List.ext_getElem?
  intro j
  rw[List.getElem?_take]
  split
  ·rename_i hj
   rw[List.getElem?_drop]
   have Vl:j <m.length:=by omega
   have h3:=h2 j m[j] (by simp[Vl])
   rw[h3];simp[Vl]
  ·rename_i hj
   rw[List.getElem?_eq_none (by omega)]
 rw[this]
def GY(P:Program)(t:TypeId)(l:List Value)(o:Nat)(v:Value):Prop:=
 ∀(α:Type) (s:St) (k:Value→Sem α) (Q:α→St→Prop) (E:Halt→St→Prop),bG P (part t ⟨l⟩ o >>= k) s Q E=bG P (k v) s Q E
theorem jO{d:TypeDesc}(tf:TF P t d sz bu z false){v:Value}(hv:nth l o=some v):GY P t l o v:=fun _ _ _ _ _=>JD tf hv
theorem E1{d:TypeDesc}(tf:TF P t d sz bu z true){m:List Value}(hv:sub l o sz=some m):GY P t l o (.agg ⟨m⟩):=fun _ _ _ _ _=>JC tf hv
inductive AE(P:Program)(dep:Nat)(l m:List Value):List Field→Bool→Prop
 |nil:AE P dep l m [] true
 |cons {f:Field} {fs:List Field} {v w:Value} {r r':Bool} (hn:f.name≠ "_") (hv:GY P f.type l f.offset v) (hw:GY P f.type m f.offset w) (he:YH P dep f.type v w r) (ht:AE P dep l m fs r'):AE P dep l m (f::fs) (r&&r')
theorem tR{fields:Array Field}{m:List Value}(tf:TF P t (.struct fields) sz bu z true)(hs:P.stoodInHeld t=false)(hf:AE P dep l m fields.toList r):YH P (dep+1) t (.agg ⟨l⟩) (.agg ⟨m⟩) r:=by
 intro α s k Q E
 simp only[Op.equalIn,aa,aW tf,eI,hs,Bool.false_eq_true,if_false]
 rw[←Array.forIn_toList]
 generalize fields.toList=fl at hf
 clear tf
 induction hf with
 |nil=>simp only[List.forIn_nil,ae,aa,Bool.and_true]
 | @cons f fs v w r r' hn hv hw he ht ih=>
  simp only[List.forIn_cons,hn,ne_eq,not_false_eq_true,if_true,aa]
  rw[hv]
  simp only[aa]
  rw[hw]
  simp only[aa]
  rw[he]
  cases r with
  |false=>simp only[Bool.not_false,if_true,ae,aa,Bool.false_and]
  |true=>
   simp only[Bool.not_true,Bool.false_eq_true,if_false,ae,Bool.true_and]
   exact ih
theorem Lf{x y:Value}(h:YH P 10000 t x y r):EqV P t x y r:=fun s k Q E=>h Go.Next s k Q E
end rules
section rules
variable {P:Program} {C:Class} {fn:FuncId} {ay:Option Nat} {Q:Post} {s:St} {n:Nat} {env:Env} {D:List Deferred}
variable {ops:Array Oper} {i:Nat} {rest:List Nat} {dst:Option Tmp} {ty:TypeId} {pos:String} {cS:Array Edge} {g:Option (Nat×Bool)}
variable {T:TypeId} {d:TypeDesc} {sz bu:Nat} {z:List Value} {ag:Bool}
def uf:List Value→Value
 | [x]=>x
 |l=> .tuple ⟨l⟩
inductive Dz(P:Program)(s:St)(n:Nat)(env:Env):List ResultVar→List Value→Prop
 |nil:Dz P s n env [] []
 |tmp {t:Tmp} {v:Value} {rs:List ResultVar} {vs:List Value} (h:ba n env (.tmp t)=some v) (hr:Dz P s n env rs vs):Dz P s n env (.tmp t::rs) (v::vs)
 |agg {t:Tmp} {T:TypeId} {d:TypeDesc} {sz bu:Nat} {z l:List Value} {b o:Nat} {rs:List ResultVar} {vs:List Value} (tf:TF P T d sz bu z true) (h:ba n env (.tmp t)=some (.pointer (some ⟨b,o,none⟩))) (hl:cg s b o sz l) (hr:Dz P s n env rs vs):Dz P s n env (.cell t T::rs) (.agg ⟨l⟩::vs)
 |cell {t:Tmp} {T:TypeId} {d:TypeDesc} {sz bu:Nat} {z:List Value} {v:Value} {b o:Nat} {rs:List ResultVar} {vs:List Value} (tf:TF P T d sz bu z false) (h:ba n env (.tmp t)=some (.pointer (some ⟨b,o,none⟩))) (hl:Reads s b o v) (hr:Dz P s n env rs vs):Dz P s n env (.cell t T::rs) (v::vs)
theorem Eu:∀ {rs:List ResultVar} {vs:List Value} (_:Dz P s n env rs vs) {k:List Value→Sem α} {Q:α→St→Prop} {E:Halt→St→Prop},bG P (k vs) s Q E→
 bG P (rs.mapM (fun| .tmp t=>pure ((A n env D).tmps.getD t undef)| .cell a t=>do loadVar t (←asAddr ((A n env D).tmps.getD a undef))) >>= k) s Q E
 |_,_,.nil,k,Q,E,h=>by simpa only[List.mapM_nil,ae] using h
 |_,_,.tmp (t:=t) (v:=v) h hr,k,Q,E,hk=>by
  have hv:(A n env D).tmps.getD t undef=v:=by have:=oR (D:=D) h;rwa[←Array.getD_eq_getD_getElem?] at this
  simp only[List.mapM_cons,aa,ae,hv]
  exact Eu hr hk
 |_,_,.agg (t:=t) (l:=l) (b:=b) (o:=o) tf h hl hr,k,Q,E,hk=>by
  have hv:(A n env D).tmps.getD t undef= .pointer (some ⟨b,o,none⟩):=by have:=oR (D:=D) h;rwa[←Array.getD_eq_getD_getElem?] at this
  simp only[List.mapM_cons,aa,ae,hv,asAddr,loadVar,jW tf,if_true,bW tf]
  refine iu hl ?_
  try simp only[aa,ae]
  exact Eu hr hk
 |_,_,.cell (t:=t) (v:=v) (b:=b) (o:=o) tf h hl hr,k,Q,E,hk=>by
  have hv:(A n env D).tmps.getD t undef= .pointer (some ⟨b,o,none⟩):=by have:=oR (D:=D) h;rwa[←Array.getD_eq_getD_getElem?] at this
  simp only[List.mapM_cons,aa,ae,hv,asAddr,loadVar,jW tf,Bool.false_eq_true,if_false]
  refine uU hl ?_
  try simp only[aa,ae]
  exact Eu hr hk
theorem M9{fn:Func}{R:Ending→St→Prop}{e:Exit}{s0:St}{vs:List Value}{v:Value}(he:e= .ret∨e= .normal)(hr:Dz P s n env fn.results.toList vs)(hv:uf vs=v)(hl:s0.le s)(h:R (.returned v) s0):qR P fn R e (A n env []) s:=by
 refine vY he rfl ?_
 unfold results
 rw[Array.mapM_eq_mapM_toList]
 simp only[map_eq_pure_bind,aa,ae]
 refine Eu (D:=[]) hr ?_
 refine⟨s0,hl,?_⟩
 subst hv
 have:(if h:(⟨vs⟩:Array Value).size=1 then (⟨vs⟩:Array Value)[0] else .tuple ⟨vs⟩)=uf vs:=by
  match vs with
  | []=>rfl
  | [x]=>rfl
  |x::y::l=>simp[uf]
 rw[←this] at h
 exact h
theorem axy(hC:∀main T,C main T→Closed P main T){k:IntKind}{a b:Int}(ho:ops[i]?=some ⟨dst,.binOp .rem T x y T',ty,pos,cS,g⟩) (hw:aw ops n env g=true)
 (hx:ba n env x=some (.int k a)) (hy:ba n env y=some (.int k b)) (hb:b≠0) (h:ab C fn ay ops rest Q (A n (upd dst (.int k (a.tmod b)) env) D) s):ab C fn ay ops (i::rest) Q (A n env D) s:=
 NF hC ho hw hx hy (v:= .int k (a.tmod b)) (by
  show (if (k≠k) then _ else _)=_
  rw[if_neg (by simp)]
  show Op.intDiv .rem k a b=_
  simp only[Op.intDiv,hb,if_false];rfl) h
end rules
abbrev aR:=Nat→Option (Nat×Nat)
def sL:Nat:=18446744073709551616
def n7:Nat:=36893488147419103232
def zd:Go.Fn→Bool
 | .yield _=>false
 |_=>true
mutual
inductive VR (ρ:aR):Value→Value→Prop
 |bool (b:Bool):VR ρ (.bool b) (.bool b)
 |int (k:IntKind) (n:Int):VR ρ (.int k n) (.int k n)
 |string (b:ByteArray):VR ρ (.string b) (.string b)
 |Ra:VR ρ (.pointer none) (.pointer none)
 |ptr (i b c o:Nat):ρ i=some (b,c)→VR ρ (.pointer (some ⟨i,o,none⟩)) (.pointer (some ⟨b,o,none⟩))
 |py (l c:Nat):VR ρ (.slice none l c) (.slice none l c)
 |slice (i b c o l k:Nat):ρ i=some (b,c)→k≤sL→VR ρ (.slice (some ⟨i,o,none⟩) l k) (.slice (some ⟨b,o,none⟩) l k)
 |gu (i b c o l k:Nat):ρ i=some (b,c)→sL <k→k≤n7→l+(n7-k)≤c→VR ρ (.slice (some ⟨i,o,none⟩) l k) (.slice (some ⟨b,o,none⟩) l (c-(n7-k)))
 |Ro:VR ρ (.map none) (.map none)
 |map (i b c:Nat):ρ i=some (b,c)→VR ρ (.map (some i)) (.map (some b))
 |GD:VR ρ (.chan none) (.chan none)
 |chan (i b c:Nat):ρ i=some (b,c)→VR ρ (.chan (some i)) (.chan (some b))
 |func (f:Go.Fn) (x y x' y':List Value):zd f=true→jv ρ x x'→jv ρ y y'→VR ρ (.func f ⟨x⟩ ⟨y⟩) (.func f ⟨x'⟩ ⟨y'⟩)
 |yield (i b c:Nat):ρ i=some (b,c)→VR ρ (.func (.yield i) #[] #[]) (.func (.yield b) #[] #[])
 |nilFunc:VR ρ .nilFunc .nilFunc
 |iface (t:TypeId) (v v':Value):VR ρ v v'→VR ρ (.iface t v) (.iface t v')
 |nilIface:VR ρ .nilIface .nilIface
 |agg (l l':List Value):jv ρ l l'→VR ρ (.agg ⟨l⟩) (.agg ⟨l'⟩)
 |tuple (l l':List Value):jv ρ l l'→VR ρ (.tuple ⟨l⟩) (.tuple ⟨l'⟩)
inductive jv (ρ:aR):List Value→List Value→Prop
 |nil:jv ρ [] []
 |cons (v v':Value) (l l':List Value):VR ρ v v'→jv ρ l l'→jv ρ (v::l) (v'::l')
end
def flatAll(f:Value→Bool):List Value→Bool
 | []=>true
 |v::l=>f v&&flatAll f l
def mN:Nat→Value→Bool
 |0,_=>false
 |_+1,.bool _|_+1,.int _ _|_+1,.string _|_+1,.pointer none|_+1,.slice none _ _|_+1,.map none|_+1,.chan none|_+1,.nilFunc|_+1,.nilIface=>true
 |n+1,.func f x y=>zd f&&(flatAll (mN n) x.toList&&flatAll (mN n) y.toList)
 |n+1,.iface _ v=>mN n v
 |n+1,.agg l=>flatAll (mN n) l.toList
 |n+1,.tuple l=>flatAll (mN n) l.toList
 |_,_=>false
def flat(v:Value):Bool:=mN 12 v
inductive Tr(α:Type) where
 |nil
 |node (v:Option α) (l r:Tr α)
theorem beq_false{a:Nat}(h:a≠b):Nat.beq a b=false:=by
 cases hb:Nat.beq a b with
 |false=>rfl
 |true=>exact absurd (Nat.eq_of_beq_eq_true hb) h
structure cm where
 key:Value
 val:Value
 born:Nat
inductive jU where
 |cells (l:List Value) (t:TypeId)
 |map (es:List cm) (clock:Nat)
 |fJ (s:ByteArray) (pos:Nat)
 |mapIter (m:Option Nat) (since:Nat) (seen:List Nat) (y4:Nat)
 |loop (st:LoopState) (pend:Option Code) (fn n:Nat) (env:Env) (params:Array Tmp) (assign body:Code) (defers:Nat)
 |defer (taken:Bool)
 |GR (es:List cm)
structure CB where
 ro:Bool
 o:jU
structure Mem where
 t:Tr CB
 next:Nat
def cF(n:Nat)(ce:Env):Operand→Option Value
 | .tmp t=>bif Nat.blt t n then gF ce t else none
 | .const v=>bif flat v then some v else none
 | .global _=>none
 | .func f=>some (.func (.func f) #[] #[])
def tQ(n:Nat)(ce:Env):List Operand→Option (List Value)
 | []=>some []
 |x::l=>match cF n ce x with
  |some v=>match tQ n ce l with
   |some r=>some (v::r)
   |none=>none
  |none=>none
theorem aeL{t:Nat}{v:Value}(h:gF e t=some v):gF (e++rest) t=some v:=by
 induction e with
 |nil=>cases h
 |cons x e ih=>
  rcases x with ⟨k,u⟩
  simp only[gF,List.cons_append] at h ⊢
  cases hb:Nat.beq k t with
  |true=>rw[hb] at h;exact h
  |false=>rw[hb] at h;exact ih h
theorem aY{v:Value}(h:ba n e x=some v):ba n (e++rest) x=some v:=by
 cases x with
 |tmp t=>
  simp only[ba] at h ⊢
  cases hb:Nat.blt t n with
  |true=>rw[hb] at h;exact aeL h
  |false=>rw[hb] at h;cases h
 |_=>exact h
theorem wK:∀ {xs:List Operand} {vs:List Value},xq n e xs=some vs→xq n (e++rest) xs=some vs
 | [],vs,h=>h
 |x::xs,vs,h=>by
  simp only[xq] at h ⊢
  cases hx:ba n e x with
  |none=>rw[hx] at h;cases h
  |some v=>
   rw[hx] at h
   cases hr:xq n e xs with
   |none=>rw[hr] at h;cases h
   |some r=>rw[hr] at h;rw[aY hx,wK hr];exact h
structure TI where
 d:TypeDesc
 size:Nat
 zero:List Value
 agg:Bool
def Kz:TypeDesc→Bool
 | .struct _| .array _ _=>true
 |_=>false
def Eh:Bool→Value→Option (List Value)
 |true,.agg ⟨l⟩=>some l
 |true,_=>none
 |false,.agg _=>none
 |false,v=>some [v]
def aV(P:Program)(t:TypeId):Option TI:=
 match P.underlying t with
 |some d=>match P.info? t with
  |some i=>match i.zero with
   |some z=>match Eh (Kz d) z with
    |some l=>some ⟨d,i.size,l,Kz d⟩
    |none=>none
   |none=>none
  |none=>none
 |none=>none
theorem ar{x:TI}(h:aV P t=some x):∃bu,TF P t x.d x.size bu x.zero x.agg:=by
 unfold aV at h
 split at h<;>try (cases h;done)
 rename_i d hd
 split at h<;>try (cases h;done)
 rename_i i hi
 split at h<;>try (cases h;done)
 rename_i z hz
 split at h<;>try (cases h;done)
 rename_i l hl
 cases h
 refine⟨i.bytes,hd,⟨i,hi,rfl,rfl,z,hz,?_,?_⟩,?_⟩
 ·revert hl
  simp only
  cases hb:Kz d
  ·intro hl;cases z<;>simp_all[Eh,Value.cells]
  ·intro hl;cases z<;>simp_all[Eh,Value.cells]
   cases hl;rfl
 ·revert hl
  simp only
  cases hb:Kz d
  ·intro hl;cases z<;>simp_all[Eh]<;>subst hl<;>rfl
  ·intro hl;cases z<;>simp_all[Eh]
   cases hl;rfl
 ·cases d<;>rfl
def bk(P:Program):Sem α→Option α
 | .pure a=>some a
 | .program k=>bk P (k P)
 |_=>none
theorem nM:∀ {x:Sem α} {a:α},bk P x=some a→∀ {s:St} {Q:α→St→Prop} {E:Halt→St→Prop},Q a s→bG P x s Q E
 | .pure _,_,h,_,_,_,hq=>by simp only[bk,Option.some.injEq] at h;subst h;exact hq
 | .program k,_,h,_,_,_,hq=>nM (x:=k P) h hq
 | .load ..,_,h,_,_,_,_=>by cases h
 | .store ..,_,h,_,_,_,_=>by cases h
 | .new ..,_,h,_,_,_,_=>by cases h
 | .shape ..,_,h,_,_,_,_=>by cases h
 | .freeze ..,_,h,_,_,_,_=>by cases h
 | .frozen ..,_,h,_,_,_,_=>by cases h
 | .getObj ..,_,h,_,_,_,_=>by cases h
 | .setObj ..,_,h,_,_,_,_=>by cases h
 | .choose ..,_,h,_,_,_,_=>by cases h
 | .sys ..,_,h,_,_,_,_=>by cases h
 | .mark ..,_,h,_,_,_,_=>by cases h
 | .halt ..,_,h,_,_,_,_=>by cases h
theorem aT{x:Sem α}{a:α}{k:α→Sem β}{Q:β→St→Prop}(h:bk P x=some a)(hk:bG P (k a) s Q E):bG P (x >>= k) s Q E:=
 MG x k s Q E (nM h hk)
def Ev(n:Nat)(e:Env)(f:Operand→Value):Prop:=∀x v,ba n e x=some v→f x=v
theorem Ev.list(h:Ev n e f):∀ {xs:List Operand} {vs:List Value},xq n e xs=some vs→xs.map f=vs
 | [],vs,hx=>by simpa [xq] using hx
 |x::xs,vs,hx=>by
  simp only[xq] at hx
  cases h1:ba n e x with
  |none=>rw[h1] at hx;cases hx
  |some v=>
   rw[h1] at hx
   cases h2:xq n e xs with
   |none=>rw[h2] at hx;cases hx
   |some r=>rw[h2] at hx;simp only[Option.some.injEq] at hx;subst hx;simp[h _ _ h1,Ev.list h h2]
theorem Ev.arr(h:Ev n e f){xs:Array Operand}(hx:xq n e xs.toList=some vs):xs.map f=⟨vs⟩:=by
 have:=h.list hx
 rcases xs with ⟨xs⟩
 simpa using this
def Yields(P:Program)(n:Nat)(e:Env)(o:Oper)(s:St)(v:Value):Prop:=
 ∀s',Ext s s'→∀f,Ev n e f→∀(K:Next→St→Prop) (E:Halt→St→Prop),K (.value v) s'→bG P (execOp f o) s' K E
def EX:Op→Option (List Operand)
 | .binOp _ _ x y _=>some [x,y]
 | .unOp _ _ x=>some [x]
 | .convert _ _ x=>some [x]
 | .index _ x y=>some [x,y]
 | .field _ x _=>some [x]
 | .slice _ x none none none=>some [x]
 | .slice _ x (some a) none none=>some [x,a]
 | .slice _ x none (some a) none=>some [x,a]
 | .slice _ x (some a) (some b) none=>some [x,a,b]
 | .call ⟨.builtin .min,xs,_⟩=>some xs.toList
 | .call ⟨.builtin .max,xs,_⟩=>some xs.toList
 | .typeAssert x _ _ _=>some [x]
 |_=>none
theorem tt{o:Oper}{xs:List Operand}(h:EX o.op=some xs){f g:Operand→Value}(hfg:∀x∈xs,f x=g x):execOp f o=execOp g o:=by
  unfold EX at h
  split at h<;>try (cases h;done)
  all_goals (rename_i heq;simp only[Option.some.injEq] at h;subst h)
  all_goals first
    | (simp[execOp,heq,hfg];done)
    | (simp only[execOp,heq,resolve]
       rename_i xs at_
       have:xs.map f=xs.map g:=by
         apply Array.map_congr_left
         intro a ha;exact hfg a (by simpa using ha)
       rw[this])
theorem Ev.parts(hf:Ev n e f):∀ {xs:List (Nat×Operand)} {l:List (Nat×Value)},Mo n e xs=some l→xs.map (fun x=>(x.1,f x.2))=l
 | [],l,h=>by simpa [Mo] using h
 | (i,x)::xs,l,h=>by
  simp only[Mo] at h
  cases hx:ba n e x with
  |none=>rw[hx] at h;cases h
  |some v=>
   rw[hx] at h
   cases hr:Mo n e xs with
   |none=>rw[hr] at h;cases h
   |some r=>rw[hr] at h;simp only[Option.some.injEq] at h;subst h;simp[hf _ _ hx,Ev.parts hf hr]
theorem Ev.u3(hf:Ev n e f){ps:Array (Nat×Operand)}{l:List (Nat×Value)}(h:Mo n e ps.toList=some l):(ps.map fun x=>(x.1,f x.2)).toList=l:=by
 rw[Array.toList_map];exact hf.parts h
def wB(P:Program):List Field→Option (List (Nat×Nat))
 | []=>some []
 |f::fs=>match aV P f.type with
  |some ti=>match wB P fs with
   |some r=>some ((f.offset,ti.size)::r)
   |none=>none
  |none=>none
theorem xZ:∀ {fs:List Field} {pl:List (Nat×Nat)},wB P fs=some pl→B2 P fs pl
 | [],pl,h=>by simp only[wB,Option.some.injEq] at h;subst h;exact .nil
 |f::fs,pl,h=>by
  simp only[wB] at h
  split at h<;>try (cases h;done)
  rename_i ti dI
  split at h<;>try (cases h;done)
  rename_i r hr
  simp only[Option.some.injEq] at h;subst h
  obtain⟨bu,tf⟩:=ar dI
  exact .cons tf (xZ hr)
def s8(P:Program)(t:TypeId):Nat:=match P.info? t with|some i=>i.bytes|none=>1000000
theorem cq{r:Nat}{o:Obj}{k:Obj→Sem α}{Q:α→St→Prop}(h:s.has r o)(h1:Obj.wG o=false)(h2:o.isChan=false)(hk:bG P (k o) s Q E):bG P (getObj r >>= k) s Q E:=⟨o,h,h1,h2,hk⟩
theorem dX{r:Nat}{o o':Obj}{L R:List (Nat×Obj)}{k:Unit→Sem α}{Q:α→St→Prop}(h2:o.isChan=false)(hs:s.rw=L++(r,o')::R)(h1:Obj.wG o'=false)(hk:bG P (k ()) ⟨s.ro,L++(r,o)::R⟩ Q E):bG P (setObj r o >>= k) s Q E:=⟨h2,L,o',R,hs,h1,hk⟩
def dZ:Op→Bool
 | .defer _=>false
 |_=>true
theorem nQ{op:Op}(h:dZ op=true):∀c,op≠ .defer c:=by
 intro c e;subst e;cases h
section ops
variable {P:Program} {C:Class} {fn:FuncId} {ay:Option Nat} {Q:Post} {s:St} {n:Nat} {D:List Deferred} {ops:Array Oper} {i:Nat} {todo:List Nat} {ρ:aR} {ce e:Env} {o:Oper} {v:Value} {m m':Mem} {F:Nat×Obj→Prop} {R:Nat→Option Obj}
theorem Ev.E8(rest:Env):Ev n e (ev n (e++rest)):=fun _ _ h=>aC (aY h)
theorem lg(hC:∀main T,C main T→Closed P main T)(ho:ops[i]?=some o) (rest:Env) (hw:aw ops n (e++rest) o.guard=true) (hd:dZ o.op=true) (hy:Yields P n e o s v) (hx:Ext s s') (hk:ab C fn ay ops todo Q (A n (upd o.dst v (e++rest)) D) s'):
 ab C fn ay ops (i::todo) Q (A n (e++rest) D) s':=by
 refine bJ hC ho hw (nQ hd) (hy s' hx _ (Ev.E8 rest) _ _ ?_)
 show ab _ _ _ _ _ _ _ _
 rw[aU];exact hk
end ops
inductive CR where
 |ret (v:Value)
 |panic (v:Value)
inductive Tgt where
 |fn (f:FuncId)
 |yield (l:Nat)
abbrev bU:=Tgt→List Value→Mem→Option (CR×Mem)
def AR(P:Program)(f:FuncId):Bool:=
 match P.funcs[f]? with
 |some fn=> !(fn.name== "runtime.NumGoroutine")&& !fn.body.isNone
 |none=>false
theorem kG{f:FuncId}(h:AR P f=true):FF P f:=by
 unfold AR at h
 split at h
 ·rename_i fn uA
  simp only[Bool.and_eq_true,Bool.not_eq_true'] at h
  exact⟨fn,uA,h.1,h.2⟩
 ·cases h
def target(P:Program)(n:Nat)(ce:Env):Op→Option (Tgt×List Value)
 | .call ⟨.value x,xs,_⟩=>match cF n ce x with
  |some (.func (.func f) ⟨fi⟩ ⟨ca⟩)=>match tQ n ce xs.toList with
   |some vs=>bif AR P f then some (.fn f,fi++vs++ca) else none
   |none=>none
  |some (.func (.yield l) ⟨[]⟩ ⟨[]⟩)=>match tQ n ce xs.toList with
   |some vs=>some (.yield l,vs)
   |none=>none
  |_=>none
 | .call ⟨.invoke x name,xs,_⟩=>match cF n ce x with
  |some (.iface t v)=>bif flat v then (match bk P (method (P.types.size+Made.depth) t v name) with
   |some (f,r)=>match tQ n ce xs.toList with
    |some vs=>bif AR P f&&flat r then some (.fn f,r::vs) else none
    |none=>none
   |none=>none) else none
  |_=>none
 |_=>none
def HP(d:Nat):Env→Env
 | []=>[]
 | (k,v)::r=>bif Nat.beq k d then r else (k,v)::HP d r
def eS(dst:Option Tmp)(v:Value)(env:Env):Env:=
 match dst with
 |some d=>(d,v)::HP d env
 |none=>env
theorem Pg{d t:Nat}(h:d≠t):∀(e:Env),get (HP d e) t=get e t
 | []=>rfl
 | (k,v)::r=>by
  simp only[HP]
  cases hb:Nat.beq k d with
  |true=>
   have:=Nat.eq_of_beq_eq_true hb
   subst this
   simp only[cond_true,cu,if_neg h]
  |false=>simp only[cond_false,cu,Pg h r]
theorem jI(n:Nat)(dst:Option Tmp)(v:Value)(e:Env)(D:List Deferred):A n (upd dst v e) D=A n (eS dst v e) D:=by
 cases dst with
 |none=>rfl
 |some d=>
  simp only[A,upd,eS,Act.mk.injEq,and_true]
  congr 1
  funext i
  rw[cu,cu]
  split
  ·rfl
  ·rename_i h;rw[Pg h]
structure AL where
 i:Nat
 id:Nat
 ob:jU
section rounds
variable {P:Program} {C:Class} {s:St}
def B3(s:St)(l:Nat)(K:Loop→(Loop→St)→Prop):Prop:=∃L r Rr,s.rw=L++(l,.loop r)::Rr∧K r fun r'=>⟨s.ro,L++(l,.loop r')::Rr⟩
def SX(R:Ending→St→Prop)(l:Nat)(jump:Option Code)(s:St):Prop:=
 B3 s l fun r up=>R (.returned (.bool jump.isNone)) (up {r with state:=if jump.isNone then .ready else .done,pending:=jump})
def A2(R:Ending→St→Prop)(l:Nat):Post
 | .normal,_,s=>SX R l none s
 | .ret,_,s=>SX R l (some .ret) s
 | .exit id,_,s=>SX R l (some (.exit id)) s
 | .panic ch,a,s=>a.defers=[]∧R (.panicked ch) s
 |_,_,_=>False
def GQ(C:Class)(R:Ending→St→Prop)(l:Nat)(f:FuncId)(body:Code):Post
 | .normal,a,s=>B3 s l fun r up=>r.state= .ready∧Wp C f (some l) body (A2 R l) a (up {r with state:= .busy})
 | .panic ch,a,s=>a.defers=[]∧R (.panicked ch) s
 |_,_,_=>False
theorem wu{l:Nat}{L Rr:List (Nat×Obj)}{r:Loop}(hs:s.rw=L++(l,.loop r)::Rr){k:Loop→Sem α}{Q:α→St→Prop}(hk:bG P (k r) s Q E):bG P (Instr.getLoop l >>= k) s Q E:=by
 simp only[Instr.getLoop,aa]
 exact cq (o:= .loop r) (.inr (by rw[hs];exact e9)) rfl rfl hk
theorem uY(hC:∀main T,C main T→Closed P main T){main:Bool}{T:Goroutine→St→Prop}(hT:C main T){fr c:Frame}{cs:List Frame}{l:Nat}{jump:Option Code}{R:Ending→St→Prop}(h1:fr.kind= .normal)
 (gq:∀w,stepG P main (G fr (c::cs)) w=(let (r,es):=(Instr.endRound l jump).runT P w #[];GStep.after (seen P fr.fn es)<|match r with
  | .ok v w=>doReturn P main fr (c::cs) none v w
  | .halt _ w=> .ended (.stuck "range over a function: no such loop" (fr.pos P)) w))
 (hr:SX R l jump s)(hk:∀v s',R (.returned v) s'→T (G (c.finish v) cs) s'):T (G fr (c::cs)) s:=by
 obtain⟨L,r,Rr,hs,hR⟩:=hr
 have vk:bG P (Instr.endRound l jump) s (fun v s'=>R (.returned v) s') (fun _ _=>False):=by
  simp only[Instr.endRound]
  refine wu hs ?_
  exact dX rfl hs rfl hR
 refine(hC main T hT).step _ _ rfl fun w oQ=>?_
 obtain⟨res,es,bN,hl⟩:=gz _ _ _ _ w #[] vk oQ
 rw[Array.empty_append] at bN
 cases res with
 |ok v w'=>
  obtain⟨s',ht,hu⟩:=hl
  refine⟨G (c.finish v) cs,w',seen P fr.fn es,s',?_,rfl,ht.sub (gY _ _ _),hk _ _ hu⟩
  rw[gq,bN]
  simp only[doReturn,h1,GStep.after,Array.append_empty,G]
 |halt _ _=>obtain⟨_,_,hu⟩:=hl;exact hu.elim
theorem Cd(hC:∀main T,C main T→Closed P main T){l:Nat}{f:FuncId}{fn:Func}(hf:P.funcs[f]?=some fn) {tmps:Array Value} {assign body:Code} {R:Ending→St→Prop}
 (h:Wp C f (some l) assign (GQ C R l f body) ⟨tmps,[]⟩ s):Round C l f tmps assign body s R:=by
 intro main T hT cl cs k1 k2
 let b:Frame:={(default:Frame) with fn:=f,kind:= .normal,roundOf:=some l}
 have gL:Frame.round l f tmps assign body .normal=aH b ⟨tmps,[]⟩ [.code assign,.beginRound,.code body]:=by simp[Frame.round,aH,b]
 rw[gL]
 have acO:∀ch a' s' todo,a'.defers=[]∧R (.panicked ch) s'→T (G {aH b a' todo with mode:= .panicking ch} (cl::cs)) s':=by
  intro ch a' s' todo q
  refine(hC main T hT).go rfl rfl (g':=G (cl.raise ch) cs) (fun w=>?_) (k2 _ _ q.2)
  have Cq:∀fr:Frame,fr.fn=f→fr.catches P=false:=by
   intro fr XP;simp[Frame.catches,XP,hf]
  have:=Cq {aH b a' todo with mode:= .panicking ch} rfl
  simp only[aH,q.1] at this
  simp[G,stepG,unwind,aH,b,q.1,this]
 refine h main T hT b [.beginRound,.code body] (cl::cs) rfl (by simp[b]) rfl fun e a' s' q=>?_
 cases e with
 |normal=>
  obtain⟨L,r,Rr,hs,bL,hw⟩:=q
  have vk:bG P (do Instr.beginRound l;pure Next.skip:Sem Next) s' (fun nx s2=>nx= .skip∧s2=⟨s'.ro,L++(l,.loop {r with state:= .busy})::Rr⟩) (fun _ _=>False):=by
   simp only[Instr.beginRound,aa]
   refine wu hs ?_
   simp only[aa]
   refine dX rfl hs rfl ?_
   simp only[bL,ae]
   exact⟨rfl,rfl⟩
  have I3:T (G (aH b a' [.code body]) (cl::cs)) ⟨s'.ro,L++(l,.loop {r with state:= .busy})::Rr⟩:=by
   refine hw main T hT b [] (cl::cs) rfl (by simp[b]) rfl fun e2 a2 s2 q2=>?_
   cases e2 with
   |normal=>exact uY hC hT (l:=l) (jump:=none) rfl (fun w=>by simp[G,stepG,stepG.exec,aH,b];rfl) q2 k1
   |ret=>exact fun todo=>uY hC hT (l:=l) (jump:=some .ret) rfl (fun w=>by simp[G,stepG,stepG.exec,aH,b];rfl) q2 k1
   |exit id=>exact fun todo Xx=>uY hC hT (l:=l) (jump:=some (.exit id)) rfl (fun w=>by simp[G,stepG,stepG.exec,aH,b,Xx];rfl) q2 k1
   |panic ch=>exact fun todo=>acO ch a2 s2 todo q2
   |goto l'=>exact q2.elim
   |outgrown=>exact q2.elim
  refine(hC main T hT).step _ _ rfl fun w oQ=>?_
  obtain⟨res,es,bN,hl⟩:=gz _ _ _ _ w #[] vk oQ
  rw[Array.empty_append] at bN
  cases res with
  |ok nx w'=>
   obtain⟨s2,ht,rfl,rfl⟩:=hl
   refine⟨G (aH b a' [.code body]) (cl::cs),w',seen P f es,_,?_,rfl,ht.sub (gY _ _ _),I3⟩
   have gq:stepG P main (G (aH b a' [.beginRound,.code body]) (cl::cs)) w=stepG.apply P true (aH b a' [.beginRound,.code body]) (cl::cs) none (do Instr.beginRound l;pure Next.skip:Sem Next) w:=rfl
   rw[gq]
   simp only[stepG.apply,if_true,bN]
   simp[GStep.after,Frame.finish,aH,b,G]
  |halt _ _=>obtain⟨_,_,hu⟩:=hl;exact hu.elim
 |panic ch=>exact fun todo=>acO ch a' s' todo q
 |ret=>exact q.elim
 |exit id=>exact q.elim
 |goto l=>exact q.elim
 |outgrown=>exact q.elim
end rounds
end Go.L
