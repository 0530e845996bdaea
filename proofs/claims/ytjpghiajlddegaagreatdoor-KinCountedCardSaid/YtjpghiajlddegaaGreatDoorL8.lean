/- Part 8 of the proof: a program logic, contracts, a theorem on goroutines. -/
import Derived.Test.YtjpghiajlddegaaGreatDoorL7
import Derived.KernelRfl
set_option maxRecDepth 100000
set_option linter.all false
namespace Go.L
open Go Go.Conc
variable {e:Env} {P:Program} {n sz off k i szo:Nat} {vs l args:List Value} {R:Ending→St→Prop} {α ι β:Type} {p:Oper} {Φ:Value→Cells→Prop} {f:FuncId} {b:ByteArray} {todo ps mG hs:List Nat} {X X1:Cx} {T E T2:TypeId} {s s':JS} {kn:Kn} {hi:Int} {lo:Option Int}
def x3:List Sg→Nat→Option Sg
 | [],_=>none
 |x::_,0=>some x
 |_::l,i+1=>x3 l i
def QF:List Sg→Nat→Sg→List Sg
 | [],_,_=>[]
 |_::l,0,y=>y::l
 |x::l,i+1,y=>x::QF l i y
def aiC:Cells→Nat→Option (Nat×Obj)
 | [],_=>none
 |x::_,0=>some x
 |_::l,i+1=>aiC l i
def As(w:List Sg)(kn:Cells)(h:Nat):Option (Nat×List Value):=
 match x3 w h with
 |some (.b b (.cells ⟨l⟩ _ _))=>some (b,l)
 |some _=>none
 |none=>match aiC kn (h-64) with
  |some (b,.cells ⟨l⟩ _ _)=>some (b,l)
  |_=>none
def aaa(P:Program)(n:Nat)(e:Env)(w:List Sg)(h:Nat):Op→Option (List Sg×Nat×Nat)
 | .store T x y=>match ba n e x with
  |some (.pointer (some ⟨b,off,none⟩))=>match ba n e y with
   |some v=>match x3 w h with
    |some (.b b' (.cells ⟨c⟩ t (0,0)))=>match aV P T with
     |some ti=>bif Nat.beq (dO v).length ti.size&&(Nat.ble (off+(dO v).length) c.length&&(dO v).all single) then some (QF w h (.b b' (.cells ⟨de c off (dO v)⟩ t (0,0))),b,b') else none
     |none=>none
    |_=>none
   |none=>none
  |_=>none
 |_=>none
abbrev anh:=Option (JS×List Nat×List (Nat×Nat))
def ate(n:Nat)(e:Env)(k:List KI):Code→Option Pos
 | .skip=>some (Nm k)
 | .seq a b=>some (.code a (.seq b::k))
 | .block id c=>some (.code c (.block id::k))
 | .region _ ops d=>bif d then (bif yA ops then some (.Gr ops e [] [] k) else none) else some (.ops ops (List.range ops.size) k)
 | .exit id=>Ah id k
 | .ret=>some (.fin .ret)
 | .scope c=>some (.code c k)
 | .label _=>some (Nm k)
 | .cond c a b=>match ba n e c with
  |some (.bool true)=>some (.code a k)
  |some (.bool false)=>some (.code b k)
  |_=>none
 |_=>none
def afv(ops:Array Oper)(Pl:List (Nat×Value)):Bool:=fx ops&&(nodupB (ai Pl)&&(fy (List.range ops.size) (ai Pl)&&fy (ai Pl) (List.range ops.size)))
def opJ(P:Program)(n:Nat)(hs:List Nat)(s:JS):anh:=
 match pZ n s with
 |some (g,o,e)=>bif g then (match o.op with
  | .store .. =>match s,hs with
   | ⟨.ops ops (_::todo) k,_,w,kn⟩,h::hs=>match aaa P n e w h o.op with
    |some (w',b,b')=>some (⟨.ops ops todo k,upd o.dst undef e,w',kn⟩,hs,[(b,b')])
    |none=>none
   |_,_=>none
  | .load T x=>match hs with
   |h::hs=>match ba n e x with
    |some (.pointer (some ⟨b,off,none⟩))=>match As s.rw s.kn.c h with
     |some (b',l)=>match ldv P T l off with
      |some v=>match EV v s with
       |some s'=>some (s',hs,[(b',b)])
       |none=>none
      |none=>none
     |none=>none
    |_=>none
   | []=>none
  |_=>bif dZ o.op then (match ZA P n e o with
   |some v=>match EV v s with
    |some s'=>some (s',hs,[])
    |none=>none
   |none=>none) else none) else (match EV undef s with
  |some s'=>some (s',hs,[])
  |none=>none)
 |none=>none
def stepJ(P:Program)(n:Nat)(hs:List Nat)(s:JS):anh:=
 match s.pos with
 | .ops _ [] k=>some (⟨Nm k,s.env,s.rw,s.kn⟩,hs,[])
 | .code c k=>match ate n s.env k c with
  |some p=>some (⟨p,s.env,s.rw,⟨s.kn.c,[]⟩⟩,hs,[])
  |none=>none
 | .Gr ops base Pl _ k=>match akC ops (ai Pl) with
  |none=>bif afv ops Pl then some (⟨Nm k,iG ops base Pl,s.rw,s.kn⟩,hs,[]) else none
  |some _=>opJ P n hs s
 |_=>opJ P n hs s
section
variable {X:Cx}
theorem y7:∀ {w:List Sg} {h b:Nat} {o:Obj},x3 w h=some (.b b o)→∃L R,den w=L++(b,o)::R∧∀o',den (QF w h (.b b o'))=L++(b,o')::R
 | [],_,_,_,h=>by cases h
 |x::w,0,b,o,h=>by
  simp only[x3,Option.some.injEq] at h;subst h
  exact⟨[],den w,by simp[ib],fun o'=>by simp[QF,ib]⟩
 |x::w,i+1,b,o,h=>by
  obtain⟨L,R,h1,h2⟩:=y7 (w:=w) (h:=i) h
  cases x with
  |b i' o1=>exact⟨(i',o1)::L,R,by simp[ib,h1],fun o'=>by simp[QF,ib,h2]⟩
  |l L1=>exact⟨L1++L,R,by simp[fY,h1],fun o'=>by simp[QF,fY,h2]⟩
theorem NJ:∀ {l:Cells} {i:Nat} {x:Nat×Obj},aiC l i=some x→x∈l
 | [],_,_,h=>by cases h
 |y::l,0,x,h=>by simp only[aiC,Option.some.injEq] at h;subst h;exact List.mem_cons_self
 |y::l,i+1,x,h=>List.mem_cons_of_mem _ (NJ (l:=l) h)
theorem yB{w:List Sg}{kn:Cells}{h b:Nat}(hk:Knows X.ro kn)(hc:As w kn h=some (b,l)):∃t fz,(⟨X.ro,den w⟩:St).has b (.cells ⟨l⟩ t fz):=by
 unfold As at hc
 split at hc
 ·rename_i hn
  cases hc
  obtain⟨L,R,h1,_⟩:=y7 hn
  exact⟨_,_,.inr (by show (_,_)∈den w;rw[h1];exact e9)⟩
 ·cases hc
 ·split at hc<;>try (cases hc;done)
  rename_i hn
  cases hc
  exact⟨_,_,.inl (hk _ (NJ hn))⟩
theorem akE{w:List Sg}{k:List KI}{c:Code}{p:Pos}(h:ate X.n e k c=some p)(hj:JP X ⟨kn.c,[]⟩ e w p):JP X kn e w (.code c k):=by
 unfold ate at h
 split at h
 ·cases h;exact wp_skip X.hC (tv hj)
 ·cases h;exact wp_seq X.hC hj
 ·cases h;exact wp_block X.hC hj
 ·rename_i id ops d
  cases d with
  |true=>
   simp only[cond_true] at h
   cases hd:yA ops with
   |false=>rw[hd] at h;cases h
   |true=>
    rw[hd] at h;simp only[cond_true,Option.some.injEq] at h;subst h
    exact Yv X.hC X.hm hd (hj ⟨fun _ _ h=>(List.not_mem_nil h).elim,fun _ _ _ h=>(List.not_mem_nil h).elim⟩)
  |false=>simp only[cond_false,Option.some.injEq] at h;subst h;exact wp_region X.hC hj
 ·exact wp_exit X.hC (vI h hj)
 ·cases h;exact wp_ret (za hj k)
 ·cases h;exact My X.hC hj
 ·cases h;exact wp_label X.hC (tv hj)
 ·split at h<;>try (cases h;done)
  ·rename_i hc;cases h;exact TA X.hC hc rfl hj
  ·rename_i hc;cases h;exact TB X.hC hc rfl hj
 ·cases h
theorem aa2{q:List (Nat×Nat)}(h:opJ X.P X.n hs s=some (s',mG,q))(hq:∀p∈q,p.1=p.2)(hj:J X (some s')):J X (some s):=by
 unfold opJ at h
 split at h<;>try (cases h;done)
 rename_i g o e hh
 cases g with
 |false=>
  simp only[cond_false] at h
  split at h<;>try (cases h;done)
  rename_i s1 hp
  cases h
  exact jy hh hp rfl hj
 |true=>
  simp only[cond_true] at h
  split at h
  ·rename_i T x y ax
   split at h<;>try (cases h;done)
   rename_i ops i todo k e1 w kn h0 hsx
   split at h<;>try (cases h;done)
   rename_i w' b b' bL
   cases h
   have P9:b=b':=hq _ List.mem_cons_self
   subst P9
   simp only[pZ] at hh
   split at hh<;>try (cases hh;done)
   rename_i o1 ho
   split at hh<;>try (cases hh;done)
   rename_i g1 hg
   simp only[Option.some.injEq,Prod.mk.injEq] at hh
   obtain⟨rfl,rfl,rfl⟩:=hh
   intro bP
   have hj:=hj bP
   rw[ax] at bL
   simp only[aaa] at bL
   split at bL<;>try (cases bL;done)
   rename_i b0 off hx
   split at bL<;>try (cases bL;done)
   rename_i v hy
   split at bL<;>try (cases bL;done)
   rename_i b1 c t hn
   split at bL<;>try (cases bL;done)
   rename_i ti dI
   cases hc:(Nat.beq (dO v).length ti.size&&(Nat.ble (off+(dO v).length) c.length&&(dO v).all single)) with
   |false=>rw[hc] at bL;cases bL
   |true=>
    rw[hc] at bL
    simp only[cond_true,Option.some.injEq,Prod.mk.injEq] at bL
    obtain⟨rfl,rfl,rfl⟩:=bL
    simp only[Bool.and_eq_true,Nat.ble_eq] at hc
    obtain⟨bu,tf⟩:=ar dI
    obtain⟨L,R,h1,h2⟩:=y7 hn
    rcases o1 with ⟨dst,op,ty,pos,cS,gd⟩
    dsimp only at ax;subst ax
    have hw:=ng hg []
    rw[List.append_nil] at hw
    refine DT (v:=v) (l:=dO v) (L:=L) (R:=R) (c:=c) (e:=t) X.hC ho hw tf hx hy (by rw[lL]) (Nat.eq_of_beq_eq_true hc.1) (List.all_eq_true.1 hc.2.2) h1 hc.2.1 ?_
    have hj:ab X.C X.fn X.ay ops todo (KQ X k) _ ⟨X.ro,den _⟩:=hj
    rw[h2] at hj
    exact hj
  ·rename_i T x ax
   split at h<;>try (cases h;done)
   rename_i h0 bV
   split at h<;>try (cases h;done)
   rename_i b off hx
   split at h<;>try (cases h;done)
   rename_i b' l hc
   split at h<;>try (cases h;done)
   rename_i v hv
   split at h<;>try (cases h;done)
   rename_i s1 hp
   cases h
   have P9:b'=b:=hq _ List.mem_cons_self
   subst P9
   refine jy hh hp ⟨by rw[ax];rfl,fun bP=>?_,fun hk=>by rw[ax] at hk;cases hk⟩ hj
   obtain⟨t,fz,hb⟩:=yB bP hc
   exact abN ax hx hb hv
  ·cases hn:dZ o.op with
   |false=>rw[hn] at h;cases h
   |true=>
    rw[hn] at h;simp only[cond_true] at h
    split at h<;>try (cases h;done)
    rename_i v hv
    split at h<;>try (cases h;done)
    rename_i s1 hp
    cases h
    exact jy hh hp ⟨hn,fun _=>yW hv,fun _ _=>yW hv⟩ hj
theorem aab{q:List (Nat×Nat)}(h:stepJ X.P X.n hs s=some (s',mG,q))(hq:∀p∈q,p.1=p.2)(hj:J X (some s')):J X (some s):=by
 unfold stepJ at h
 split at h
 ·rename_i ops k hp
  cases h
  rcases s with ⟨p,e,w,kn⟩
  dsimp only at hp;subst hp
  exact fun bP=>tz X.hC (tv (hj bP))
 ·rename_i c k hp
  rcases s with ⟨p,e,w,kn⟩
  dsimp only at hp;subst hp
  split at h<;>try (cases h;done)
  rename_i p hc
  cases h
  exact fun bP=>akE hc (hj bP)
 ·rename_i ops base Pl Sl k hp
  split at h
  ·cases hd:afv ops Pl with
   |false=>rw[hd] at h;cases h
   |true=>
    rw[hd] at h;simp only[cond_true,Option.some.injEq,Prod.mk.injEq] at h
    obtain⟨rfl,rfl,rfl⟩:=h
    rcases s with ⟨p,e,w,kn⟩
    dsimp only at hp;subst hp
    simp only[afv,Bool.and_eq_true] at hd
    exact fun bP _=>af4 X.hC hd.1 hd.2.1 hd.2.2.1 hd.2.2.2 (tv (hj bP))
  ·exact aa2 h hq hj
 ·exact aa2 h hq hj
end
def YC(P:Program)(n:Nat):Nat→List Nat→JS→List (Nat×Nat)→Option (JS×List (Nat×Nat))
 |0,_,s,q=>some (s,q)
 |k+1,hs,s,q=>match stepJ P n hs s with
  |some (s',mG,q')=>YC P n k mG s' (q'++q)
  |none=>none
def YD(P:Program)(n k:Nat)(hs:List Nat):Option JS→Option (JS×List (Nat×Nat))
 |some s=>YC P n k hs s []
 |none=>none
def res:Option (JS×List (Nat×Nat))→Option JS
 |some (s,_)=>some s
 |none=>none
def SK:List (Nat×Nat)→List Nat
 | []=>[]
 | (a,_)::l=>a::SK l
def QB:List (Nat×Nat)→List Nat
 | []=>[]
 | (_,b)::l=>b::QB l
def lhs:Option (JS×List (Nat×Nat))→List Nat
 |some (_,q)=>SK q
 |none=>[0]
def rhs:Option (JS×List (Nat×Nat))→List Nat
 |some (_,q)=>QB q
 |none=>[1]
theorem lJ:∀ {q:List (Nat×Nat)},SK q=QB q→∀p∈q,p.1=p.2
 | (a,b)::l,h,p,hp=>by
  simp only[SK,QB,List.cons.injEq] at h
  rcases List.mem_cons.1 hp with rfl|hp
  ·exact h.1
  ·exact lJ h.2 p hp
theorem V6:∀ {k:Nat} {hs:List Nat} {s s':JS} {q q':List (Nat×Nat)},YC X.P X.n k hs s q=some (s',q')→(∀p∈q',p.1=p.2)→(J X (some s')→J X (some s))∧∀p∈q,p∈q'
 |0,_,_,_,_,_,h,_=>by simp only[YC,Option.some.injEq,Prod.mk.injEq] at h;obtain⟨rfl,rfl⟩:=h;exact⟨id,fun _ h=>h⟩
 |k+1,hs,s,s',q,q',h,hq=>by
  simp only[YC] at h
  split at h<;>try (cases h;done)
  rename_i s1 bV q1 bL
  obtain⟨h1,h2⟩:=V6 h hq
  exact⟨fun hj=>aab bL (fun p hp=>hq p (h2 p (List.mem_append_left _ hp))) (h1 hj),fun p hp=>h2 p (List.mem_append_right _ hp)⟩
theorem jd{o:Option JS}(k:Nat)(hs:List Nat)(h:J X (res (YD X.P X.n k hs o)))(he:lhs (YD X.P X.n k hs o)=rhs (YD X.P X.n k hs o):=by kernel_rfl):J X o:=by
 cases o with
 |none=>exact h
 |some s=>
  simp only[YD] at he h
  cases hc:YC X.P X.n k hs s [] with
  |none=>rw[hc] at h;exact h.elim
  |some x=>
   rcases x with ⟨s',q⟩
   rw[hc] at he h
   exact(V6 hc (lJ he)).1 h
attribute [irreducible] YD res lhs rhs
def du(n:Nat)(f:Oper→Env→Option β):Option JS→Option β
 |some s=>match pZ n s with
  |some (true,p,e)=>f p e
  |_=>none
 |none=>none
def jN(v:Value):Option JS→Option JS
 |some s=>EV v s
 |none=>none
def No:List Nat→List Sg→Option (List Sg)
 | [],_=>some []
 |i::is,w=>match x3 w i with
  |some x=>match No is w with
   |some r=>some (x::r)
   |none=>none
  |none=>none
def dj(is:List Nat):Nat→List Sg→List Sg
 |_,[]=>[]
 |k,x::w=>bif aX k is then dj is (k+1) w else x::dj is (k+1) w
def E7:List Nat→Bool
 | []=>true
 |i::is=> !aX i is&&E7 is
def qE(is:List Nat):Option JS→Option (List Sg)
 |some s=>bif E7 is then No is s.rw else none
 |none=>none
def dN(is:List Nat)(o:Option JS):Option Cells:=match qE is o with
 |some w=>some (den w)
 |none=>none
def YO:List Nat→Env→Option Env
 | [],_=>some []
 |t::ts,e=>match gF e t with
  |some v=>match YO ts e with
   |some r=>some ((t,v)::r)
   |none=>none
  |none=>none
def oI:Env→List Nat
 | []=>[]
 | (t,_)::e=>t::oI e
def ug(ts:List Nat):Option JS→Option Env
 |some s=>YO ts s.env
 |none=>none
theorem sj{ts:List Nat}:ug ts (some s)=YO ts s.env:=rfl
theorem j6:∀ {ts:List Nat} {r:Env},YO ts e=some r→ko e r
 | [],r,h=>by simp only[YO,Option.some.injEq] at h;subst h;trivial
 |t::ts,r,h=>by
  simp only[YO] at h
  split at h<;>try (cases h;done)
  rename_i v hv
  split at h<;>try (cases h;done)
  rename_i r' hr
  cases h
  exact⟨hv,j6 hr⟩
theorem kV:∀(a b:List Sg),den (a++b)=den a++den b
 | [],b=>rfl
 | .b i o::a,b=>by simp[ib,kV a b]
 | .l L::a,b=>by simp[fY,kV a b]
theorem wM:∀(w:List Sg) (k:Nat),dj [] k w=w
 | [],_=>rfl
 |x::w,k=>by simp[dj,aX,wM w (k+1)]
theorem Gs:∀ {w:List Sg} {i k:Nat} {is:List Nat} {x:Sg},x3 w i=some x→aX (k+i) is=false→(den (dj is k w)).Perm (den [x]++den (dj ((k+i)::is) k w))
 | [],_,_,_,_,h,_=>by cases h
 |y::w,0,k,is,x,h,hi=>by
  simp only[x3,Option.some.injEq] at h;subst h
  have hz:∀(w:List Sg) (j:Nat),k <j→dj (k::is) j w=dj is j w:=by
   intro w
   induction w with
   |nil=>intro j _;rfl
   |cons z w ih=>
    intro j hj
    have:Nat.beq j k=false:=beq_false (by omega)
    simp only[dj,aX,this,Bool.false_or,ih (j+1) (by omega)]
  simp only[Nat.add_zero] at hi ⊢
  simp only[dj,hi,cond_false,aX,Nat.beq_refl,Bool.true_or,cond_true,hz w (k+1) (by omega)]
  cases y with
  |b i o=>rw[ib];exact .refl _
  |l L=>rw[fY];exact .refl _
 |y::w,i+1,k,is,x,h,hi=>by
  have e:k+(i+1)=(k+1)+i:=by omega
  rw[e] at hi ⊢
  have hr:=Gs (w:=w) (k:=k+1) (is:=is) h hi
  have dP:Nat.beq k ((k+1)+i)=false:=beq_false (by omega)
  simp only[dj,aX,dP,Bool.false_or]
  cases aX k is with
  |true=>simp only[cond_true];exact hr
  |false=>
   simp only[cond_false]
   cases y with
   |b i' o=>rw[ib,ib];exact(hr.cons _).trans List.perm_middle.symm
   |l L=>
    rw[fY,fY]
    refine(hr.append_left L).trans ?_
    rw[←List.append_assoc,←List.append_assoc]
    exact List.Perm.append_right _ List.perm_append_comm
theorem wC{w:List Sg}:∀ {is:List Nat} {r:List Sg},No is w=some r→E7 is=true→(den w).Perm (den r++den (dj is 0 w))
 | [],r,h,_=>by simp only[No,Option.some.injEq] at h;subst h;rw[wM];exact .refl _
 |i::is,r,h,ho=>by
  simp only[No] at h
  split at h<;>try (cases h;done)
  rename_i x hx
  split at h<;>try (cases h;done)
  rename_i r' hr
  cases h
  simp only[E7,Bool.and_eq_true,Bool.not_eq_true'] at ho
  have h1:=wC hr ho.2
  have h2:=Gs (k:=0) (is:=is) hx (by rw[Nat.zero_add];exact ho.1)
  rw[Nat.zero_add] at h2
  refine h1.trans ((List.Perm.append_left _ h2).trans ?_)
  have:den (x::r')=den [x]++den r':=by rw[←kV];rfl
  rw[this,←List.append_assoc]
  exact List.Perm.append_right _ List.perm_append_comm
theorem lf{is:List Nat}{w:List Sg}(h:qE is (some s)=some w):(den s.rw).Perm (den w++den (dj is 0 s.rw)):=by
 simp only[qE] at h
 cases ho:E7 is with
 |false=>rw[ho] at h;cases h
 |true=>rw[ho] at h;exact wC h ho
theorem bB{is:List Nat}{L:Cells}(h:dN is (some s)=some L):(den s.rw).Perm (L++den (dj is 0 s.rw)):=by
 simp only[dN] at h
 split at h<;>try (cases h;done)
 rename_i w hw
 cases h
 exact lf hw
theorem Pf{is:List Nat}{L:Cells}(h:dN is (some s)=some L):∀x∈L,(⟨X.ro,den s.rw⟩:St).has x.1 x.2:=fun x hx=> .inr ((bB h).mem_iff.2 (List.mem_append_left _ hx))
section
variable {X:Cx} {o:Option JS}
theorem rM{f:Oper→Env→Option β}{r:β}(h:du n f o=some r):∃s p e,o=some s∧pZ n s=some (true,p,e)∧f p e=some r:=by
 unfold du at h
 split at h<;>try (cases h;done)
 rename_i s
 split at h<;>try (cases h;done)
 rename_i p e hh
 exact⟨s,p,e,rfl,hh,h⟩
theorem jG{v:Value}{f:Oper→Env→Option β}{r:β}(h:du X.n f o=some r)(hy:∀s p e,o=some s→pZ X.n s=some (true,p,e)→f p e=some r→dZ p.op=true∧(Knows X.ro s.kn.c→Yields X.P X.n e p ⟨X.ro,den s.rw⟩ v)∧(Cg p.op=true→∀s,Yields X.P X.n e p s v))(hj:J X (jN v o)):J X o:=by
 obtain⟨s,p,e,rfl,hh,hf⟩:=rM h
 obtain⟨h1,h2,h3⟩:=hy s p e rfl hh hf
 simp only[jN] at hj
 cases hp:EV v s with
 |none=>rw[hp] at hj;exact hj.elim
 |some s'=>rw[hp] at hj;exact jy hh hp ⟨h1,h2,h3⟩ hj
theorem jGS{v:Value}{f:Oper→Env→Option β}{r:β}(h:du X.n f o=some r)(hy:∀s p e,o=some s→f p e=some r→GW X e p ⟨X.ro,den s.rw⟩ v∧(Cg p.op=true→∀s,GW X e p s v))(hj:J X (jN v o)):J X o:=by
 obtain⟨s,p,e,rfl,hh,hf⟩:=rM h
 simp only[jN] at hj
 cases hp:EV v s with
 |none=>rw[hp] at hj;exact hj.elim
 |some s'=>rw[hp] at hj;exact jyS hh hp ⟨fun _=>(hy s p e rfl hf).1,(hy s p e rfl hf).2⟩ hj
def J7(B:Cells)(v:Value):Option JS→Option JS
 |some s=>aik B v s
 |none=>none
theorem jGN{v:Value}{f:Oper→Env→Option β}{r:β}{B:Cells}(h:du X.n f o=some r)(hB:dN ps o=some B)(hy:∀s p e,o=some s→pZ X.n s=some (true,p,e)→f p e=some r→Cg p.op=false∧∀s0,Ext ⟨X.ro,[]⟩ s0→(∀x∈B,s0.has x.1 x.2)→GW X e p s0 v)(hj:J X (J7 B v o)):J X o:=by
 obtain⟨s,p,e,rfl,hh,hf⟩:=rM h
 obtain⟨h1,h2⟩:=hy s p e rfl hh hf
 simp only[J7] at hj
 cases hp:aik B v s with
 |none=>rw[hp] at hj;exact hj.elim
 |some s'=>rw[hp] at hj;exact jyN hh hp (Pf hB) h1 h2 hj
theorem PU{v:Value}{f:Oper→Env→Option β}{r:β}(h:du X.n f o=some r)(hy:∀s p e,o=some s→f p e=some r→∀s0,GW X e p s0 v)(hj:J X (jN v o)):J X o:=
 jGS h (fun s p e ho hf=>⟨hy s p e ho hf _,fun _=>hy s p e ho hf⟩) hj
def anL(P:Program)(n:Nat)(p:Oper)(e:Env):Option Value:=bif dZ p.op then ZA P n e p else none
theorem je(v:Value){w:Value}(hw:w=v)(hj:J X (jN v o))(hv:du X.n (anL X.P X.n) o=some w:=by kernel_rfl):J X o:=by
 subst hw
 refine jG hv (fun s p e _ _ hf=>?_) hj
 unfold anL at hf
 cases hn:dZ p.op with
 |false=>rw[hn] at hf;cases hf
 |true=>rw[hn] at hf;exact⟨rfl,fun _=>yW hf,fun _ _=>yW hf⟩
theorem ja(r:Int)(h: -9223372036854775808≤r∧r≤9223372036854775807)(hj:J X (jN (.int .i64 r) o))(hv:du X.n (anL X.P X.n) o=some (.int .i64 (IntKind.i64.wrap r)):=by kernel_rfl):J X o:=je _ (by rw[jV r h]) hj hv
def ldA(P:Program)(n k:Nat)(vs:List Value)(p:Oper)(e:Env):Option (Option Addr):=match p.op with
 | .load T x=>match ldv P T vs k with
  |some _=>match ba n e x with
   |some (.pointer a)=>some a
   |_=>none
  |none=>none
 |_=>none
def ldW(P:Program)(n k:Nat)(vs:List Value)(o:Option JS):Value:=(du n (fun p _=>match p.op with
 | .load T _=>ldv P T vs k
 |_=>none) o).getD undef
theorem oJ{b m:Nat}(k:Nat)(ps:List Nat)(B:Cells)(hr:∀s:St,Ext ⟨X.ro,[]⟩ s→(∀x∈B,s.has x.1 x.2)→cg s b off m vs)(hj:J X (J7 B (ldW X.P X.n k vs o) o))(hv:du X.n (ldA X.P X.n k vs) o=some (some ⟨b,off+k,none⟩):=by kernel_rfl)(hB:dN ps o=some B:=by kernel_rfl):J X o:=by
 refine jGN hv hB (fun s p e ho hh hf=>?_) hj
 subst ho
 unfold ldA at hf
 split at hf<;>try (cases hf;done)
 rename_i T x ax
 split at hf<;>try (cases hf;done)
 rename_i v hv2
 split at hf<;>try (cases hf;done)
 rename_i a hx
 simp only[Option.some.injEq] at hf;subst hf
 have hw:ldW X.P X.n k vs (some s)=v:=by simp only[ldW,du,hh,ax,hv2,Option.getD_some]
 rw[hw]
 exact⟨by rw[ax];rfl,fun s0 FE uB ops i ho rest hwt s' hs todo Q hk=>lg X.hC ho rest hwt (by rw[ax];rfl) (apw k ax hx (hr s0 FE uB) hv2) hs hk⟩
theorem jl{b m:Nat}(k:Nat)(hr:cg ⟨X.ro,[]⟩ b off m vs)(hj:J X (J7 [] (ldW X.P X.n k vs o) o))(hv:du X.n (ldA X.P X.n k vs) o=some (some ⟨b,off+k,none⟩):=by kernel_rfl):J X o:=by
 have hB:dN [] o=some []:=by
  obtain⟨s,_,_,rfl,_⟩:=rM hv
  rfl
 exact oJ k [] [] (fun s hs _=>hr.ext hs) hj hv hB
def ixA(P:Program)(n:Nat)(p:Oper)(e:Env):Option (Value×Int×Nat):=match p.op with
 | .indexAddr T x y=>match aV P T with
  |some ⟨.slice E,_,_,_⟩=>match aV P E with
   |some te=>match ba n e x with
    |some v=>match ba n e y with
     |some (.int _ ix)=>some (v,ix,te.size)
     |_=>none
    |none=>none
   |none=>none
  |_=>none
 |_=>none
theorem jix{a:Option Addr}{b len:Nat}(ix:Int)(cap sz:Nat)(ha:a=some ⟨b,off,none⟩)(hi:0≤ix∧ix <len)(hj:J X (jN (.pointer (some ⟨b,off+ix.toNat*sz,none⟩)) o))(hv:du X.n (ixA X.P X.n) o=some (.slice a len cap,ix,sz):=by kernel_rfl):J X o:=by
 refine jG hv (fun s p e ho hh hf=>?_) hj
 unfold ixA at hf
 split at hf<;>try (cases hf;done)
 rename_i T x y ax
 split at hf<;>try (cases hf;done)
 rename_i E _ _ _ dI
 split at hf<;>try (cases hf;done)
 rename_i te tJ
 split at hf<;>try (cases hf;done)
 rename_i v hx
 split at hf<;>try (cases hf;done)
 rename_i ik ix' hy
 simp only[Option.some.injEq,Prod.mk.injEq] at hf
 obtain⟨rfl,rfl,rfl⟩:=hf
 subst ha
 obtain⟨bu,tf⟩:=ar dI
 obtain⟨Av,qo⟩:=ar tJ
 have key:∀s,Yields X.P X.n e p s (.pointer (some ⟨b,off+ix'.toNat*te.size,none⟩)):=by
  intro s s' mG f hf K E hK
  simp only[execOp,ax,Instr.indexAt,hf _ _ hx,hf _ _ hy,asIntOf,aa,ae,aW tf,hi,and_self,if_true,bW qo,dG]
  exact hK
 exact⟨by rw[ax];rfl,fun _=>key _,fun _=>key⟩
theorem ij{ps:List α}{b:Nat}{x:α}{a:Option Addr}(cap sz:Nat)(ha:∀k,k <ps.length→a=some ⟨b,off,none⟩)(hx:ps[k]?=some x) (hj:J X (jN (.pointer (some ⟨b,off+k*sz,none⟩)) o)) (hv:du X.n (ixA X.P X.n) o=some (.slice a ps.length cap,(k:Int),sz):=by kernel_rfl):J X o:=
 have hk:k <ps.length:=(List.getElem?_eq_some_iff.1 hx).1
 jix (k:Int) cap sz (ha k hk) (by omega) hj hv
theorem Mj{ps:List α}{b:Nat}{x:α}{a:Option Addr}(ix:Int)(cap sz:Nat)(ha:∀k,k <ps.length→a=some ⟨b,off,none⟩)(hx:ps[k]?=some x) (he:ix=(k:Int)) (hj:J X (jN (.pointer (some ⟨b,off+k*sz,none⟩)) o)) (hv:du X.n (ixA X.P X.n) o=some (.slice a ps.length cap,ix,sz):=by kernel_rfl):J X o:=by
 subst he;exact ij cap sz ha hx hj hv
theorem YP{v:Value}{enc:α→List Value}{ps:List α}{L:Cells}{x:α}(sz:Nat)(j8:az v szo T2 enc ps L)(hx:ps[k]?=some x) (hj:∀b,LY v b→J X (jN (.pointer (some ⟨b,k*sz,none⟩)) o)) (hv:du X.n (ixA X.P X.n) o=some (v,(k:Int),sz):=by kernel_rfl):J X o:=by
 have hk:k <ps.length:=(List.getElem?_eq_some_iff.1 hx).1
 obtain⟨b,hb⟩:=axr j8 hk
 have fU:=hb
 obtain⟨n0,c,rfl⟩:=fU
 have hn:n0=ps.length:=by
  obtain⟨a,c',he⟩:=j8.form
  cases he;rfl
 subst hn
 have hj:=hj b hb
 exact jix (off:=0) (k:Int) c sz rfl (by omega) (by rw[Nat.zero_add];exact hj) hv
theorem pP{v:Value}{enc:α→List Value}{ps:List α}{L:Cells}{x:α}(ix:Int)(sz:Nat)(j8:az v szo T2 enc ps L)(hx:ps[k]?=some x) (he:ix=(k:Int)) (hj:∀b,LY v b→J X (jN (.pointer (some ⟨b,k*sz,none⟩)) o)) (hv:du X.n (ixA X.P X.n) o=some (v,ix,sz):=by kernel_rfl):J X o:=by
 subst he;exact YP sz j8 hx hj hv
end
attribute [irreducible] du jN J7 dN qE ug ldW
section
variable {X:Cx} {o:Option JS}
theorem Mf{D:List Deferred}{t:Nat}{v:Value}(h:gF e t=some v):A n ((t,v)::e) D=A n e D:=by
 simp only[A]
 congr 1
 congr 1
 funext i
 simp only[get]
 cases hb:Nat.beq t i with
 |false=>rfl
 |true=>
  have:=Nat.eq_of_beq_eq_true hb
  subst this
  exact(mr h).symm
def M4(j:Nat)(v:Value):List (Nat×Value)→List (Nat×Value)
 | []=>[]
 | (i,w)::r=>bif Nat.beq i j then (i,v)::r else (i,w)::M4 j v r
theorem ED{j:Nat}{v:Value}:∀ {l:List (Nat×Value)},Nn l j=some v→M4 j v l=l
 | (i,w)::r,h=>by
  simp only[Nn] at h
  simp only[M4]
  cases hb:Nat.beq i j with
  |true=>rw[hb] at h;simp only[cond_true,Option.some.injEq] at h;subst h;rfl
  |false=>rw[hb] at h;simp only[cond_false] at h ⊢;rw[ED h]
def aly(t:Nat):JS→Option Value
 | ⟨.Gr _ _ Pl _ _,_,_,_⟩=>Nn Pl t
 |s=>gF s.env t
def Ic(t:Nat):Option JS→Option Value
 |some s=>aly t s
 |none=>none
def Wv(t:Nat)(v:Value):JS→JS
 | ⟨.Gr ops base Pl Sl k,e,w,kn⟩=>⟨.Gr ops base (M4 t v Pl) Sl k,e,w,kn⟩
 | ⟨p,e,w,kn⟩=>⟨p,(t,v)::e,w,kn⟩
def M5(t:Nat)(v:Value):Option JS→Option JS
 |some s=>some (Wv t v s)
 |none=>none
theorem jw(t:Nat)(v:Value){w:Value}(hw:w=v)(hj:J X (M5 t v o))(hv:Ic t o=some w:=by kernel_rfl):J X o:=by
 subst hw
 cases o with
 |none=>exact hj
 |some s=>
  rcases s with ⟨p,e,Hp,kn⟩
  intro bP
  have hj:=hj
  cases p with
  |Gr ops base Pl Sl k=>
   simp only[Ic,aly] at hv
   have:M4 t w Pl=Pl:=ED hv
   simp only[M5,Wv,this] at hj
   exact hj bP
  |ops a b c=>have:=hj bP;simp only[Wv,JP] at this;rw[Mf hv] at this;exact this
  |code a b=>have:=hj bP;simp only[Wv,JP] at this;rw[Mf hv] at this;exact this
  |nxt a=>have:=hj bP;simp only[Wv,JP] at this;rw[Mf hv] at this;exact this
  |fin a=>have:=hj bP;simp only[Wv,JP] at this;rw[Mf hv] at this;exact this
theorem ji(t:Nat){c b:Bool}(h:c=b)(hj:J X (M5 t (.bool b) o))(hv:Ic t o=some (.bool c):=by kernel_rfl):J X o:=jw t _ (by rw[h]) hj hv
theorem js(t:Nat)(c:Bool)(h1:c=true→J X (M5 t (.bool true) o))(h2:c=false→J X (M5 t (.bool false) o))(hv:Ic t o=some (.bool c):=by kernel_rfl):J X o:=by
 cases hc:c with
 |true=>exact ji t hc (h1 hc) hv
 |false=>exact ji t hc (h2 hc) hv
def axN(P:Program)(n:Nat)(p:Oper)(e:Env):Option (Obj×Option Nat):=match p.op with
 | .alloc T=>match aV P T with
  |some ti=>some (.cells ⟨ti.zero⟩ T (0,0),none)
  |none=>none
 | .box T x=>match ba n e x with
  |some v=>some (.cells ⟨dO v⟩ T (0,0),none)
  |none=>none
 | .buildSlice T m ps=>match aV P T with
  |some ⟨.slice E,_,_,_⟩=>match aV P E with
   |some te=>match Mo n e ps.toList with
    |some pv=>match nY (fun i=>some (i*te.size,te.size)) (cM te.zero m) (tw pv) with
     |some l=>bif Nat.beq te.zero.length te.size&&Nat.ble (m*te.size) 16777216 then some (.cells ⟨l⟩ E (0,0),some m) else none
     |none=>none
    |none=>none
   |none=>none
  |_=>none
 | .range T x=>match aV P T with
  |some ⟨.string,_,_,_⟩=>match ba n e x with
   |some (.string b)=>some (.stringIter b 0,none)
   |_=>none
  |_=>none
 |_=>none
def abk(b:Nat):Option Nat→Value
 |some m=> .slice (some ⟨b,0,none⟩) m m
 |none=> .pointer (some ⟨b,0,none⟩)
def apb(P:Program)(n b:Nat):Option JS→Option JS
 |some ⟨.ops ops (i::todo) k,e,w,kn⟩=>match pZ n ⟨.ops ops (i::todo) k,e,w,kn⟩ with
  |some (true,p,_)=>match axN P n p e with
   |some (ob,m)=>some ⟨.ops ops todo k,upd p.dst (abk b m) e,.b b ob::w,kn⟩
   |none=>none
  |_=>none
 |_=>none
theorem OD{ops:Array Oper}{k:List KI}{e':Env}{w:List Sg}{g:Bool}(h:pZ n ⟨.ops ops (i::todo) k,e,w,kn⟩=some (g,p,e')):ops[i]?=some p∧e'=e∧(g=true→aw ops n e p.guard=true):=by
 simp only[pZ] at h
 split at h<;>try (cases h;done)
 rename_i p1 ho
 split at h<;>try (cases h;done)
 rename_i g1 hg
 cases h
 refine⟨ho,rfl,fun hg'=>?_⟩
 subst hg'
 have:=ng hg []
 rwa[List.append_nil] at this
theorem jn(hj:∀b,J X (apb X.P X.n b o)):J X o:=by
 unfold apb at hj
 split at hj
 ·rename_i ops i todo k e w kn
  split at hj
  ·rename_i p e' hh
   obtain⟨ho,rfl,hw⟩:=OD hh
   have hw:=hw rfl
   intro bP
   rcases p with ⟨dst,op,ty,pos,cS,g⟩
   split at hj
   ·rename_i ob m hn
    have key:∀b,ab X.C X.fn X.ay ops todo (KQ X k) (A X.n (upd dst (abk b m) e') X.D) ⟨X.ro,(b,ob)::den w⟩:=fun b=>by
     have:=hj b bP
     simp only[JP,ib] at this
     exact this
    unfold axN at hn
    split at hn
    ·rename_i T ax
     dsimp only at ax;subst ax
     split at hn<;>try (cases hn;done)
     rename_i ti dI
     cases hn
     obtain⟨bu,tf⟩:=ar dI
     exact aiB X.hC ho hw tf fun b _=>key b
    ·rename_i T x ax
     dsimp only at ax;subst ax
     split at hn<;>try (cases hn;done)
     rename_i v hx
     cases hn
     exact axF X.hC ho hw hx (by rw[lL]) fun b _=>key b
    ·rename_i T m0 ps ax
     dsimp only at ax;subst ax
     split at hn<;>try (cases hn;done)
     rename_i E _ _ _ dI
     split at hn<;>try (cases hn;done)
     rename_i te tJ
     split at hn<;>try (cases hn;done)
     rename_i pv HD
     split at hn<;>try (cases hn;done)
     rename_i l hl
     cases hc:(Nat.beq te.zero.length te.size&&Nat.ble (m0*te.size) 16777216) with
     |false=>rw[hc] at hn;cases hn
     |true=>
      rw[hc] at hn;simp only[cond_true,Option.some.injEq,Prod.mk.injEq] at hn
      obtain⟨rfl,rfl⟩:=hn
      simp only[Bool.and_eq_true] at hc
      obtain⟨bu,tf⟩:=ar dI
      obtain⟨Av,qo⟩:=ar tJ
      exact Kj X.hC ho hw tf qo hc.1 HD hc.2 hl fun b _=>key b
    ·rename_i T x ax
     dsimp only at ax;subst ax
     split at hn<;>try (cases hn;done)
     rename_i dI
     split at hn<;>try (cases hn;done)
     rename_i bs hx
     cases hn
     obtain⟨bu,tf⟩:=ar dI
     exact Rg X.hC ho hw tf hx fun b _=>key b
    ·cases hn
   ·exact(hj 0).elim
  ·exact(hj 0).elim
 ·exact(hj 0).elim
def afV(n:Nat)(p:Oper)(e:Env):Option (FuncId×List Value):=match p.op with
 | .call ⟨.value x,xs,_⟩=>match ba n e x with
  |some (.func (.func f) ⟨fi⟩ ⟨ca⟩)=>match xq n e xs.toList with
   |some vs=>some (f,fi++vs++ca)
   |none=>none
  |_=>none
 |_=>none
def xK(P:Program)(n:Nat)(p:Oper)(e:Env):Option (FuncId×List Value):=match afV n p e with
 |some (f,vs)=>bif AR P f then some (f,vs) else none
 |none=>none
theorem qg(h:xK P n p e=some (f,vs)):FF P f∧∃x xs at_ fi ca ws,p.op= .call ⟨.value x,xs,at_⟩∧ba n e x=some (.func (.func f) ⟨fi⟩ ⟨ca⟩)∧uO n e xs=some ws∧vs=fi++ws++ca:=by
 unfold xK at h
 split at h<;>try (cases h;done)
 rename_i f' nI hc
 cases hb:AR P f' with
 |false=>rw[hb] at h;cases h
 |true=>
  rw[hb] at h;simp only[cond_true,Option.some.injEq,Prod.mk.injEq] at h
  obtain⟨rfl,rfl⟩:=h
  refine⟨kG hb,?_⟩
  unfold afV at hc
  split at hc<;>try (cases hc;done)
  rename_i x xs at_ ax
  split at hc<;>try (cases hc;done)
  rename_i f fi ca hx
  split at hc<;>try (cases hc;done)
  rename_i ws rq
  cases hc
  exact⟨x,xs,at_,fi,ca,ws,ax,hx,rq,rfl⟩
theorem PB(a b c:List Value):(⟨a⟩:Array Value)++⟨b⟩++⟨c⟩=⟨a++b++c⟩:=by simp
def mH(ps:List Nat)(v:Value)(Y:Cells):Option JS→Option JS
 |some ⟨.ops ops (i::todo) k,e,w,kn⟩=>match ops[i]? with
  |some p=>some ⟨.ops ops todo k,upd p.dst v e,.l Y::dj ps 0 w,kn⟩
  |none=>none
 |_=>none
def eR(n:Nat)(f:Oper→Env→Option β):Option JS→Option β
 |some ⟨.ops a b c,e,w,kn⟩=>du n f (some ⟨.ops a b c,e,w,kn⟩)
 |_=>none
theorem db{f:Oper→Env→Option β}{r:β}(h:eR n f o=some r):∃ops i todo k e w kn p,o=some ⟨.ops ops (i::todo) k,e,w,kn⟩∧ops[i]?=some p∧aw ops n e p.guard=true∧f p e=some r:=by
 unfold eR at h
 split at h<;>try (cases h;done)
 rename_i ops todo k e w kn
 obtain⟨s,p,e',hs,hh,hf⟩:=rM h
 cases hs
 cases todo with
 |nil=>cases hh
 |cons i todo=>
  obtain⟨ho,rfl,hw⟩:=OD hh
  exact⟨ops,i,todo,k,e',w,kn,p,rfl,ho,hw rfl,hf⟩
def alX(ps lp:List Nat):Option JS→Option Cells
 |some s=>dN lp (some {s with rw:=dj ps 0 s.rw})
 |none=>none
theorem nG{ops:Array Oper}{k:List KI}{w:List Sg}{v:Value}{Y:Cells}(ho:ops[i]?=some p):mH ps v Y (some ⟨.ops ops (i::todo) k,e,w,kn⟩)=some ⟨.ops ops todo k,upd p.dst v e,.l Y::dj ps 0 w,kn⟩:=by
 simp only[mH,ho]
theorem YQ{own:Cells}(ps lp:List Nat)(B:Cells)(hf:∀aA,Sub X.ro aA→Knows aA B→eo X.P f vs aA own Φ)(hj:∀v Y,Φ v Y→J X (mH ps v Y o))(h1:eR X.n (xK X.P X.n) o=some (f,vs):=by kernel_rfl)(h2:dN ps o=some own:=by kernel_rfl)(h3:alX ps lp o=some B:=by kernel_rfl):J X o:=by
 obtain⟨ops,i,todo,k,e,w,kn,p,rfl,ho,hw,hc⟩:=db h1
 obtain⟨ff,x,xs,at_,fi,ca,ws,ax,hx,rq,rfl⟩:=qg hc
 intro bP
 rcases p with ⟨dst,op,ty,pos,cS,g⟩
 dsimp only at ax;subst ax
 have hp:=bB h2
 refine abc (own:=own) (B:=B) (Φ:=Φ) X.hC ho hw hx ff rq (PB fi ws ca) hp (fun y hy=>(bB h3).mem_iff.2 (List.mem_append_left _ hy)) (fun aA hs hB=>hf aA hs hB) (fun v Y pR=>?_)
 have:=hj v Y pR
 simp only[mH,ho] at this
 have:=this bP
 simp only[JP,fY] at this
 exact this
theorem jc{own:Cells}(ps:List Nat)(hf:eo X.P f vs X.ro own Φ)(hj:∀v Y,Φ v Y→J X (mH ps v Y o))(h1:eR X.n (xK X.P X.n) o=some (f,vs):=by kernel_rfl)(h2:dN ps o=some own:=by kernel_rfl):J X o:=by
 obtain⟨ops,i,todo,k,e,w,kn,p,rfl,ho,hw,hc⟩:=db h1
 obtain⟨ff,x,xs,at_,fi,ca,ws,ax,hx,rq,rfl⟩:=qg hc
 intro bP
 rcases p with ⟨dst,op,ty,pos,cS,g⟩
 dsimp only at ax;subst ax
 have hp:=bB h2
 refine tE (fi:=⟨fi⟩) (ca:=⟨ca⟩) (ws:=fi++ws++ca) X.hC ho hw hx ff rq (PB fi ws ca) (Fn.weaken X.hC (eo.avB (s:=⟨X.ro,den w⟩) hp hf)) (fun v' s' hr=>?_) (fun ch s' hr=>by obtain⟨_,_,e,_⟩:=hr;cases e) (fun s' hr=>by obtain⟨_,_,e,_⟩:=hr;cases e)
 obtain⟨v,Y,hv,pR,hle⟩:=hr
 cases hv
 have:=hj _ Y pR
 simp only[mH,ho] at this
 have:=this bP
 simp only[JP,fY] at this
 exact this.more X.hC hle
theorem jp{V:Value}(lp:List Nat)(B:Cells)(hf:∀aA,Sub X.ro aA→Knows aA B→dz X.P f vs aA V)(hj:J X (J7 B V o))(h1:du X.n (xK X.P X.n) o=some (f,vs):=by kernel_rfl)(h3:dN lp o=some B:=by kernel_rfl):J X o:=by
 refine jGN h1 h3 (fun s p e ho hh hc=>?_) hj
 obtain⟨ff,x,xs,at_,fi,ca,ws,ax,hx,rq,rfl⟩:=qg hc
 rcases p with ⟨dst,op,ty,pos,cS,g⟩
 dsimp only at ax;subst ax
 refine⟨rfl,fun s0 FE uB ops i su rest hw s' hs todo Q hk=>?_⟩
 have hez:Ext ⟨X.ro,B⟩ s':=fun b ob hb=>hs _ _ (hb.elim (fun h=>FE _ _ (.inl h)) fun h=>uB (b,ob) h)
 exact NH X.hC su hw (aY hx) ff (wK rq) (PB fi ws ca) hez (fun aA h1=>hf aA (Ey h1) fun y hy=>h1 _ _ (.inr hy)) hk
end
attribute [irreducible] eR M5 Ic apb mH alX
def sG(P:Program)(f:FuncId):Func:=match P.funcs[f]? with
 |some fn=>fn
 |none=>default
abbrev RX(ro:Nat→Option Obj)(Φ:Value→Cells→Prop):Ending→St→Prop:=fun en s'=>∃v X,en= .returned v∧s'=⟨ro,X⟩∧Φ v X
def X0(P:Program)(hm:P.follows .mixedOrders=true)(f:FuncId)(ro:Nat→Option Obj)(R:Ending→St→Prop):Cx:=⟨P,CP P,eL,hm,f,none,(sG P f).ntmps,[],ro,qR P (sG P f) R⟩
def ky(P:Program)(f:FuncId)(args:List Value)(own:List Sg)(kn:Cells):Option JS:=match P.funcs[f]? with
 |some fn=>match fn.body with
  |some c=>bif Nat.ble args.length fn.ntmps then some ⟨.code c [],fG 0 args,own,⟨kn,[]⟩⟩ else none
  |none=>none
 |none=>none
theorem ayi{hm:P.follows .mixedOrders=true}{ro:Nat→Option Obj}(own:List Sg)(kn:Cells)(hk:Knows ro kn)(h:J (X0 P hm f ro R) (ky P f args own kn)):Fn (CP P) P f ⟨args⟩ ⟨ro,den own⟩ R:=by
 unfold ky at h
 split at h<;>try exact h.elim
 rename_i fn hf
 split at h<;>try exact h.elim
 rename_i c hc
 cases hl:Nat.ble args.length fn.ntmps with
 |false=>rw[hl] at h;exact h.elim
 |true=>
  rw[hl] at h
  have uA:sG P f=fn:=by simp only[sG,hf]
  have:=h hk
  simp only[JP,X0,KQ,uA] at this
  exact O3 eL hf hc rfl hl this
theorem bA(hm:P.follows .mixedOrders=true){ro:Nat→Option Obj}{L:Cells}(own:List Sg)(kn:Cells)(hk:Knows ro kn)(h:J (X0 P hm f ro (RX ro Φ)) (ky P f args own kn))(hL:den own=L:=by rfl):eo P f args ro L Φ:=by
 subst hL;exact ayi own kn hk h
def A3(P:Program)(n:Nat)(e:Env)(w:List Sg)(kn:Cells):List Nat→List ResultVar→Option (List Value×List (Nat×Nat))
 |_,[]=>some ([],[])
 |hs,.tmp t::rs=>match ba n e (.tmp t) with
  |some v=>match A3 P n e w kn hs rs with
   |some (vs,q)=>some (v::vs,q)
   |none=>none
  |none=>none
 |h::hs,.cell t T::rs=>match ba n e (.tmp t) with
  |some (.pointer (some ⟨b,off,none⟩))=>match As w kn h with
   |some (b',l)=>match ldv P T l off with
    |some v=>match A3 P n e w kn hs rs with
     |some (vs,q)=>some (v::vs,(b',b)::q)
     |none=>none
    |none=>none
   |none=>none
  |_=>none
 | [],.cell _ _::_=>none
def jD(P:Program)(n:Nat)(f:FuncId)(hs:List Nat):Option JS→Option (Value×List (Nat×Nat))
 |some ⟨.fin _,e,w,kn⟩=>match A3 P n e w kn.c hs (sG P f).results.toList with
  |some (vs,q)=>some (uf vs,q)
  |none=>none
 |_=>none
def sD:Option (Value×List (Nat×Nat))→Option Value
 |some (v,_)=>some v
 |none=>none
def Qd:Option (Value×List (Nat×Nat))→List Nat
 |some (_,q)=>SK q
 |none=>[0]
def Qc:Option (Value×List (Nat×Nat))→List Nat
 |some (_,q)=>QB q
 |none=>[1]
theorem tj{w:List Sg}{kn:Cells}(bP:Knows X.ro kn):∀ {hs:List Nat} {rs:List ResultVar} {vs:List Value} {q:List (Nat×Nat)},A3 X.P X.n e w kn hs rs=some (vs,q)→(∀p∈q,p.1=p.2)→Dz X.P ⟨X.ro,den w⟩ X.n e rs vs
 |_,[],vs,q,h,_=>by simp only[A3,Option.some.injEq,Prod.mk.injEq] at h;obtain⟨rfl,rfl⟩:=h;exact .nil
 |hs,.tmp t::rs,vs,q,h,hq=>by
  simp only[A3] at h
  split at h<;>try (cases h;done)
  rename_i v hv
  split at h<;>try (cases h;done)
  rename_i nI q' hr
  simp only[Option.some.injEq,Prod.mk.injEq] at h;obtain⟨rfl,rfl⟩:=h
  exact .tmp hv (tj bP hr hq)
 | [],.cell _ _::_,vs,q,h,_=>by simp only[A3] at h;cases h
 |h0::hs,.cell t T::rs,vs,q,h,hq=>by
  simp only[A3] at h
  split at h<;>try (cases h;done)
  rename_i b off hv
  split at h<;>try (cases h;done)
  rename_i b' l hc
  split at h<;>try (cases h;done)
  rename_i v hld
  split at h<;>try (cases h;done)
  rename_i nI q' hr
  simp only[Option.some.injEq,Prod.mk.injEq] at h;obtain⟨rfl,rfl⟩:=h
  have hb:b'=b:=hq _ List.mem_cons_self
  subst hb
  obtain⟨t',fz,hh⟩:=yB (X:=X) bP hc
  have ih:=tj bP hr fun p hp=>hq p (List.mem_cons_of_mem _ hp)
  unfold ldv at hld
  split at hld<;>try (cases hld;done)
  rename_i ti dI
  obtain⟨bu,tf⟩:=ar dI
  cases ha:ti.agg with
  |true=>
   rw[ha] at hld tf;simp only[cond_true] at hld
   split at hld<;>try (cases hld;done)
   rename_i vs2 Dg
   cases hld
   exact .agg tf hv ⟨_,_,_,hh,Dg⟩ ih
  |false=>
   rw[ha] at hld tf;simp only[cond_false] at hld
   exact .cell tf hv ⟨_,_,_,hh,hld⟩ ih
def BK:Option JS→Bool
 |some ⟨.fin .ret,_,_,_⟩=>true
 |some ⟨.fin .normal,_,_,_⟩=>true
 |_=>false
theorem sI{o:Option JS}(h:BK o=true):∃ex e w kn,o=some ⟨.fin ex,e,w,kn⟩∧(ex= .ret∨ex= .normal):=by
 unfold BK at h
 split at h
 ·exact⟨_,_,_,_,rfl,.inl rfl⟩
 ·exact⟨_,_,_,_,rfl,.inr rfl⟩
 ·cases h
def abJ:Option JS→Bool
 |some ⟨.ops ..,_,_,_⟩=>true
 |some ⟨.code ..,_,_,_⟩=>true
 |_=>false
structure QR(X:Cx)(R:Ending→St→Prop):Prop where
 q:X.Q=qR X.P (sG X.P X.fn) R
 d:X.D=[]
theorem q0{hm:P.follows .mixedOrders=true}{ro:Nat→Option Obj}:QR (X0 P hm f ro R) R:=⟨rfl,rfl⟩
theorem QR.a{ro:Nat→Option Obj}(h:QR X R):QR (X.at ro) R:=⟨h.q,h.d⟩
theorem bn{ro:Nat→Option Obj}:Knows ro []:=fun _ h=>by cases h
section
variable {X:Cx} {o:Option JS}
theorem aE{oM:Nat→Option Obj}(hq:QR X R)(v:Value)(hs ps:List Nat)(Y:Cells)(fq:Sub oM X.ro)(hR:R (.returned v) ⟨oM,Y⟩)(h1:sD (jD X.P X.n X.fn hs o)=some v:=by kernel_rfl)(h2:Qd (jD X.P X.n X.fn hs o)=Qc (jD X.P X.n X.fn hs o):=by kernel_rfl)(h3:dN ps o=some Y:=by kernel_rfl)(h4:BK o=true:=by kernel_rfl):J X o:=by
 obtain⟨ex,e,w,kn,rfl,hex⟩:=sI h4
 simp only[jD] at h1 h2
 cases hr:A3 X.P X.n e w kn.c hs (sG X.P X.fn).results.toList with
 |none=>rw[hr] at h1;cases h1
 |some x=>
  rcases x with ⟨vs,q⟩
  simp only[hr,sD,Option.some.injEq,Qd,Qc] at h1 h2
  intro bP
  have rz:=tj bP hr (lJ h2)
  have hp:=bB h3
  show X.Q ex (A X.n e X.D) ⟨X.ro,den w⟩
  rw[hq.q,hq.d]
  exact M9 (s0:=⟨oM,Y⟩) hex rz h1 (dH hp fq) hR
def wo(X:Cx)(K:Act→St→Prop)(ef:ι→Env)(wf:ι→List Sg)(Inv:ι→Prop)(μ:ι→Nat)(m:Nat):Prop:=
 ∀j,Inv j→μ j <m→∀(e:Env) (s:St),ko e (ef j)→(⟨X.ro,den (wf j)⟩:St).le s→K (A X.n e X.D) s
def xu:List Nat→List (Act→St→Prop)→Code→List KI→Option (Code×List KI)
 | [],_,c,k=>some (c,k)
 |0::p,Ks,.seq a b,k=>xu p Ks a (.seq b::k)
 |1::p,Ks,.seq _ b,k=>xu p Ks b k
 |2::p,K::Ks,.seq a _,k=>xu p Ks a (.next K::k)
 |_::p,Ks,.block id c,k=>xu p Ks c (.block id::k)
 |_::p,Ks,.scope c,k=>xu p Ks c k
 |0::p,Ks,.cond _ a _,k=>xu p Ks a k
 |_::p,Ks,.cond _ _ b,k=>xu p Ks b k
 |_::p,K::Ks,.loop c,k=>xu p Ks c (.next K::k)
 |_::p,Ks,.rangeFunc _ _ _ b,_=>xu p Ks b []
 |_,_,_,_=>none
def HZ(P:Program)(f:FuncId)(p:List Nat)(Ks:List (Act→St→Prop)):Option (Code×List KI):=match (sG P f).body with
 |some c=>xu p Ks c []
 |none=>none
def stC(e:Env)(w:List Sg):Option (Code×List KI)→Option JS
 |some (c,k)=>some ⟨.code c k,e,w,⟨[],[]⟩⟩
 |none=>none
def stW(P:Program)(f:FuncId)(p:List Nat)(Ks:List (Act→St→Prop))(e:Env)(w:List Sg):Option JS:=stC e w (HZ P f p Ks)
def xH:Option JS→Option (Code×List KI)
 |some ⟨.code c k,_,_,_⟩=>some (c,k)
 |_=>none
def lpB(K:Act→St→Prop):Option (Code×List KI)→Option (Code×List KI)
 |some (.loop c,k)=>some (c,.next K::k)
 |_=>none
theorem ez(p:List Nat)(Ks:List (Act→St→Prop))(ef:ι→Env)(wf:ι→List Sg)(Inv:ι→Prop)(μ:ι→Nat)(i0:ι)(h0:Inv i0)(ps:List Nat)(hb:∀i,Inv i→∀K,wo X K ef wf Inv μ (μ i)→∀rest,J X (stW X.P X.fn p (Ks++[K]) (ef i++rest) (wf i)))
 (h1:ug (oI (ef i0)) o=some (ef i0):=by kernel_rfl)(hd:∀i,YO (oI (ef i)) (ef i)=some (ef i):=by intro _;kernel_rfl)(h2:qE ps o=some (wf i0):=by kernel_rfl)(hp:∀K,HZ X.P X.fn p (Ks++[K])=lpB K (xH o):=by intro _;kernel_rfl):J X o:=by
 have hT:∀i,wo X (fun _ _=>True) ef wf Inv μ (μ i):=fun _ _ _ _ _ _ _ _=>trivial
 have bad:∀(K:Act→St→Prop),lpB K (xH o)=none→(∀i,wo X K ef wf Inv μ (μ i))→J X o:=fun K h hK=>by
  have:=hb i0 h0 K (hK i0) []
  simp only[stW,hp,h,stC] at this
  exact this.elim
 cases o with
 |none=>exact bad _ rfl hT
 |some s=>
  rcases s with ⟨q,e,w,kn⟩
  cases q with
  |code c k=>
   cases c with
   |loop c=>
    intro bP
    refine Zk X.hC ef (fun i=>⟨X.ro,den (wf i)⟩) Inv μ i0 h0 (j6 (by rw[sj] at h1;exact h1)) (j6 (hd i0)) (dH (lf h2) (Sub.refl _)) fun i hi rest=>?_
    have:=hb i hi _ (fun j hj hm e s hc hle=>aiE j hj hm hc (j6 (hd j)) hle) rest
    simp only[stW,hp,xH,lpB,stC] at this
    exact this fun _ h=>(List.not_mem_nil h).elim
   |_=>exact bad _ rfl hT
  |_=>exact bad _ rfl hT
def Xc:Option JS→Option (Act→St→Prop)
 |some ⟨.nxt K,_,_,_⟩=>some K
 |_=>none
theorem bO{K:Act→St→Prop}{ef:ι→Env}{wf:ι→List Sg}{Inv:ι→Prop}{μ:ι→Nat}{m:Nat}(hK:wo X1 K ef wf Inv μ m)(j:ι)(h:Inv j)(hm:μ j <m)(ps:List Nat)(hs:Sub X1.ro X.ro)
 (h0:Xc o=some K:=by kernel_rfl)(h1:ug (oI (ef j)) o=some (ef j):=by kernel_rfl)(h2:qE ps o=some (wf j):=by kernel_rfl)(hn:X1.n=X.n:=by rfl)(hD:X1.D=X.D:=by rfl):J X o:=by
 unfold Xc at h0
 split at h0<;>try (cases h0;done)
 rename_i K' e w kn
 cases h0
 intro _
 rw[sj] at h1
 have:=hK j h hm e ⟨X.ro,den w⟩ (j6 h1) (dH (lf h2) hs)
 rw[hn,hD] at this
 exact this
def gS:List (List Nat)→List Sg→Option (List Cells)
 | [],_=>some []
 |p::r,w=>match No p w with
  |some x=>match gS r w with
   |some y=>some (den x::y)
   |none=>none
  |none=>none
def gO(ps:List (List Nat)):Option JS→Option (List Cells)
 |some s=>bif E7 ps.flatten then gS ps s.rw else none
 |none=>none
def Wy:List Sg→List Cells
 | []=>[]
 |x::w=>den [x]::Wy w
theorem EE:∀(w:List Sg),(Wy w).flatten=den w
 | []=>rfl
 | .b i o::w=>by simp[Wy,ib,EE w];rfl
 | .l L::w=>by simp[Wy,fY,EE w];rfl
theorem Up:∀ {a b:List Nat} {w x y:List Sg},No a w=some x→No b w=some y→No (a++b) w=some (x++y)
 | [],b,w,x,y,h,h2=>by simp only[No,Option.some.injEq] at h;subst h;exact h2
 |i::a,b,w,x,y,h,h2=>by
  simp only[No] at h
  split at h<;>try (cases h;done)
  rename_i z hz
  split at h<;>try (cases h;done)
  rename_i r hr
  cases h
  simp only[List.cons_append,No,hz,Up hr h2]
theorem amO:∀ {ps:List (List Nat)} {w:List Sg} {l:List Cells},gS ps w=some l→∃z,No ps.flatten w=some z∧den z=l.flatten
 | [],w,l,h=>by simp only[gS,Option.some.injEq] at h;subst h;exact⟨[],rfl,rfl⟩
 |p::r,w,l,h=>by
  simp only[gS] at h
  split at h<;>try (cases h;done)
  rename_i x hx
  split at h<;>try (cases h;done)
  rename_i y hy
  cases h
  obtain⟨z,h1,h2⟩:=amO hy
  exact⟨x++z,by simpa using Up hx h1,by simp[kV,h2]⟩
theorem N3{K:Act→St→Prop}{ef:ι→Env}{wf:ι→List Sg}{Inv:ι→Prop}{μ:ι→Nat}{m:Nat}(hK:wo X1 K ef wf Inv μ m)(j:ι)(h:Inv j)(hm:μ j <m)(ps:List (List Nat))(hs:Sub X1.ro X.ro)
 (h0:Xc o=some K:=by kernel_rfl)(h1:ug (oI (ef j)) o=some (ef j):=by kernel_rfl)(h2:gO ps o=some (Wy (wf j)):=by kernel_rfl)(hn:X1.n=X.n:=by rfl)(hD:X1.D=X.D:=by rfl):J X o:=by
 unfold Xc at h0
 split at h0<;>try (cases h0;done)
 rename_i K' e w kn
 cases h0
 intro _
 rw[sj] at h1
 have hp:(den w).Perm (den (wf j)++den (dj ps.flatten 0 w)):=by
  simp only[gO] at h2
  cases ho:E7 ps.flatten with
  |false=>rw[ho] at h2;cases h2
  |true=>
   rw[ho] at h2
   obtain⟨z,h3,h4⟩:=amO h2
   rw[EE] at h4
   rw[←h4]
   exact wC h3 ho
 have:=hK j h hm e ⟨X.ro,den w⟩ (j6 h1) (dH hp hs)
 rw[hn,hD] at this
 exact this
def aEA:Option (Code×List KI)→Option (Code×List KI)
 |some (_,.seq y::k)=>some (y,k)
 |_=>none
def atc(K:Act→St→Prop):Option JS→Option JS
 |some ⟨.code x (.seq _::k),e,w,kn⟩=>some ⟨.code x (.next K::k),e,w,kn⟩
 |_=>none
theorem IT(p:List Nat)(Ks:List (Act→St→Prop))(ef:ι→Env)(wf:ι→List Sg)(Inv:ι→Prop)(hj:∀i,Inv i→∀rest,J X (stW X.P X.fn p Ks (ef i++rest) (wf i)))(h:∀K,wo X K ef wf Inv (fun _=>0) 1→J X (atc K o))(hd:∀i,YO (oI (ef i)) (ef i)=some (ef i):=by intro _;kernel_rfl)(hp:HZ X.P X.fn p Ks=aEA (xH o):=by kernel_rfl):J X o:=by
 unfold atc at h
 split at h
 ·rename_i x y k e w kn
  intro bP
  refine h (fun a s=>Wp X.C X.fn X.ay y (KQ X k) a s) (fun j hI _ e s hc hle=>?_) bP
  obtain⟨r,hr⟩:=fP (n:=X.n) (D:=X.D) hc (j6 (hd j))
  rw[hr]
  have:=hj j hI r
  simp only[stW,hp,xH,aEA,stC] at this
  exact(this fun _ h=>(List.not_mem_nil h).elim).more X.hC hle
 ·exact(h (fun _ _=>True) fun _ _ _ _ _ _ _=>trivial).elim
def expand:Cells→List Sg
 | []=>[]
 |x::l=> .b x.1 x.2::expand l
def SU:Nat→List Sg→List Sg
 |_,[]=>[]
 |0,.l L::w=>expand L++w
 |0,x::w=>x::w
 |i+1,x::w=>x::SU i w
theorem Tt{w w':List Sg}{p:Pos}(h:den w'=den w)(hj:JP X kn e w' p):JP X kn e w p:=by
 cases p<;>simp only[JP,h] at hj ⊢ <;>exact hj
def aDK(i:Nat):Option JS→Option JS
 |some s=>some {s with rw:=SU i s.rw}
 |none=>none
def VY:List Sg→Cells
 | []=>[]
 | .b i o::w=>(i,o)::VY w
 | .l _::w=>VY w
theorem wR:∀ {w:List Sg} {x:Nat×Obj},x∈VY w→x∈den w
 | .b i o::w,x,h=>by
  rw[ib]
  rcases List.mem_cons.1 h with rfl|h
  ·exact List.mem_cons_self
  ·exact List.mem_cons_of_mem _ (wR h)
 | .l L::w,x,h=>by rw[fY];exact List.mem_append_right _ (wR (w:=w) h)
def akp(ps:List Nat):Option JS→Option JS
 |some s=>match No ps s.rw with
  |some w=>some {s with rw:=dj ps 0 s.rw,kn:=⟨VY w++s.kn.c,s.kn.nd⟩}
  |none=>none
 |none=>none
theorem GZ{aK:Nat→Option Obj}:∀(k:List KI),KQ (X.at aK) k=KQ X k
 | []=>rfl
 | .seq _::k=>by simp only[KQ,GZ k];rfl
 | .block _::k=>by simp only[KQ,GZ k]
 | .next _::k=>by simp only[KQ,GZ k]
theorem jf(ps:List Nat)(L:Cells)(h:∀aK,Sub X.ro aK→Knows aK L→J (X.at aK) (akp ps o))(h2:dN ps o=some L:=by kernel_rfl)(hp:abJ o=true:=by kernel_rfl):J X o:=by
 have hpk:∀ {s:JS},dN ps (some s)=some L→∃w,No ps s.rw=some w∧den w=L:=by
  intro s hs
  simp only[dN,qE] at hs
  cases hk:E7 ps with
  |false=>rw[hk] at hs;cases hs
  |true=>
   rw[hk] at hs;simp only[cond_true] at hs
   split at hs<;>try (cases hs;done)
   rename_i w hw
   cases hs
   exact⟨w,hw,rfl⟩
 unfold abJ at hp
 split at hp
 ·rename_i ops todo k e w kn
  intro bP
  obtain⟨w1,hw1,rfl⟩:=hpk h2
  refine Rc X.hC (bB h2) fun aK hs hk=>?_
  have:=h aK hs hk
  simp only[akp,hw1] at this
  have:=this (fun x hx=>(List.mem_append.1 hx).elim (fun hx=>hk x (wR hx)) fun hx=>hs _ _ (bP x hx))
  simp only[JP,GZ] at this
  exact this
 ·rename_i c k e w kn
  intro bP
  obtain⟨w1,hw1,rfl⟩:=hpk h2
  refine Wh X.hC (bB h2) fun aK hs hk=>?_
  have:=h aK hs hk
  simp only[akp,hw1] at this
  have:=this (fun x hx=>(List.mem_append.1 hx).elim (fun hx=>hk x (wR hx)) fun hx=>hs _ _ (bP x hx))
  simp only[JP,GZ] at this
  exact this
 ·cases hp
def geO:Option JS→Option JS
 |some s=>some {s with rw:= .l []::s.rw}
 |none=>none
theorem pQ(h:J X (geO o)):J X o:=by
 cases o with
 |none=>exact h
 |some s=>exact fun bP=>Tt (by simp[fY]) (h bP)
def sgS:Nat→List Sg→List Sg→List Sg
 |_,_,[]=>[]
 |0,l,_::w=>l++w
 |i+1,l,x::w=>x::sgS i l w
theorem T1{l:List Sg}:∀ {i:Nat} {w:List Sg} {x:Sg},x3 w i=some x→den [x]=den l→den (sgS i l w)=den w
 |_,[],_,h,_=>by cases h
 |0,y::w,x,h,hd=>by
  simp only[x3,Option.some.injEq] at h;subst h
  have:den (y::w)=den [y]++den w:=by rw[←kV];rfl
  rw[this,hd,←kV];rfl
 |i+1,y::w,x,h,hd=>by
  have:=T1 (w:=w) (i:=i) h hd
  cases y<;>simp[sgS,ib,fY,this]
def sgO(i:Nat)(l:List Sg):Option JS→Option JS
 |some s=>some {s with rw:=sgS i l s.rw}
 |none=>none
theorem jg(i:Nat)(l:List Sg)(h:J X (sgO i l o))(h2:dN [i] o=some (den l):=by kernel_rfl):J X o:=by
 cases o with
 |none=>exact h
 |some s=>
  have hn:∃x,x3 s.rw i=some x∧den [x]=den l:=by
   simp only[dN,qE,E7,aX,No,Bool.not_false,Bool.true_and,cond_true] at h2
   cases hx:x3 s.rw i with
   |none=>rw[hx] at h2;cases h2
   |some x=>rw[hx] at h2;simp only[Option.some.injEq] at h2;exact⟨x,rfl,h2⟩
  obtain⟨x,hx,hd⟩:=hn
  exact fun bP=>Tt (T1 hx hd) (h bP)
theorem jmw(i:Nat)(l:List Sg){L:Cells}(h:L=den l)(hj:J X (sgO i l o))(h2:dN [i] o=some L:=by kernel_rfl):J X o:=by
 subst h;exact jg i l hj h2
end
def Cx.wd(X:Cx)(D:List Deferred):Cx:={X with D:=D}
theorem PK{D:List Deferred}:∀(k:List KI),KQ (X.wd D) k=KQ X k
 | []=>rfl
 | .seq _::k=>by simp only[KQ,PK k];rfl
 | .block _::k=>by simp only[KQ,PK k]
 | .next _::k=>by simp only[KQ,PK k]
def Ef(X:Cx)(K:Act→St→Prop)(ef:ι→Env)(wf:ι→List Sg)(df:ι→List Deferred)(Inv:ι→Prop)(μ:ι→Nat)(m:Nat):Prop:=
 ∀j,Inv j→μ j <m→∀(e:Env) (s:St),ko e (ef j)→(⟨X.ro,den (wf j)⟩:St).le s→K (A X.n e (df j)) s
section
variable {X:Cx} {o:Option JS}
theorem Zl{C:Class}{fn:FuncId}{ay:Option Nat}{Q:Post}{env:Env}{s:St}(hC:∀main T,C main T→Closed X.P main T)(oT:ι→Env)(sf:ι→St)(df:ι→List Deferred)(Inv:ι→Prop)(μ:ι→Nat){c:Code}(i0:ι)(h0:Inv i0)(hc:ko env (oT i0))(hd:∀i,ko (oT i) (oT i))(hs:(sf i0).le s)
 (round:∀i,Inv i→∀rest,Wp C fn ay c (lv (fun a s=>∃j,Inv j∧μ j <μ i∧(∃e,ko e (oT j)∧a=A n e (df j))∧(sf j).le s) Q) (A n (oT i++rest) (df i)) (sf i)):Wp C fn ay (.loop c) Q (A n env (df i0)) s:=by
 obtain⟨r0,uL⟩:=fP (n:=n) (D:=df i0) hc (hd i0)
 rw[uL]
 intro main T hT b k cs h1 h2 h3 h4
 have key:∀m i rest s,μ i=m→Inv i→(sf i).le s→T (G (aH b (A n (oT i++rest) (df i)) (.code c:: .inLoop c::k)) cs) s:=by
  intro m
  induction m using Nat.strongRecOn with
  |_ m ih=>
   intro i rest s hm hI hle
   refine(hC main T hT).mono _ _ _ hle ?_
   refine round i hI rest main T hT b (.inLoop c::k) cs h1 h2 h3 fun e a' s' q=>?_
   cases e with
   |normal=>
    obtain⟨j,yu,cz,⟨e,he,rfl⟩,xm⟩:=q
    obtain⟨aar,hr⟩:=fP (n:=n) (D:=df j) he (hd j)
    rw[hr]
    exact(hC main T hT).go rfl rfl (g':=G (aH b _ (.code c:: .inLoop c::k)) cs) (fun w=>by simp[G,stepG,stepG.exec,aH]) (ih _ (hm▸cz) j aar s' rfl yu xm)
   |exit id=>exact(h4 _ _ _ q).push rfl (by simp)
   |ret=>exact(h4 _ _ _ q).push (x:= .inLoop c) rfl (by simp)
   |panic ch=>exact(h4 _ _ _ q).push (x:= .inLoop c) rfl (by simp)
   |goto l=>exact(h4 _ _ _ q).elim
   |outgrown=>exact(h4 _ _ _ q).elim
 exact(hC main T hT).go rfl rfl (g':=G (aH b (A n (oT i0++r0) (df i0)) (.code c:: .inLoop c::k)) cs) (fun w=>by simp[G,stepG,stepG.exec,aH]) (key _ i0 r0 s rfl h0 hs)
theorem ayl(p:List Nat)(Ks:List (Act→St→Prop))(ef:ι→Env)(wf:ι→List Sg)(df:ι→List Deferred)(Inv:ι→Prop)(μ:ι→Nat)(i0:ι)(h0:Inv i0)(ps:List Nat)(hb:∀i,Inv i→∀K,Ef X K ef wf df Inv μ (μ i)→∀rest,J (X.wd (df i)) (stW X.P X.fn p (Ks++[K]) (ef i++rest) (wf i)))
 (h1:ug (oI (ef i0)) o=some (ef i0):=by kernel_rfl)(hd:∀i,YO (oI (ef i)) (ef i)=some (ef i):=by intro _;kernel_rfl)(h2:qE ps o=some (wf i0):=by kernel_rfl)(hp:∀K,HZ X.P X.fn p (Ks++[K])=lpB K (xH o):=by intro _;kernel_rfl)(hD:X.D=df i0:=by rfl):J X o:=by
 have hT:∀i,Ef X (fun _ _=>True) ef wf df Inv μ (μ i):=fun _ _ _ _ _ _ _ _=>trivial
 have bad:∀(K:Act→St→Prop),lpB K (xH o)=none→(∀i,Ef X K ef wf df Inv μ (μ i))→J X o:=fun K h hK=>by
  have:=hb i0 h0 K (hK i0) []
  simp only[stW,hp,h,stC] at this
  exact this.elim
 cases o with
 |none=>exact bad _ rfl hT
 |some s=>
  rcases s with ⟨q,e,w,kn⟩
  cases q with
  |code c k=>
   cases c with
   |loop c=>
    intro bP
    show Wp X.C X.fn X.ay (.loop c) (KQ X k) (A X.n e X.D) ⟨X.ro,den w⟩
    rw[hD]
    refine Zl (X:=X) X.hC ef (fun i=>(⟨X.ro,den (wf i)⟩:St)) df Inv μ i0 h0 (j6 (by rw[sj] at h1;exact h1)) (fun i=>j6 (hd i)) (dH (lf h2) (Sub.refl _)) fun i hi rest=>?_
    have:=hb i hi (fun a s=>∃j,Inv j∧μ j <μ i∧(∃e,ko e (ef j)∧a=A X.n e (df j))∧(⟨X.ro,den (wf j)⟩:St).le s) (fun j hj hm e s hc hle=>⟨j,hj,hm,⟨e,hc,rfl⟩,hle⟩) rest
    simp only[stW,hp,xH,lpB,stC] at this
    have:=this fun _ h=>(List.not_mem_nil h).elim
    simp only[JP,KQ,PK] at this
    exact this
   |_=>exact bad _ rfl hT
  |_=>exact bad _ rfl hT
theorem jnD{K:Act→St→Prop}{ef:ι→Env}{wf:ι→List Sg}{df:ι→List Deferred}{Inv:ι→Prop}{μ:ι→Nat}{m:Nat}(hK:Ef X1 K ef wf df Inv μ m)(j:ι)(h:Inv j)(hm:μ j <m)(ps:List (List Nat))(hs:Sub X1.ro X.ro)
 (h0:Xc o=some K:=by kernel_rfl)(h1:ug (oI (ef j)) o=some (ef j):=by kernel_rfl)(h2:gO ps o=some (Wy (wf j)):=by kernel_rfl)(hn:X1.n=X.n:=by rfl)(hD:X.D=df j:=by rfl):J X o:=by
 have hK':wo (X1.wd (df j)) K ef wf (fun i=>i=j) μ m:=fun i hi hm e s hc hle=>by subst hi;exact hK _ h hm e s hc hle
 exact N3 hK' j rfl hm ps hs h0 h1 h2 hn hD.symm
end
attribute [irreducible] gO geO sG ky atc stW xH HZ aDK akp sgO BK abJ jD Qd Qc sD Xc
section
variable {X:Cx} {o:Option JS}
def LD(n:Nat)(p:Oper)(e:Env):Option (BinOp×TypeId×Value×Value):=match p.op with
 | .binOp op T x y _=>match ba n e x with
  |some v=>match ba n e y with
   |some w=>some (op,T,v,w)
   |none=>none
  |none=>none
 |_=>none
theorem tS{op:BinOp}{v w:Value}(h:LD n p e=some (op,T,v,w)):∃x y T',p.op= .binOp op T x y T'∧ba n e x=some v∧ba n e y=some w:=by
 unfold LD at h
 split at h<;>try (cases h;done)
 rename_i ax
 split at h<;>try (cases h;done)
 rename_i hx
 split at h<;>try (cases h;done)
 rename_i hy
 cases h
 exact⟨_,_,_,ax,hx,hy⟩
theorem jsa{a:ByteArray}(T:TypeId)(hb:(a.size:Int)+b.size≤9223372036854775807)(hj:J X (jN (.string (a++b)) o))(hv:du X.n (LD X.n) o=some (.add,T,.string a,.string b):=by kernel_rfl):J X o:=by
 refine PU hv (fun s p e _ hf=>?_) hj
 obtain⟨x,y,T',ax,hx,hy⟩:=tS hf
 rcases p with ⟨dst,op,ty,pos,cS,g⟩
 dsimp only at ax;subst ax
 exact fun s0 ops i su rest hw s' hs todo Q hk=>ao5 X.hC su hw (aY hx) (aY hy) hb hk
theorem jrm{k:IntKind}{a b:Int}(T:TypeId)(hb:b≠0)(hj:J X (jN (.int k (a.tmod b)) o))(hv:du X.n (LD X.n) o=some (.rem,T,.int k a,.int k b):=by kernel_rfl):J X o:=by
 refine PU hv (fun s p e _ hf=>?_) hj
 obtain⟨x,y,T',ax,hx,hy⟩:=tS hf
 rcases p with ⟨dst,op,ty,pos,cS,g⟩
 dsimp only at ax;subst ax
 exact fun s0 ops i su rest hw s' hs todo Q hk=>axy X.hC su hw (aY hx) (aY hy) hb hk
theorem jsr{k k':IntKind}{a b:Int}(T:TypeId)(hb:0≤b)(hj:J X (jN (.int k (aQ k a b)) o))(hv:du X.n (LD X.n) o=some (.shr,T,.int k a,.int k' b):=by kernel_rfl):J X o:=by
 refine PU hv (fun s p e _ hf=>?_) hj
 obtain⟨x,y,T',ax,hx,hy⟩:=tS hf
 rcases p with ⟨dst,op,ty,pos,cS,g⟩
 dsimp only at ax;subst ax
 exact fun s0 ops i su rest hw s' hs todo Q hk=>axw X.hC su hw (aY hx) (aY hy) hb hk
theorem jsh{k k':IntKind}{a b:Int}(T:TypeId)(hb:0≤b)(hj:J X (jN (.int k (dt k a b)) o))(hv:du X.n (LD X.n) o=some (.shl,T,.int k a,.int k' b):=by kernel_rfl):J X o:=by
 refine PU hv (fun s p e _ hf=>?_) hj
 obtain⟨x,y,T',ax,hx,hy⟩:=tS hf
 rcases p with ⟨dst,op,ty,pos,cS,g⟩
 dsimp only at ax;subst ax
 exact fun s0 ops i su rest hw s' hs todo Q hk=>axx X.hC su hw (aY hx) (aY hy) hb hk
theorem jeq{m:List Value}{r:Bool}(hg:nH X.P T)(he:EqV X.P T (.agg ⟨l⟩) (.agg ⟨m⟩) r)(hj:J X (jN (.bool r) o))(hv:du X.n (LD X.n) o=some (.eql,T,.agg ⟨l⟩,.agg ⟨m⟩):=by kernel_rfl):J X o:=by
 refine PU hv (fun s p e _ hf=>?_) hj
 obtain⟨x,y,T',ax,hx,hy⟩:=tS hf
 rcases p with ⟨dst,op,ty,pos,cS,g⟩
 dsimp only at ax;subst ax
 exact fun s0 ops i su rest hw s' hs todo Q hk=>aiz X.hC su hw (aY hx) (aY hy) hg he hk
theorem jne{m:List Value}{r:Bool}(hg:nH X.P T)(he:EqV X.P T (.agg ⟨l⟩) (.agg ⟨m⟩) r)(hj:J X (jN (.bool !r) o))(hv:du X.n (LD X.n) o=some (.neq,T,.agg ⟨l⟩,.agg ⟨m⟩):=by kernel_rfl):J X o:=by
 refine PU hv (fun s p e _ hf=>?_) hj
 obtain⟨x,y,T',ax,hx,hy⟩:=tS hf
 rcases p with ⟨dst,op,ty,pos,cS,g⟩
 dsimp only at ax;subst ax
 exact fun s0 ops i su rest hw s' hs todo Q hk=>aa7 X.hC su hw (aY hx) (aY hy) hg he hk
def Fz(P:Program)(T:TypeId):Bool:=match aV P T with
 |some ⟨.slice _,_,_,_⟩=>true
 |_=>false
theorem Fy(h:Fz P T=true):∃E sz bu z ag,TF P T (.slice E) sz bu z ag:=by
 unfold Fz at h
 split at h<;>try (cases h;done)
 rename_i dI
 obtain⟨bu,tf⟩:=ar dI
 exact⟨_,_,_,_,_,tf⟩
theorem jsn{a:Option Addr}{l c:Nat}(T:TypeId)(hj:J X (jN (.bool a.isNone) o))(hv:du X.n (LD X.n) o=some (.eql,T,.slice a l c,.slice none 0 0):=by kernel_rfl)(hT:Fz X.P T=true:=by kernel_rfl):J X o:=by
 refine PU hv (fun s p e _ hf=>?_) hj
 obtain⟨x,y,T',ax,hx,hy⟩:=tS hf
 obtain⟨E,sz,bu,z,ag,tf⟩:=Fy hT
 rcases p with ⟨dst,op,ty,pos,cS,g⟩
 dsimp only at ax;subst ax
 exact fun s0 ops i su rest hw s' hs todo Q hk=>aiu X.hC su hw tf (aY hx) (aY hy) hk
def C6(n:Nat)(e:Env):Option Operand→Option (Option Int)
 |none=>some none
 |some x=>match ba n e x with
  |some (.int _ a)=>some (some a)
  |_=>none
def Z6(P:Program)(n:Nat)(p:Oper)(e:Env):Option (ByteArray×Option Int×Option Int):=match p.op with
 | .slice T x y z none=>match aV P T with
  |some ⟨.string,_,_,_⟩=>match ba n e x with
   |some (.string b)=>match C6 n e y with
    |some lo=>match C6 n e z with
     |some hi=>some (b,lo,hi)
     |none=>none
    |none=>none
   |_=>none
  |_=>none
 |_=>none
def ahX(P:Program)(n:Nat)(p:Oper)(e:Env):Option (Value×Option Int×Option Int×Nat):=match p.op with
 | .slice T x y z none=>match aV P T with
  |some ⟨.slice E,_,_,_⟩=>match aV P E with
   |some te=>match ba n e x with
    |some v=>match C6 n e y with
     |some lo=>match C6 n e z with
      |some hi=>some (v,lo,hi,te.size)
      |none=>none
     |none=>none
    |none=>none
   |none=>none
  |_=>none
 |_=>none
theorem mX{x:Option Operand}{a:Int}(h:C6 n e x=some (some a)):∃y k,x=some y∧ba n e y=some (.int k a):=by
 unfold C6 at h
 split at h
 ·cases h
 ·split at h<;>try (cases h;done)
  rename_i hx
  cases h
  exact⟨_,_,rfl,hx⟩
theorem Bf{x:Option Operand}(h:C6 n e x=some none):x=none:=by
 unfold C6 at h
 split at h
 ·rfl
 ·split at h<;>cases h
theorem JF{hi:Option Int}(h:Z6 P n p e=some (b,lo,hi)):∃T x y z sz bu zz ag,p.op= .slice T x y z none∧TF P T .string sz bu zz ag∧ba n e x=some (.string b)∧C6 n e y=some lo∧C6 n e z=some hi:=by
 unfold Z6 at h
 split at h<;>try (cases h;done)
 rename_i ax
 split at h<;>try (cases h;done)
 rename_i dI
 obtain⟨bu,tf⟩:=ar dI
 split at h<;>try (cases h;done)
 rename_i hx
 split at h<;>try (cases h;done)
 rename_i hy
 split at h<;>try (cases h;done)
 rename_i hz
 cases h
 exact⟨_,_,_,_,_,_,_,_,ax,tf,hx,hy,hz⟩
theorem TZ{v:Value}{hi:Option Int}(h:ahX P n p e=some (v,lo,hi,k)):∃T x y z E sz bu zz ag d Av z2 ag2,p.op= .slice T x y z none∧TF P T (.slice E) sz bu zz ag∧TF P E d k Av z2 ag2∧ba n e x=some v∧C6 n e y=some lo∧C6 n e z=some hi:=by
 unfold ahX at h
 split at h<;>try (cases h;done)
 rename_i ax
 split at h<;>try (cases h;done)
 rename_i dI
 obtain⟨bu,tf⟩:=ar dI
 split at h<;>try (cases h;done)
 rename_i te tJ
 obtain⟨Av,qo⟩:=ar tJ
 split at h<;>try (cases h;done)
 rename_i hx
 split at h<;>try (cases h;done)
 rename_i hy
 split at h<;>try (cases h;done)
 rename_i hz
 cases h
 exact⟨_,_,_,_,_,_,_,_,_,_,_,_,_,ax,tf,qo,hx,hy,hz⟩
theorem jtB{lo:Int}(hl:0≤lo∧lo≤hi∧hi≤b.size)(hj:J X (jN (.string (b.extract lo.toNat hi.toNat)) o))(hv:du X.n (Z6 X.P X.n) o=some (b,some lo,some hi):=by kernel_rfl):J X o:=by
 refine PU hv (fun s p e _ hf=>?_) hj
 obtain⟨T,x,y,z,sz,bu,zz,ag,ax,tf,hx,hy,hz⟩:=JF hf
 obtain⟨y,k,rfl,FA⟩:=mX hy
 obtain⟨z,k',rfl,Xt⟩:=mX hz
 rcases p with ⟨dst,op,ty,pos,cS,g⟩
 dsimp only at ax;subst ax
 exact fun s0 ops i su rest hw s' hs todo Q hk=>Rf X.hC su hw tf (aY hx) (aY FA) (aY Xt) hl hk
theorem jtH(hl:0≤hi∧hi≤b.size)(hj:J X (jN (.string (b.extract 0 hi.toNat)) o))(hv:du X.n (Z6 X.P X.n) o=some (b,none,some hi):=by kernel_rfl):J X o:=by
 refine PU hv (fun s p e _ hf=>?_) hj
 obtain⟨T,x,y,z,sz,bu,zz,ag,ax,tf,hx,hy,hz⟩:=JF hf
 have hy:=Bf hy;subst hy
 obtain⟨z,k',rfl,Xt⟩:=mX hz
 rcases p with ⟨dst,op,ty,pos,cS,g⟩
 dsimp only at ax;subst ax
 exact fun s0 ops i su rest hw s' hs todo Q hk=>ND X.hC su hw tf (aY hx) (aY Xt) hl hk
theorem jtL{lo:Int}(hl:0≤lo∧lo≤b.size)(hj:J X (jN (.string (b.extract lo.toNat b.size)) o))(hv:du X.n (Z6 X.P X.n) o=some (b,some lo,none):=by kernel_rfl):J X o:=by
 refine PU hv (fun s p e _ hf=>?_) hj
 obtain⟨T,x,y,z,sz,bu,zz,ag,ax,tf,hx,hy,hz⟩:=JF hf
 have hz:=Bf hz;subst hz
 obtain⟨y,k,rfl,FA⟩:=mX hy
 rcases p with ⟨dst,op,ty,pos,cS,g⟩
 dsimp only at ax;subst ax
 exact fun s0 ops i su rest hw s' hs todo Q hk=>NC X.hC su hw tf (aY hx) (aY FA) hl hk
theorem jcH{v:Value}{enc:α→List Value}{ps:List α}(hs:bI X.ro v sz enc ps)(hl:0≤hi∧hi≤ps.length)(hj:∀v',bI X.ro v' sz enc (ps.take hi.toNat)→J X (jN v' o))(hv:du X.n (ahX X.P X.n) o=some (v,none,some hi,sz):=by kernel_rfl):J X o:=by
 obtain⟨a,b,off,cap,rfl,h2,h3,h4⟩:=id hs
 have hp:=bI.part hs (l:=0) (h:=hi.toNat) (by omega) (by omega)
 rw[List.drop_zero] at hp
 refine PU hv (fun s p e _ hf=>?_) (hj _ hp)
 obtain⟨T,x,y,z,E,s1,bu,zz,ag,d,Av,z2,ag2,ax,tf,qo,hx,hy,hz⟩:=TZ hf
 have hy:=Bf hy;subst hy
 obtain⟨z,k',rfl,Xt⟩:=mX hz
 rcases p with ⟨dst,op,ty,pos,cS,g⟩
 dsimp only at ax;subst ax
 intro s0 ops i su rest hw s' mG todo Q hk
 refine bJ X.hC su hw (by simp) ?_
 have hb:0≤hi∧hi≤(cap:Int):=by omega
 have fU:(0:Int)≤0∧(0:Int)≤(hi.toNat:Int):=by omega
 rw[←aU] at hk
 simp only[execOp,Option.map_some,Option.map_none,Instr.sliceAt,Instr.slice,aC (aY (rest:=rest) hx),aC (aY (rest:=rest) Xt),aa,aW tf,Instr.sliceBounds,Instr.sliceBound,asIntOf,ae,hb,fU,and_self,if_true,bW qo]
 exact hk
theorem jcB{v:Value}{enc:α→List Value}{ps:List α}{lo:Int}(hs:bI X.ro v sz enc ps)(hl:0≤lo∧lo≤hi∧hi≤ps.length)(hj:∀v',bI X.ro v' sz enc ((ps.take hi.toNat).drop lo.toNat)→J X (jN v' o))(hv:du X.n (ahX X.P X.n) o=some (v,some lo,some hi,sz):=by kernel_rfl):J X o:=by
 obtain⟨a,b,off,cap,rfl,h2,h3,h4⟩:=id hs
 have hp:=bI.part hs (l:=lo.toNat) (h:=hi.toNat) (by omega) (by omega)
 refine PU hv (fun s p e _ hf=>?_) (hj _ hp)
 obtain⟨T,x,y,z,E,s1,bu,zz,ag,d,Av,z2,ag2,ax,tf,qo,hx,hy,hz⟩:=TZ hf
 obtain⟨y,k,rfl,FA⟩:=mX hy
 obtain⟨z,k',rfl,Xt⟩:=mX hz
 rcases p with ⟨dst,op,ty,pos,cS,g⟩
 dsimp only at ax;subst ax
 intro s0 ops i su rest hw s' mG todo Q hk
 refine bJ X.hC su hw (by simp) ?_
 have hb:0≤hi∧hi≤(cap:Int):=by omega
 have fU:0≤lo∧lo≤(hi.toNat:Int):=by omega
 rw[←aU] at hk
 simp only[execOp,Option.map_some,Option.map_none,Instr.sliceAt,Instr.slice,aC (aY (rest:=rest) hx),aC (aY (rest:=rest) FA),aC (aY (rest:=rest) Xt),aa,aW tf,Instr.sliceBounds,Instr.sliceBound,asIntOf,ae,hb,fU,and_self,if_true,bW qo]
 exact hk
def lnV(P:Program)(n:Nat)(p:Oper)(e:Env):Option Value:=match p.op with
 | .call ⟨.builtin .len,⟨[x]⟩,⟨[T]⟩⟩=>bif Fz P T then ba n e x else none
 |_=>none
theorem DX{v:Value}{enc:α→List Value}{ps:List α}{L:Cells}(j8:az v sz T2 enc ps L)(hj:J X (jN (.int .i64 ps.length) o))(hv:du X.n (lnV X.P X.n) o=some v:=by kernel_rfl):J X o:=by
 refine PU hv (fun s p e _ hf=>?_) hj
 unfold lnV at hf
 split at hf<;>try (cases hf;done)
 rename_i x T ax
 cases hT:Fz X.P T with
 |false=>rw[hT] at hf;cases hf
 |true=>
  rw[hT] at hf;simp only[cond_true] at hf
  obtain⟨E,s1,bu,z,ag,tf⟩:=Fy hT
  rcases p with ⟨dst,op,ty,pos,cS,g⟩
  dsimp only at ax;subst ax
  exact fun s0 ops i su rest hw s' hs todo Q hk=>aa8 X.hC su hw tf (aY hf) j8 hk
def Xd(ps:List Nat)(v:Value)(L':Cells):Option JS→Option JS:=mH ps v L'
theorem Uy{ops:Array Oper}{k:List KI}{w:List Sg}{v:Value}{L':Cells}(ho:ops[i]?=some p):Xd ps v L' (some ⟨.ops ops (i::todo) k,e,w,kn⟩)=some ⟨.ops ops todo k,upd p.dst v e,.l L'::dj ps 0 w,kn⟩:=by
 unfold Xd
 simp only[nG ho]
def ahU(P:Program)(n:Nat)(p:Oper)(e:Env):Option (Addr×List Value×Nat):=match p.op with
 | .store T x y=>match aV P T with
  |some ti=>match ba n e x with
   |some (.pointer (some a))=>match ba n e y with
    |some v=>some (a,dO v,ti.size)
    |none=>none
   |_=>none
  |none=>none
 |_=>none
theorem TX{a:Addr}(h:ahU P n p e=some (a,l,sz)):∃T x y d bu z ag v,p.op= .store T x y∧TF P T d sz bu z ag∧ba n e x=some (.pointer (some a))∧ba n e y=some v∧v.cells=⟨l⟩:=by
 unfold ahU at h
 split at h<;>try (cases h;done)
 rename_i ax
 split at h<;>try (cases h;done)
 rename_i ti dI
 obtain⟨bu,tf⟩:=ar dI
 split at h<;>try (cases h;done)
 rename_i hx
 split at h<;>try (cases h;done)
 rename_i hy
 cases h
 exact⟨_,_,_,_,_,_,_,_,ax,tf,hx,hy,by rw[lL]⟩
theorem PT{v:Value}{enc:α→List Value}{ps:List α}{L:Cells}{b:Nat}{a:α}(i f:Nat)(c:List Value)(e:α)(j8:az v sz E enc ps L)(hb:LY v b)(hk:ps[k]?=some a) (he:enc e=de (enc a) f c) (h1:c.all single=true) (hf:f+c.length≤sz) (hj:∀L',az v sz E enc (ps.set k e) L'→J X (Xd [i] undef L' o)) (hv:eR X.n (ahU X.P X.n) o=some (⟨b,k*sz+f,none⟩,c,c.length):=by kernel_rfl) (h2:dN [i] o=some L:=by kernel_rfl):J X o:=by
 obtain⟨ops,i0,todo,kk,ev,w,kn,p,rfl,ho,hw,hc⟩:=db hv
 obtain⟨T,x,y,d,bu,z,ag,u,ax,tf,hx,hy,hu⟩:=TX hc
 intro bP
 rcases p with ⟨dst,op,ty,pos,cS,g⟩
 dsimp only at ax;subst ax
 refine u4 X.hC (bB h2) ?_
 refine axt X.hC ho hw tf hx hy hu rfl (List.all_eq_true.1 h1) j8 hb hk he hf fun L' hL'=>?_
 have:=hj L' hL'
 rw[Uy ho] at this
 have:=this bP
 simp only[JP,fY] at this
 exact this
def apV(P:Program)(n:Nat)(p:Oper)(e:Env):Option (Value×Value×TypeId×Nat):=match p.op with
 | .call ⟨.builtin .append,⟨[x,y]⟩,⟨[T,U]⟩⟩=>match aV P T with
  |some ⟨.slice E,_,_,_⟩=>bif Fz P U then (match aV P E with
   |some te=>match P.info? E with
    |some ie=>bif Nat.beq te.zero.length te.size&&Nat.ble ie.bytes 65536 then (match ba n e x with
     |some v=>match ba n e y with
      |some w=>some (v,w,E,te.size)
      |none=>none
     |none=>none) else none
    |none=>none
   |none=>none) else none
  |_=>none
 |_=>none
theorem atr{v w:Value}(h:apV P n p e=some (v,w,E,sz)):∃x y T U s1 b1 z1 a1 E2 s2 b2 z2 a2 d bu z ag,p.op= .call ⟨.builtin .append,#[x,y],#[T,U]⟩∧TF P T (.slice E) s1 b1 z1 a1∧TF P U (.slice E2) s2 b2 z2 a2∧TF P E d sz bu z ag∧z.length=sz∧bu≤65536∧ba n e x=some v∧ba n e y=some w:=by
 unfold apV at h
 split at h<;>try (cases h;done)
 rename_i x y T U ax
 split at h<;>try (cases h;done)
 rename_i E' _ _ _ dI
 obtain⟨b1,tf1⟩:=ar dI
 cases hU:Fz P U with
 |false=>rw[hU] at h;cases h
 |true=>
  rw[hU] at h;simp only[cond_true] at h
  obtain⟨E2,s2,b2,z2,a2,qo⟩:=Fy hU
  split at h<;>try (cases h;done)
  rename_i te tJ
  obtain⟨b3,tf3⟩:=ar tJ
  split at h<;>try (cases h;done)
  rename_i ie hie
  cases hb:(Nat.beq te.zero.length te.size&&Nat.ble ie.bytes 65536) with
  |false=>rw[hb] at h;cases h
  |true=>
   rw[hb] at h;simp only[cond_true] at h
   split at h<;>try (cases h;done)
   rename_i hx
   split at h<;>try (cases h;done)
   rename_i hy
   simp only[Option.some.injEq,Prod.mk.injEq] at h
   obtain⟨rfl,rfl,rfl,rfl⟩:=h
   simp only[Bool.and_eq_true,Nat.ble_eq] at hb
   obtain⟨i2,g1,_,g3,_⟩:=tf3.info
   rw[hie] at g1;cases g1
   exact⟨x,y,T,U,_,b1,_,_,E2,s2,b2,z2,a2,_,b3,_,_,ax,tf1,qo,tf3,Nat.eq_of_beq_eq_true hb.1,by omega,hx,hy⟩
theorem ku{v w:Value}{enc:α→List Value}{ps qs:List α}{L:Cells}(is lp:List Nat)(B:Cells)(j8:az v sz E enc ps L)(IX:∀s:St,Ext ⟨X.ro,[]⟩ s→(∀x∈B,s.has x.1 x.2)→Sl s w sz enc qs)(hq:∀p∈qs,∀c∈enc p,single c=true)(hb:ps.length+qs.length≤1048576)(hj:∀v' L',az v' sz E enc (ps++qs) L'→J X (Xd is v' L' o))
 (hv:eR X.n (apV X.P X.n) o=some (v,w,E,sz):=by kernel_rfl)(h2:dN is o=some L:=by kernel_rfl)(h3:dN lp o=some B:=by kernel_rfl):J X o:=by
 obtain⟨ops,i0,todo,kk,ev,w0,kn,p,rfl,ho,hw,hc⟩:=db hv
 obtain⟨x,y,T,U,s1,b1,z1,a1,E2,s2,b2,z2,a2,d,bu,z,ag,ax,tf1,qo,tf3,hz,hby,hx,hy⟩:=atr hc
 intro bP
 rcases p with ⟨dst,op,ty,pos,cS,g⟩
 dsimp only at ax;subst ax
 have hp:=bB h2
 refine u4 X.hC hp ?_
 refine oap X.hC ho hw tf1 qo tf3 hz hx hy j8 (IX _ K0 fun u hu=>?_) hq ⟨hb,hby⟩ fun v' L' hL'=>?_
 ·rcases Pf (X:=X) h3 u hu with h|h
  ·exact .inl h
  ·exact .inr (hp.mem_iff.1 h)
 ·have:=hj v' L' hL'
  rw[Uy ho] at this
  have:=this bP
  simp only[JP,fY] at this
  exact this
theorem aME{w:Value}(enc:α→List Value){qs:List α}(lp:List Nat)(B:Cells)(IX:∀s:St,Ext ⟨X.ro,[]⟩ s→(∀x∈B,s.has x.1 x.2)→Sl s w sz enc qs)(hq:∀p∈qs,∀c∈enc p,single c=true)(hb:qs.length≤1048576)(hj:∀v' L',az v' sz E enc qs L'→J X (Xd [] v' L' o))
 (hv:eR X.n (apV X.P X.n) o=some (.slice none 0 0,w,E,sz):=by kernel_rfl)(h3:dN lp o=some B:=by kernel_rfl)(h2:dN [] o=some []:=by kernel_rfl):J X o:=
 ku (ps:=[]) [] lp B (az.nil sz E enc) IX hq (by simpa using hb) (fun v' L' h=>hj v' L' h) hv h2 h3
end
attribute [irreducible] Xd
end Go.L
