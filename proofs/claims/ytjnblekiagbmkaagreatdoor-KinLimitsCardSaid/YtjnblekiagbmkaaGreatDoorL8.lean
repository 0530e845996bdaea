/- Part 8 of the proof: a program logic, contracts, a theorem on goroutines. -/
import Derived.Test.YtjnblekiagbmkaaGreatDoorL7
import Derived.KernelRfl
set_option maxRecDepth 100000
set_option linter.all false
namespace Go.L
open Go Go.Conc
variable {e:Env} {P:Program} {n sz off k i szo:Nat} {vs l args:List Value} {R:Ending→St→Prop} {α ι β:Type} {p:Oper} {Φ:Value→Cells→Prop} {f:FuncId} {b:ByteArray} {todo ps mY hs:List Nat} {X X1:Cx} {T E T2:TypeId} {s s':JS} {kn:Kn} {hi:Int} {lo:Option Int}
def yl:List Sg→Nat→Option Sg
 | [],_=>none
 |x::_,0=>some x
 |_::l,i+1=>yl l i
def QT:List Sg→Nat→Sg→List Sg
 | [],_,_=>[]
 |_::l,0,y=>y::l
 |x::l,i+1,y=>x::QT l i y
def aiU:Cells→Nat→Option (Nat×Obj)
 | [],_=>none
 |x::_,0=>some x
 |_::l,i+1=>aiU l i
def Aw(w:List Sg)(kn:Cells)(h:Nat):Option (Nat×List Value):=
 match yl w h with
 |some (.b b (.cells ⟨l⟩ _ _))=>some (b,l)
 |some _=>none
 |none=>match aiU kn (h-64) with
  |some (b,.cells ⟨l⟩ _ _)=>some (b,l)
  |_=>none
def aas(P:Program)(n:Nat)(e:Env)(w:List Sg)(h:Nat):Op→Option (List Sg×Nat×Nat)
 | .store T x y=>match a8 n e x with
  |some (.pointer (some ⟨b,off,none⟩))=>match a8 n e y with
   |some v=>match yl w h with
    |some (.b b' (.cells ⟨c⟩ t (0,0)))=>match aV P T with
     |some ti=>bif Nat.beq (dZ v).length ti.size&&(Nat.ble (off+(dZ v).length) c.length&&(dZ v).all single) then some (QT w h (.b b' (.cells ⟨dz c off (dZ v)⟩ t (0,0))),b,b') else none
     |none=>none
    |_=>none
   |none=>none
  |_=>none
 |_=>none
abbrev anK:=Option (JS×List Nat×List (Nat×Nat))
def at1(n:Nat)(e:Env)(k:List KI):Code→Option Pos
 | .skip=>some (Nz k)
 | .seq a b=>some (.code a (.seq b::k))
 | .block id c=>some (.code c (.block id::k))
 | .region _ ops d=>bif d then (bif yK ops then some (.Gq ops e [] [] k) else none) else some (.ops ops (List.range ops.size) k)
 | .exit id=>An id k
 | .ret=>some (.fin .ret)
 | .scope c=>some (.code c k)
 | .label _=>some (Nz k)
 | .cond c a b=>match a8 n e c with
  |some (.bool true)=>some (.code a k)
  |some (.bool false)=>some (.code b k)
  |_=>none
 |_=>none
def afS(ops:Array Oper)(Pl:List (Nat×Value)):Bool:=fQ ops&&(nodupB (ai Pl)&&(fR (List.range ops.size) (ai Pl)&&fR (ai Pl) (List.range ops.size)))
def opJ(P:Program)(n:Nat)(hs:List Nat)(s:JS):anK:=
 match qg n s with
 |some (g,o,e)=>bif g then (match o.op with
  | .store .. =>match s,hs with
   | ⟨.ops ops (_::todo) k,_,w,kn⟩,h::hs=>match aas P n e w h o.op with
    |some (w',b,b')=>some (⟨.ops ops todo k,upd o.dst undef e,w',kn⟩,hs,[(b,b')])
    |none=>none
   |_,_=>none
  | .load T x=>match hs with
   |h::hs=>match a8 n e x with
    |some (.pointer (some ⟨b,off,none⟩))=>match Aw s.rw s.kn.c h with
     |some (b',l)=>match ldv P T l off with
      |some v=>match EV v s with
       |some s'=>some (s',hs,[(b',b)])
       |none=>none
      |none=>none
     |none=>none
    |_=>none
   | []=>none
  |_=>bif eB o.op then (match ZQ P n e o with
   |some v=>match EV v s with
    |some s'=>some (s',hs,[])
    |none=>none
   |none=>none) else none) else (match EV undef s with
  |some s'=>some (s',hs,[])
  |none=>none)
 |none=>none
def stepJ(P:Program)(n:Nat)(hs:List Nat)(s:JS):anK:=
 match s.pos with
 | .ops _ [] k=>some (⟨Nz k,s.env,s.rw,s.kn⟩,hs,[])
 | .code c k=>match at1 n s.env k c with
  |some p=>some (⟨p,s.env,s.rw,⟨s.kn.c,[]⟩⟩,hs,[])
  |none=>none
 | .Gq ops base Pl _ k=>match akW ops (ai Pl) with
  |none=>bif afS ops Pl then some (⟨Nz k,iZ ops base Pl,s.rw,s.kn⟩,hs,[]) else none
  |some _=>opJ P n hs s
 |_=>opJ P n hs s
section
variable {X:Cx}
theorem ze:∀ {w:List Sg} {h b:Nat} {o:Obj},yl w h=some (.b b o)→∃L R,den w=L++(b,o)::R∧∀o',den (QT w h (.b b o'))=L++(b,o')::R
 | [],_,_,_,h=>by cases h
 |x::w,0,b,o,h=>by
  simp only[yl,Option.some.injEq] at h;subst h
  exact⟨[],den w,by simp[iJ],fun o'=>by simp[QT,iJ]⟩
 |x::w,i+1,b,o,h=>by
  obtain⟨L,R,h1,h2⟩:=ze (w:=w) (h:=i) h
  cases x with
  |b i' o1=>exact⟨(i',o1)::L,R,by simp[iJ,h1],fun o'=>by simp[QT,iJ,h2]⟩
  |l L1=>exact⟨L1++L,R,by simp[gI,h1],fun o'=>by simp[QT,gI,h2]⟩
theorem NX:∀ {l:Cells} {i:Nat} {x:Nat×Obj},aiU l i=some x→x∈l
 | [],_,_,h=>by cases h
 |y::l,0,x,h=>by simp only[aiU,Option.some.injEq] at h;subst h;exact List.mem_cons_self
 |y::l,i+1,x,h=>List.mem_cons_of_mem _ (NX (l:=l) h)
theorem yL{w:List Sg}{kn:Cells}{h b:Nat}(hk:Knows X.ro kn)(hc:Aw w kn h=some (b,l)):∃t fz,(⟨X.ro,den w⟩:St).has b (.cells ⟨l⟩ t fz):=by
 unfold Aw at hc
 split at hc
 ·rename_i hn
  cases hc
  obtain⟨L,R,h1,_⟩:=ze hn
  exact⟨_,_,.inr (by show (_,_)∈den w;rw[h1];exact fx)⟩
 ·cases hc
 ·split at hc<;>try (cases hc;done)
  rename_i hn
  cases hc
  exact⟨_,_,.inl (hk _ (NX hn))⟩
theorem akY{w:List Sg}{k:List KI}{c:Code}{p:Pos}(h:at1 X.n e k c=some p)(hj:JP X ⟨kn.c,[]⟩ e w p):JP X kn e w (.code c k):=by
 unfold at1 at h
 split at h
 ·cases h;exact wp_skip X.hC (tJ hj)
 ·cases h;exact wp_seq X.hC hj
 ·cases h;exact wp_block X.hC hj
 ·rename_i id ops d
  cases d with
  |true=>
   simp only[cond_true] at h
   cases hd:yK ops with
   |false=>rw[hd] at h;cases h
   |true=>
    rw[hd] at h;simp only[cond_true,Option.some.injEq] at h;subst h
    exact YG X.hC X.hm hd (hj ⟨fun _ _ h=>(List.not_mem_nil h).elim,fun _ _ _ h=>(List.not_mem_nil h).elim⟩)
  |false=>simp only[cond_false,Option.some.injEq] at h;subst h;exact wp_region X.hC hj
 ·exact wp_exit X.hC (we h hj)
 ·cases h;exact wp_ret (zf hj k)
 ·cases h;exact ML X.hC hj
 ·cases h;exact wp_label X.hC (tJ hj)
 ·split at h<;>try (cases h;done)
  ·rename_i hc;cases h;exact TP X.hC hc rfl hj
  ·rename_i hc;cases h;exact TQ X.hC hc rfl hj
 ·cases h
theorem abn{q:List (Nat×Nat)}(h:opJ X.P X.n hs s=some (s',mY,q))(hq:∀p∈q,p.1=p.2)(hj:J X (some s')):J X (some s):=by
 unfold opJ at h
 split at h<;>try (cases h;done)
 rename_i g o e hh
 cases g with
 |false=>
  simp only[cond_false] at h
  split at h<;>try (cases h;done)
  rename_i s1 hp
  cases h
  exact jy hh hp rfl hj
 |true=>
  simp only[cond_true] at h
  split at h
  ·rename_i T x y aw
   split at h<;>try (cases h;done)
   rename_i ops i todo k e1 w kn h0 hsx
   split at h<;>try (cases h;done)
   rename_i w' b b' bM
   cases h
   have Qk:b=b':=hq _ List.mem_cons_self
   subst Qk
   simp only[qg] at hh
   split at hh<;>try (cases hh;done)
   rename_i o1 ho
   split at hh<;>try (cases hh;done)
   rename_i g1 hg
   simp only[Option.some.injEq,Prod.mk.injEq] at hh
   obtain⟨rfl,rfl,rfl⟩:=hh
   intro bO
   have hj:=hj bO
   rw[aw] at bM
   simp only[aas] at bM
   split at bM<;>try (cases bM;done)
   rename_i b0 off hx
   split at bM<;>try (cases bM;done)
   rename_i v hy
   split at bM<;>try (cases bM;done)
   rename_i b1 c t hn
   split at bM<;>try (cases bM;done)
   rename_i ti dQ
   cases hc:(Nat.beq (dZ v).length ti.size&&(Nat.ble (off+(dZ v).length) c.length&&(dZ v).all single)) with
   |false=>rw[hc] at bM;cases bM
   |true=>
    rw[hc] at bM
    simp only[cond_true,Option.some.injEq,Prod.mk.injEq] at bM
    obtain⟨rfl,rfl,rfl⟩:=bM
    simp only[Bool.and_eq_true,Nat.ble_eq] at hc
    obtain⟨bu,tf⟩:=an dQ
    obtain⟨L,R,h1,h2⟩:=ze hn
    rcases o1 with ⟨dst,op,ty,pos,cT,gd⟩
    dsimp only at aw;subst aw
    have hw:=nF hg []
    rw[List.append_nil] at hw
    refine DV (v:=v) (l:=dZ v) (L:=L) (R:=R) (c:=c) (e:=t) X.hC ho hw tf hx hy (by rw[mf]) (Nat.eq_of_beq_eq_true hc.1) (List.all_eq_true.1 hc.2.2) h1 hc.2.1 ?_
    have hj:ab X.C X.fn X.ax ops todo (KQ X k) _ ⟨X.ro,den _⟩:=hj
    rw[h2] at hj
    exact hj
  ·rename_i T x aw
   split at h<;>try (cases h;done)
   rename_i h0 bW
   split at h<;>try (cases h;done)
   rename_i b off hx
   split at h<;>try (cases h;done)
   rename_i b' l hc
   split at h<;>try (cases h;done)
   rename_i v hv
   split at h<;>try (cases h;done)
   rename_i s1 hp
   cases h
   have Qk:b'=b:=hq _ List.mem_cons_self
   subst Qk
   refine jy hh hp ⟨by rw[aw];rfl,fun bO=>?_,fun hk=>by rw[aw] at hk;cases hk⟩ hj
   obtain⟨t,fz,hb⟩:=yL bO hc
   exact ab6 aw hx hb hv
  ·cases hn:eB o.op with
   |false=>rw[hn] at h;cases h
   |true=>
    rw[hn] at h;simp only[cond_true] at h
    split at h<;>try (cases h;done)
    rename_i v hv
    split at h<;>try (cases h;done)
    rename_i s1 hp
    cases h
    exact jy hh hp ⟨hn,fun _=>y9 hv,fun _ _=>y9 hv⟩ hj
theorem aat{q:List (Nat×Nat)}(h:stepJ X.P X.n hs s=some (s',mY,q))(hq:∀p∈q,p.1=p.2)(hj:J X (some s')):J X (some s):=by
 unfold stepJ at h
 split at h
 ·rename_i ops k hp
  cases h
  rcases s with ⟨p,e,w,kn⟩
  dsimp only at hp;subst hp
  exact fun bO=>tM X.hC (tJ (hj bO))
 ·rename_i c k hp
  rcases s with ⟨p,e,w,kn⟩
  dsimp only at hp;subst hp
  split at h<;>try (cases h;done)
  rename_i p hc
  cases h
  exact fun bO=>akY hc (hj bO)
 ·rename_i ops base Pl Sl k hp
  split at h
  ·cases hd:afS ops Pl with
   |false=>rw[hd] at h;cases h
   |true=>
    rw[hd] at h;simp only[cond_true,Option.some.injEq,Prod.mk.injEq] at h
    obtain⟨rfl,rfl,rfl⟩:=h
    rcases s with ⟨p,e,w,kn⟩
    dsimp only at hp;subst hp
    simp only[afS,Bool.and_eq_true] at hd
    exact fun bO _=>ags X.hC hd.1 hd.2.1 hd.2.2.1 hd.2.2.2 (tJ (hj bO))
  ·exact abn h hq hj
 ·exact abn h hq hj
end
def YM(P:Program)(n:Nat):Nat→List Nat→JS→List (Nat×Nat)→Option (JS×List (Nat×Nat))
 |0,_,s,q=>some (s,q)
 |k+1,hs,s,q=>match stepJ P n hs s with
  |some (s',mY,q')=>YM P n k mY s' (q'++q)
  |none=>none
def YN(P:Program)(n k:Nat)(hs:List Nat):Option JS→Option (JS×List (Nat×Nat))
 |some s=>YM P n k hs s []
 |none=>none
def res:Option (JS×List (Nat×Nat))→Option JS
 |some (s,_)=>some s
 |none=>none
def SW:List (Nat×Nat)→List Nat
 | []=>[]
 | (a,_)::l=>a::SW l
def QP:List (Nat×Nat)→List Nat
 | []=>[]
 | (_,b)::l=>b::QP l
def lhs:Option (JS×List (Nat×Nat))→List Nat
 |some (_,q)=>SW q
 |none=>[0]
def rhs:Option (JS×List (Nat×Nat))→List Nat
 |some (_,q)=>QP q
 |none=>[1]
theorem mb:∀ {q:List (Nat×Nat)},SW q=QP q→∀p∈q,p.1=p.2
 | (a,b)::l,h,p,hp=>by
  simp only[SW,QP,List.cons.injEq] at h
  rcases List.mem_cons.1 hp with rfl|hp
  ·exact h.1
  ·exact mb h.2 p hp
theorem Wc:∀ {k:Nat} {hs:List Nat} {s s':JS} {q q':List (Nat×Nat)},YM X.P X.n k hs s q=some (s',q')→(∀p∈q',p.1=p.2)→(J X (some s')→J X (some s))∧∀p∈q,p∈q'
 |0,_,_,_,_,_,h,_=>by simp only[YM,Option.some.injEq,Prod.mk.injEq] at h;obtain⟨rfl,rfl⟩:=h;exact⟨id,fun _ h=>h⟩
 |k+1,hs,s,s',q,q',h,hq=>by
  simp only[YM] at h
  split at h<;>try (cases h;done)
  rename_i s1 bW q1 bM
  obtain⟨h1,h2⟩:=Wc h hq
  exact⟨fun hj=>aat bM (fun p hp=>hq p (h2 p (List.mem_append_left _ hp))) (h1 hj),fun p hp=>h2 p (List.mem_append_right _ hp)⟩
theorem jd{o:Option JS}(k:Nat)(hs:List Nat)(h:J X (res (YN X.P X.n k hs o)))(he:lhs (YN X.P X.n k hs o)=rhs (YN X.P X.n k hs o):=by kernel_rfl):J X o:=by
 cases o with
 |none=>exact h
 |some s=>
  simp only[YN] at he h
  cases hc:YM X.P X.n k hs s [] with
  |none=>rw[hc] at h;exact h.elim
  |some x=>
   rcases x with ⟨s',q⟩
   rw[hc] at he h
   exact(Wc hc (mb he)).1 h
attribute [irreducible] YN res lhs rhs
def dF(n:Nat)(f:Oper→Env→Option β):Option JS→Option β
 |some s=>match qg n s with
  |some (true,p,e)=>f p e
  |_=>none
 |none=>none
def ko(v:Value):Option JS→Option JS
 |some s=>EV v s
 |none=>none
def NB:List Nat→List Sg→Option (List Sg)
 | [],_=>some []
 |i::is,w=>match yl w i with
  |some x=>match NB is w with
   |some r=>some (x::r)
   |none=>none
  |none=>none
def dA(is:List Nat):Nat→List Sg→List Sg
 |_,[]=>[]
 |k,x::w=>bif aX k is then dA is (k+1) w else x::dA is (k+1) w
def E7:List Nat→Bool
 | []=>true
 |i::is=> !aX i is&&E7 is
def qP(is:List Nat):Option JS→Option (List Sg)
 |some s=>bif E7 is then NB is s.rw else none
 |none=>none
def dY(is:List Nat)(o:Option JS):Option Cells:=match qP is o with
 |some w=>some (den w)
 |none=>none
def Y1:List Nat→Env→Option Env
 | [],_=>some []
 |t::ts,e=>match ib e t with
  |some v=>match Y1 ts e with
   |some r=>some ((t,v)::r)
   |none=>none
  |none=>none
def oU:Env→List Nat
 | []=>[]
 | (t,_)::e=>t::oU e
def uz(ts:List Nat):Option JS→Option Env
 |some s=>Y1 ts s.env
 |none=>none
theorem sM{ts:List Nat}:uz ts (some s)=Y1 ts s.env:=rfl
theorem kJ:∀ {ts:List Nat} {r:Env},Y1 ts e=some r→kP e r
 | [],r,h=>by simp only[Y1,Option.some.injEq] at h;subst h;trivial
 |t::ts,r,h=>by
  simp only[Y1] at h
  split at h<;>try (cases h;done)
  rename_i v hv
  split at h<;>try (cases h;done)
  rename_i r' hr
  cases h
  exact⟨hv,kJ hr⟩
theorem lE:∀(a b:List Sg),den (a++b)=den a++den b
 | [],b=>rfl
 | .b i o::a,b=>by simp[iJ,lE a b]
 | .l L::a,b=>by simp[gI,lE a b]
theorem xa:∀(w:List Sg) (k:Nat),dA [] k w=w
 | [],_=>rfl
 |x::w,k=>by simp[dA,aX,xa w (k+1)]
theorem Gr:∀ {w:List Sg} {i k:Nat} {is:List Nat} {x:Sg},yl w i=some x→aX (k+i) is=false→(den (dA is k w)).Perm (den [x]++den (dA ((k+i)::is) k w))
 | [],_,_,_,_,h,_=>by cases h
 |y::w,0,k,is,x,h,hi=>by
  simp only[yl,Option.some.injEq] at h;subst h
  have hz:∀(w:List Sg) (j:Nat),k <j→dA (k::is) j w=dA is j w:=by
   intro w
   induction w with
   |nil=>intro j _;rfl
   |cons z w ih=>
    intro j hj
    have:Nat.beq j k=false:=beq_false (by omega)
    simp only[dA,aX,this,Bool.false_or,ih (j+1) (by omega)]
  simp only[Nat.add_zero] at hi ⊢
  simp only[dA,hi,cond_false,aX,Nat.beq_refl,Bool.true_or,cond_true,hz w (k+1) (by omega)]
  cases y with
  |b i o=>rw[iJ];exact .refl _
  |l L=>rw[gI];exact .refl _
 |y::w,i+1,k,is,x,h,hi=>by
  have e:k+(i+1)=(k+1)+i:=by omega
  rw[e] at hi ⊢
  have hr:=Gr (w:=w) (k:=k+1) (is:=is) h hi
  have ee:Nat.beq k ((k+1)+i)=false:=beq_false (by omega)
  simp only[dA,aX,ee,Bool.false_or]
  cases aX k is with
  |true=>simp only[cond_true];exact hr
  |false=>
   simp only[cond_false]
   cases y with
   |b i' o=>rw[iJ,iJ];exact(hr.cons _).trans List.perm_middle.symm
   |l L=>
    rw[gI,gI]
    refine(hr.append_left L).trans ?_
    rw[←List.append_assoc,←List.append_assoc]
    exact List.Perm.append_right _ List.perm_append_comm
theorem wR{w:List Sg}:∀ {is:List Nat} {r:List Sg},NB is w=some r→E7 is=true→(den w).Perm (den r++den (dA is 0 w))
 | [],r,h,_=>by simp only[NB,Option.some.injEq] at h;subst h;rw[xa];exact .refl _
 |i::is,r,h,ho=>by
  simp only[NB] at h
  split at h<;>try (cases h;done)
  rename_i x hx
  split at h<;>try (cases h;done)
  rename_i r' hr
  cases h
  simp only[E7,Bool.and_eq_true,Bool.not_eq_true'] at ho
  have h1:=wR hr ho.2
  have h2:=Gr (k:=0) (is:=is) hx (by rw[Nat.zero_add];exact ho.1)
  rw[Nat.zero_add] at h2
  refine h1.trans ((List.Perm.append_left _ h2).trans ?_)
  have:den (x::r')=den [x]++den r':=by rw[←lE];rfl
  rw[this,←List.append_assoc]
  exact List.Perm.append_right _ List.perm_append_comm
theorem lM{is:List Nat}{w:List Sg}(h:qP is (some s)=some w):(den s.rw).Perm (den w++den (dA is 0 s.rw)):=by
 simp only[qP] at h
 cases ho:E7 is with
 |false=>rw[ho] at h;cases h
 |true=>rw[ho] at h;exact wR h ho
theorem bB{is:List Nat}{L:Cells}(h:dY is (some s)=some L):(den s.rw).Perm (L++den (dA is 0 s.rw)):=by
 simp only[dY] at h
 split at h<;>try (cases h;done)
 rename_i w hw
 cases h
 exact lM hw
theorem Pw{is:List Nat}{L:Cells}(h:dY is (some s)=some L):∀x∈L,(⟨X.ro,den s.rw⟩:St).has x.1 x.2:=fun x hx=> .inr ((bB h).mem_iff.2 (List.mem_append_left _ hx))
section
variable {X:Cx} {o:Option JS}
theorem sa{f:Oper→Env→Option β}{r:β}(h:dF n f o=some r):∃s p e,o=some s∧qg n s=some (true,p,e)∧f p e=some r:=by
 unfold dF at h
 split at h<;>try (cases h;done)
 rename_i s
 split at h<;>try (cases h;done)
 rename_i p e hh
 exact⟨s,p,e,rfl,hh,h⟩
theorem jG{v:Value}{f:Oper→Env→Option β}{r:β}(h:dF X.n f o=some r)(hy:∀s p e,o=some s→qg X.n s=some (true,p,e)→f p e=some r→eB p.op=true∧(Knows X.ro s.kn.c→Yields X.P X.n e p ⟨X.ro,den s.rw⟩ v)∧(Cr p.op=true→∀s,Yields X.P X.n e p s v))(hj:J X (ko v o)):J X o:=by
 obtain⟨s,p,e,rfl,hh,hf⟩:=sa h
 obtain⟨h1,h2,h3⟩:=hy s p e rfl hh hf
 simp only[ko] at hj
 cases hp:EV v s with
 |none=>rw[hp] at hj;exact hj.elim
 |some s'=>rw[hp] at hj;exact jy hh hp ⟨h1,h2,h3⟩ hj
theorem jGS{v:Value}{f:Oper→Env→Option β}{r:β}(h:dF X.n f o=some r)(hy:∀s p e,o=some s→f p e=some r→GV X e p ⟨X.ro,den s.rw⟩ v∧(Cr p.op=true→∀s,GV X e p s v))(hj:J X (ko v o)):J X o:=by
 obtain⟨s,p,e,rfl,hh,hf⟩:=sa h
 simp only[ko] at hj
 cases hp:EV v s with
 |none=>rw[hp] at hj;exact hj.elim
 |some s'=>rw[hp] at hj;exact jyS hh hp ⟨fun _=>(hy s p e rfl hf).1,(hy s p e rfl hf).2⟩ hj
def Kg(B:Cells)(v:Value):Option JS→Option JS
 |some s=>aiC B v s
 |none=>none
theorem jGN{v:Value}{f:Oper→Env→Option β}{r:β}{B:Cells}(h:dF X.n f o=some r)(hB:dY ps o=some B)(hy:∀s p e,o=some s→qg X.n s=some (true,p,e)→f p e=some r→Cr p.op=false∧∀s0,Ext ⟨X.ro,[]⟩ s0→(∀x∈B,s0.has x.1 x.2)→GV X e p s0 v)(hj:J X (Kg B v o)):J X o:=by
 obtain⟨s,p,e,rfl,hh,hf⟩:=sa h
 obtain⟨h1,h2⟩:=hy s p e rfl hh hf
 simp only[Kg] at hj
 cases hp:aiC B v s with
 |none=>rw[hp] at hj;exact hj.elim
 |some s'=>rw[hp] at hj;exact jyN hh hp (Pw hB) h1 h2 hj
theorem P8{v:Value}{f:Oper→Env→Option β}{r:β}(h:dF X.n f o=some r)(hy:∀s p e,o=some s→f p e=some r→∀s0,GV X e p s0 v)(hj:J X (ko v o)):J X o:=
 jGS h (fun s p e ho hf=>⟨hy s p e ho hf _,fun _=>hy s p e ho hf⟩) hj
def aof(P:Program)(n:Nat)(p:Oper)(e:Env):Option Value:=bif eB p.op then ZQ P n e p else none
theorem je(v:Value){w:Value}(hw:w=v)(hj:J X (ko v o))(hv:dF X.n (aof X.P X.n) o=some w:=by kernel_rfl):J X o:=by
 subst hw
 refine jG hv (fun s p e _ _ hf=>?_) hj
 unfold aof at hf
 cases hn:eB p.op with
 |false=>rw[hn] at hf;cases hf
 |true=>rw[hn] at hf;exact⟨rfl,fun _=>y9 hf,fun _ _=>y9 hf⟩
theorem ja(r:Int)(h: -9223372036854775808≤r∧r≤9223372036854775807)(hj:J X (ko (.int .i64 r) o))(hv:dF X.n (aof X.P X.n) o=some (.int .i64 (IntKind.i64.wrap r)):=by kernel_rfl):J X o:=je _ (by rw[kD r h]) hj hv
def ldA(P:Program)(n k:Nat)(vs:List Value)(p:Oper)(e:Env):Option (Option Addr):=match p.op with
 | .load T x=>match ldv P T vs k with
  |some _=>match a8 n e x with
   |some (.pointer a)=>some a
   |_=>none
  |none=>none
 |_=>none
def ldW(P:Program)(n k:Nat)(vs:List Value)(o:Option JS):Value:=(dF n (fun p _=>match p.op with
 | .load T _=>ldv P T vs k
 |_=>none) o).getD undef
theorem oV{b m:Nat}(k:Nat)(ps:List Nat)(B:Cells)(hr:∀s:St,Ext ⟨X.ro,[]⟩ s→(∀x∈B,s.has x.1 x.2)→cg s b off m vs)(hj:J X (Kg B (ldW X.P X.n k vs o) o))(hv:dF X.n (ldA X.P X.n k vs) o=some (some ⟨b,off+k,none⟩):=by kernel_rfl)(hB:dY ps o=some B:=by kernel_rfl):J X o:=by
 refine jGN hv hB (fun s p e ho hh hf=>?_) hj
 subst ho
 unfold ldA at hf
 split at hf<;>try (cases hf;done)
 rename_i T x aw
 split at hf<;>try (cases hf;done)
 rename_i v hv2
 split at hf<;>try (cases hf;done)
 rename_i a hx
 simp only[Option.some.injEq] at hf;subst hf
 have hw:ldW X.P X.n k vs (some s)=v:=by simp only[ldW,dF,hh,aw,hv2,Option.getD_some]
 rw[hw]
 exact⟨by rw[aw];rfl,fun s0 FD uQ ops i ho rest hwt s' hs todo Q hk=>lN X.hC ho rest hwt (by rw[aw];rfl) (ap1 k aw hx (hr s0 FD uQ) hv2) hs hk⟩
theorem jl{b m:Nat}(k:Nat)(hr:cg ⟨X.ro,[]⟩ b off m vs)(hj:J X (Kg [] (ldW X.P X.n k vs o) o))(hv:dF X.n (ldA X.P X.n k vs) o=some (some ⟨b,off+k,none⟩):=by kernel_rfl):J X o:=by
 have hB:dY [] o=some []:=by
  obtain⟨s,_,_,rfl,_⟩:=sa hv
  rfl
 exact oV k [] [] (fun s hs _=>hr.ext hs) hj hv hB
def ixA(P:Program)(n:Nat)(p:Oper)(e:Env):Option (Value×Int×Nat):=match p.op with
 | .indexAddr T x y=>match aV P T with
  |some ⟨.slice E,_,_,_⟩=>match aV P E with
   |some te=>match a8 n e x with
    |some v=>match a8 n e y with
     |some (.int _ ix)=>some (v,ix,te.size)
     |_=>none
    |none=>none
   |none=>none
  |_=>none
 |_=>none
theorem jix{a:Option Addr}{b len:Nat}(ix:Int)(cap sz:Nat)(ha:a=some ⟨b,off,none⟩)(hi:0≤ix∧ix <len)(hj:J X (ko (.pointer (some ⟨b,off+ix.toNat*sz,none⟩)) o))(hv:dF X.n (ixA X.P X.n) o=some (.slice a len cap,ix,sz):=by kernel_rfl):J X o:=by
 refine jG hv (fun s p e ho hh hf=>?_) hj
 unfold ixA at hf
 split at hf<;>try (cases hf;done)
 rename_i T x y aw
 split at hf<;>try (cases hf;done)
 rename_i E _ _ _ dQ
 split at hf<;>try (cases hf;done)
 rename_i te tW
 split at hf<;>try (cases hf;done)
 rename_i v hx
 split at hf<;>try (cases hf;done)
 rename_i ik ix' hy
 simp only[Option.some.injEq,Prod.mk.injEq] at hf
 obtain⟨rfl,rfl,rfl⟩:=hf
 subst ha
 obtain⟨bu,tf⟩:=an dQ
 obtain⟨Ay,qz⟩:=an tW
 have key:∀s,Yields X.P X.n e p s (.pointer (some ⟨b,off+ix'.toNat*te.size,none⟩)):=by
  intro s s' mY f hf K E hK
  simp only[execOp,aw,Instr.indexAt,hf _ _ hx,hf _ _ hy,asIntOf,aa,ae,aW tf,hi,and_self,if_true,bV qz,dO]
  exact hK
 exact⟨by rw[aw];rfl,fun _=>key _,fun _=>key⟩
theorem iW{ps:List α}{b:Nat}{x:α}{a:Option Addr}(cap sz:Nat)(ha:∀k,k <ps.length→a=some ⟨b,off,none⟩)(hx:ps[k]?=some x) (hj:J X (ko (.pointer (some ⟨b,off+k*sz,none⟩)) o)) (hv:dF X.n (ixA X.P X.n) o=some (.slice a ps.length cap,(k:Int),sz):=by kernel_rfl):J X o:=
 have hk:k <ps.length:=(List.getElem?_eq_some_iff.1 hx).1
 jix (k:Int) cap sz (ha k hk) (by omega) hj hv
theorem Mw{ps:List α}{b:Nat}{x:α}{a:Option Addr}(ix:Int)(cap sz:Nat)(ha:∀k,k <ps.length→a=some ⟨b,off,none⟩)(hx:ps[k]?=some x) (he:ix=(k:Int)) (hj:J X (ko (.pointer (some ⟨b,off+k*sz,none⟩)) o)) (hv:dF X.n (ixA X.P X.n) o=some (.slice a ps.length cap,ix,sz):=by kernel_rfl):J X o:=by
 subst he;exact iW cap sz ha hx hj hv
theorem Y3{v:Value}{enc:α→List Value}{ps:List α}{L:Cells}{x:α}(sz:Nat)(kL:az v szo T2 enc ps L)(hx:ps[k]?=some x) (hj:∀b,Mm v b→J X (ko (.pointer (some ⟨b,k*sz,none⟩)) o)) (hv:dF X.n (ixA X.P X.n) o=some (v,(k:Int),sz):=by kernel_rfl):J X o:=by
 have hk:k <ps.length:=(List.getElem?_eq_some_iff.1 hx).1
 obtain⟨b,hb⟩:=ayl kL hk
 have gF:=hb
 obtain⟨n0,c,rfl⟩:=gF
 have hn:n0=ps.length:=by
  obtain⟨a,c',he⟩:=kL.form
  cases he;rfl
 subst hn
 have hj:=hj b hb
 exact jix (off:=0) (k:Int) c sz rfl (by omega) (by rw[Nat.zero_add];exact hj) hv
theorem p5{v:Value}{enc:α→List Value}{ps:List α}{L:Cells}{x:α}(ix:Int)(sz:Nat)(kL:az v szo T2 enc ps L)(hx:ps[k]?=some x) (he:ix=(k:Int)) (hj:∀b,Mm v b→J X (ko (.pointer (some ⟨b,k*sz,none⟩)) o)) (hv:dF X.n (ixA X.P X.n) o=some (v,ix,sz):=by kernel_rfl):J X o:=by
 subst he;exact Y3 sz kL hx hj hv
end
attribute [irreducible] dF ko Kg dY qP uz ldW
section
variable {X:Cx} {o:Option JS}
theorem Ms{D:List Deferred}{t:Nat}{v:Value}(h:ib e t=some v):A n ((t,v)::e) D=A n e D:=by
 simp only[A]
 congr 1
 congr 1
 funext i
 simp only[get]
 cases hb:Nat.beq t i with
 |false=>rfl
 |true=>
  have:=Nat.eq_of_beq_eq_true hb
  subst this
  exact(mM h).symm
def Ni(j:Nat)(v:Value):List (Nat×Value)→List (Nat×Value)
 | []=>[]
 | (i,w)::r=>bif Nat.beq i j then (i,v)::r else (i,w)::Ni j v r
theorem EG{j:Nat}{v:Value}:∀ {l:List (Nat×Value)},NA l j=some v→Ni j v l=l
 | (i,w)::r,h=>by
  simp only[NA] at h
  simp only[Ni]
  cases hb:Nat.beq i j with
  |true=>rw[hb] at h;simp only[cond_true,Option.some.injEq] at h;subst h;rfl
  |false=>rw[hb] at h;simp only[cond_false] at h ⊢;rw[EG h]
def al1(t:Nat):JS→Option Value
 | ⟨.Gq _ _ Pl _ _,_,_,_⟩=>NA Pl t
 |s=>ib s.env t
def Ik(t:Nat):Option JS→Option Value
 |some s=>al1 t s
 |none=>none
def WC(t:Nat)(v:Value):JS→JS
 | ⟨.Gq ops base Pl Sl k,e,w,kn⟩=>⟨.Gq ops base (Ni t v Pl) Sl k,e,w,kn⟩
 | ⟨p,e,w,kn⟩=>⟨p,(t,v)::e,w,kn⟩
def Nj(t:Nat)(v:Value):Option JS→Option JS
 |some s=>some (WC t v s)
 |none=>none
theorem jw(t:Nat)(v:Value){w:Value}(hw:w=v)(hj:J X (Nj t v o))(hv:Ik t o=some w:=by kernel_rfl):J X o:=by
 subst hw
 cases o with
 |none=>exact hj
 |some s=>
  rcases s with ⟨p,e,Hq,kn⟩
  intro bO
  have hj:=hj
  cases p with
  |Gq ops base Pl Sl k=>
   simp only[Ik,al1] at hv
   have:Ni t w Pl=Pl:=EG hv
   simp only[Nj,WC,this] at hj
   exact hj bO
  |ops a b c=>have:=hj bO;simp only[WC,JP] at this;rw[Ms hv] at this;exact this
  |code a b=>have:=hj bO;simp only[WC,JP] at this;rw[Ms hv] at this;exact this
  |nxt a=>have:=hj bO;simp only[WC,JP] at this;rw[Ms hv] at this;exact this
  |fin a=>have:=hj bO;simp only[WC,JP] at this;rw[Ms hv] at this;exact this
theorem ji(t:Nat){c b:Bool}(h:c=b)(hj:J X (Nj t (.bool b) o))(hv:Ik t o=some (.bool c):=by kernel_rfl):J X o:=jw t _ (by rw[h]) hj hv
theorem js(t:Nat)(c:Bool)(h1:c=true→J X (Nj t (.bool true) o))(h2:c=false→J X (Nj t (.bool false) o))(hv:Ik t o=some (.bool c):=by kernel_rfl):J X o:=by
 cases hc:c with
 |true=>exact ji t hc (h1 hc) hv
 |false=>exact ji t hc (h2 hc) hv
def ayH(P:Program)(n:Nat)(p:Oper)(e:Env):Option (Obj×Option Nat):=match p.op with
 | .alloc T=>match aV P T with
  |some ti=>some (.cells ⟨ti.zero⟩ T (0,0),none)
  |none=>none
 | .box T x=>match a8 n e x with
  |some v=>some (.cells ⟨dZ v⟩ T (0,0),none)
  |none=>none
 | .buildSlice T m ps=>match aV P T with
  |some ⟨.slice E,_,_,_⟩=>match aV P E with
   |some te=>match MB n e ps.toList with
    |some pv=>match ox (fun i=>some (i*te.size,te.size)) (cL te.zero m) (tK pv) with
     |some l=>bif Nat.beq te.zero.length te.size&&Nat.ble (m*te.size) 16777216 then some (.cells ⟨l⟩ E (0,0),some m) else none
     |none=>none
    |none=>none
   |none=>none
  |_=>none
 | .range T x=>match aV P T with
  |some ⟨.string,_,_,_⟩=>match a8 n e x with
   |some (.string b)=>some (.stringIter b 0,none)
   |_=>none
  |_=>none
 |_=>none
def abG(b:Nat):Option Nat→Value
 |some m=> .slice (some ⟨b,0,none⟩) m m
 |none=> .pointer (some ⟨b,0,none⟩)
def apG(P:Program)(n b:Nat):Option JS→Option JS
 |some ⟨.ops ops (i::todo) k,e,w,kn⟩=>match qg n ⟨.ops ops (i::todo) k,e,w,kn⟩ with
  |some (true,p,_)=>match ayH P n p e with
   |some (ob,m)=>some ⟨.ops ops todo k,upd p.dst (abG b m) e,.b b ob::w,kn⟩
   |none=>none
  |_=>none
 |_=>none
theorem OU{ops:Array Oper}{k:List KI}{e':Env}{w:List Sg}{g:Bool}(h:qg n ⟨.ops ops (i::todo) k,e,w,kn⟩=some (g,p,e')):ops[i]?=some p∧e'=e∧(g=true→av ops n e p.guard=true):=by
 simp only[qg] at h
 split at h<;>try (cases h;done)
 rename_i p1 ho
 split at h<;>try (cases h;done)
 rename_i g1 hg
 cases h
 refine⟨ho,rfl,fun hg'=>?_⟩
 subst hg'
 have:=nF hg []
 rwa[List.append_nil] at this
theorem jn(hj:∀b,J X (apG X.P X.n b o)):J X o:=by
 unfold apG at hj
 split at hj
 ·rename_i ops i todo k e w kn
  split at hj
  ·rename_i p e' hh
   obtain⟨ho,rfl,hw⟩:=OU hh
   have hw:=hw rfl
   intro bO
   rcases p with ⟨dst,op,ty,pos,cT,g⟩
   split at hj
   ·rename_i ob m hn
    have key:∀b,ab X.C X.fn X.ax ops todo (KQ X k) (A X.n (upd dst (abG b m) e') X.D) ⟨X.ro,(b,ob)::den w⟩:=fun b=>by
     have:=hj b bO
     simp only[JP,iJ] at this
     exact this
    unfold ayH at hn
    split at hn
    ·rename_i T aw
     dsimp only at aw;subst aw
     split at hn<;>try (cases hn;done)
     rename_i ti dQ
     cases hn
     obtain⟨bu,tf⟩:=an dQ
     exact aiT X.hC ho hw tf fun b _=>key b
    ·rename_i T x aw
     dsimp only at aw;subst aw
     split at hn<;>try (cases hn;done)
     rename_i v hx
     cases hn
     exact ayz X.hC ho hw hx (by rw[mf]) fun b _=>key b
    ·rename_i T m0 ps aw
     dsimp only at aw;subst aw
     split at hn<;>try (cases hn;done)
     rename_i E _ _ _ dQ
     split at hn<;>try (cases hn;done)
     rename_i te tW
     split at hn<;>try (cases hn;done)
     rename_i pv HJ
     split at hn<;>try (cases hn;done)
     rename_i l hl
     cases hc:(Nat.beq te.zero.length te.size&&Nat.ble (m0*te.size) 16777216) with
     |false=>rw[hc] at hn;cases hn
     |true=>
      rw[hc] at hn;simp only[cond_true,Option.some.injEq,Prod.mk.injEq] at hn
      obtain⟨rfl,rfl⟩:=hn
      simp only[Bool.and_eq_true] at hc
      obtain⟨bu,tf⟩:=an dQ
      obtain⟨Ay,qz⟩:=an tW
      exact Kq X.hC ho hw tf qz hc.1 HJ hc.2 hl fun b _=>key b
    ·rename_i T x aw
     dsimp only at aw;subst aw
     split at hn<;>try (cases hn;done)
     rename_i dQ
     split at hn<;>try (cases hn;done)
     rename_i bs hx
     cases hn
     obtain⟨bu,tf⟩:=an dQ
     exact Rq X.hC ho hw tf hx fun b _=>key b
    ·cases hn
   ·exact(hj 0).elim
  ·exact(hj 0).elim
 ·exact(hj 0).elim
def agi(n:Nat)(p:Oper)(e:Env):Option (FuncId×List Value):=match p.op with
 | .call ⟨.value x,xs,_⟩=>match a8 n e x with
  |some (.func (.func f) ⟨fi⟩ ⟨ca⟩)=>match xD n e xs.toList with
   |some vs=>some (f,fi++vs++ca)
   |none=>none
  |_=>none
 |_=>none
def xU(P:Program)(n:Nat)(p:Oper)(e:Env):Option (FuncId×List Value):=match agi n p e with
 |some (f,vs)=>bif AV P f then some (f,vs) else none
 |none=>none
theorem qo(h:xU P n p e=some (f,vs)):FF P f∧∃x xs at_ fi ca ws,p.op= .call ⟨.value x,xs,at_⟩∧a8 n e x=some (.func (.func f) ⟨fi⟩ ⟨ca⟩)∧u3 n e xs=some ws∧vs=fi++ws++ca:=by
 unfold xU at h
 split at h<;>try (cases h;done)
 rename_i f' nY hc
 cases hb:AV P f' with
 |false=>rw[hb] at h;cases h
 |true=>
  rw[hb] at h;simp only[cond_true,Option.some.injEq,Prod.mk.injEq] at h
  obtain⟨rfl,rfl⟩:=h
  refine⟨kY hb,?_⟩
  unfold agi at hc
  split at hc<;>try (cases hc;done)
  rename_i x xs at_ aw
  split at hc<;>try (cases hc;done)
  rename_i f fi ca hx
  split at hc<;>try (cases hc;done)
  rename_i ws rJ
  cases hc
  exact⟨x,xs,at_,fi,ca,ws,aw,hx,rJ,rfl⟩
theorem PS(a b c:List Value):(⟨a⟩:Array Value)++⟨b⟩++⟨c⟩=⟨a++b++c⟩:=by simp
def mZ(ps:List Nat)(v:Value)(Y:Cells):Option JS→Option JS
 |some ⟨.ops ops (i::todo) k,e,w,kn⟩=>match ops[i]? with
  |some p=>some ⟨.ops ops todo k,upd p.dst v e,.l Y::dA ps 0 w,kn⟩
  |none=>none
 |_=>none
def e9(n:Nat)(f:Oper→Env→Option β):Option JS→Option β
 |some ⟨.ops a b c,e,w,kn⟩=>dF n f (some ⟨.ops a b c,e,w,kn⟩)
 |_=>none
theorem dc{f:Oper→Env→Option β}{r:β}(h:e9 n f o=some r):∃ops i todo k e w kn p,o=some ⟨.ops ops (i::todo) k,e,w,kn⟩∧ops[i]?=some p∧av ops n e p.guard=true∧f p e=some r:=by
 unfold e9 at h
 split at h<;>try (cases h;done)
 rename_i ops todo k e w kn
 obtain⟨s,p,e',hs,hh,hf⟩:=sa h
 cases hs
 cases todo with
 |nil=>cases hh
 |cons i todo=>
  obtain⟨ho,rfl,hw⟩:=OU hh
  exact⟨ops,i,todo,k,e',w,kn,p,rfl,ho,hw rfl,hf⟩
def amr(ps lp:List Nat):Option JS→Option Cells
 |some s=>dY lp (some {s with rw:=dA ps 0 s.rw})
 |none=>none
theorem nW{ops:Array Oper}{k:List KI}{w:List Sg}{v:Value}{Y:Cells}(ho:ops[i]?=some p):mZ ps v Y (some ⟨.ops ops (i::todo) k,e,w,kn⟩)=some ⟨.ops ops todo k,upd p.dst v e,.l Y::dA ps 0 w,kn⟩:=by
 simp only[mZ,ho]
theorem Y6{own:Cells}(ps lp:List Nat)(B:Cells)(hf:∀aA,Sub X.ro aA→Knows aA B→eG X.P f vs aA own Φ)(hj:∀v Y,Φ v Y→J X (mZ ps v Y o))(h1:e9 X.n (xU X.P X.n) o=some (f,vs):=by kernel_rfl)(h2:dY ps o=some own:=by kernel_rfl)(h3:amr ps lp o=some B:=by kernel_rfl):J X o:=by
 obtain⟨ops,i,todo,k,e,w,kn,p,rfl,ho,hw,hc⟩:=dc h1
 obtain⟨ff,x,xs,at_,fi,ca,ws,aw,hx,rJ,rfl⟩:=qo hc
 intro bO
 rcases p with ⟨dst,op,ty,pos,cT,g⟩
 dsimp only at aw;subst aw
 have hp:=bB h2
 refine aby (own:=own) (B:=B) (Φ:=Φ) X.hC ho hw hx ff rJ (PS fi ws ca) hp (fun y hy=>(bB h3).mem_iff.2 (List.mem_append_left _ hy)) (fun aA hs hB=>hf aA hs hB) (fun v Y p6=>?_)
 have:=hj v Y p6
 simp only[mZ,ho] at this
 have:=this bO
 simp only[JP,gI] at this
 exact this
theorem jc{own:Cells}(ps:List Nat)(hf:eG X.P f vs X.ro own Φ)(hj:∀v Y,Φ v Y→J X (mZ ps v Y o))(h1:e9 X.n (xU X.P X.n) o=some (f,vs):=by kernel_rfl)(h2:dY ps o=some own:=by kernel_rfl):J X o:=by
 obtain⟨ops,i,todo,k,e,w,kn,p,rfl,ho,hw,hc⟩:=dc h1
 obtain⟨ff,x,xs,at_,fi,ca,ws,aw,hx,rJ,rfl⟩:=qo hc
 intro bO
 rcases p with ⟨dst,op,ty,pos,cT,g⟩
 dsimp only at aw;subst aw
 have hp:=bB h2
 refine tR (fi:=⟨fi⟩) (ca:=⟨ca⟩) (ws:=fi++ws++ca) X.hC ho hw hx ff rJ (PS fi ws ca) (Fn.weaken X.hC (eG.awo (s:=⟨X.ro,den w⟩) hp hf)) (fun v' s' hr=>?_) (fun ch s' hr=>by obtain⟨_,_,e,_⟩:=hr;cases e) (fun s' hr=>by obtain⟨_,_,e,_⟩:=hr;cases e)
 obtain⟨v,Y,hv,p6,hle⟩:=hr
 cases hv
 have:=hj _ Y p6
 simp only[mZ,ho] at this
 have:=this bO
 simp only[JP,gI] at this
 exact this.more X.hC hle
theorem jp{V:Value}(lp:List Nat)(B:Cells)(hf:∀aA,Sub X.ro aA→Knows aA B→dL X.P f vs aA V)(hj:J X (Kg B V o))(h1:dF X.n (xU X.P X.n) o=some (f,vs):=by kernel_rfl)(h3:dY lp o=some B:=by kernel_rfl):J X o:=by
 refine jGN h1 h3 (fun s p e ho hh hc=>?_) hj
 obtain⟨ff,x,xs,at_,fi,ca,ws,aw,hx,rJ,rfl⟩:=qo hc
 rcases p with ⟨dst,op,ty,pos,cT,g⟩
 dsimp only at aw;subst aw
 refine⟨rfl,fun s0 FD uQ ops i sP rest hw s' hs todo Q hk=>?_⟩
 have hez:Ext ⟨X.ro,B⟩ s':=fun b ob hb=>hs _ _ (hb.elim (fun h=>FD _ _ (.inl h)) fun h=>uQ (b,ob) h)
 exact NU X.hC sP hw (aY hx) ff (wZ rJ) (PS fi ws ca) hez (fun aA h1=>hf aA (EA h1) fun y hy=>h1 _ _ (.inr hy)) hk
end
attribute [irreducible] e9 Nj Ik apG mZ amr
def sW(P:Program)(f:FuncId):Func:=match P.funcs[f]? with
 |some fn=>fn
 |none=>default
abbrev RX(ro:Nat→Option Obj)(Φ:Value→Cells→Prop):Ending→St→Prop:=fun en s'=>∃v X,en= .returned v∧s'=⟨ro,X⟩∧Φ v X
def X0(P:Program)(hm:P.follows .mixedOrders=true)(f:FuncId)(ro:Nat→Option Obj)(R:Ending→St→Prop):Cx:=⟨P,CP P,eW,hm,f,none,(sW P f).ntmps,[],ro,q7 P (sW P f) R⟩
def kS(P:Program)(f:FuncId)(args:List Value)(own:List Sg)(kn:Cells):Option JS:=match P.funcs[f]? with
 |some fn=>match fn.body with
  |some c=>bif Nat.ble args.length fn.ntmps then some ⟨.code c [],fZ 0 args,own,⟨kn,[]⟩⟩ else none
  |none=>none
 |none=>none
theorem azb{hm:P.follows .mixedOrders=true}{ro:Nat→Option Obj}(own:List Sg)(kn:Cells)(hk:Knows ro kn)(h:J (X0 P hm f ro R) (kS P f args own kn)):Fn (CP P) P f ⟨args⟩ ⟨ro,den own⟩ R:=by
 unfold kS at h
 split at h<;>try exact h.elim
 rename_i fn hf
 split at h<;>try exact h.elim
 rename_i c hc
 cases hl:Nat.ble args.length fn.ntmps with
 |false=>rw[hl] at h;exact h.elim
 |true=>
  rw[hl] at h
  have uO:sW P f=fn:=by simp only[sW,hf]
  have:=h hk
  simp only[JP,X0,KQ,uO] at this
  exact Ph eW hf hc rfl hl this
theorem bC(hm:P.follows .mixedOrders=true){ro:Nat→Option Obj}{L:Cells}(own:List Sg)(kn:Cells)(hk:Knows ro kn)(h:J (X0 P hm f ro (RX ro Φ)) (kS P f args own kn))(hL:den own=L:=by rfl):eG P f args ro L Φ:=by
 subst hL;exact azb own kn hk h
def Bb(P:Program)(n:Nat)(e:Env)(w:List Sg)(kn:Cells):List Nat→List ResultVar→Option (List Value×List (Nat×Nat))
 |_,[]=>some ([],[])
 |hs,.tmp t::rs=>match a8 n e (.tmp t) with
  |some v=>match Bb P n e w kn hs rs with
   |some (vs,q)=>some (v::vs,q)
   |none=>none
  |none=>none
 |h::hs,.cell t T::rs=>match a8 n e (.tmp t) with
  |some (.pointer (some ⟨b,off,none⟩))=>match Aw w kn h with
   |some (b',l)=>match ldv P T l off with
    |some v=>match Bb P n e w kn hs rs with
     |some (vs,q)=>some (v::vs,(b',b)::q)
     |none=>none
    |none=>none
   |none=>none
  |_=>none
 | [],.cell _ _::_=>none
def jY(P:Program)(n:Nat)(f:FuncId)(hs:List Nat):Option JS→Option (Value×List (Nat×Nat))
 |some ⟨.fin _,e,w,kn⟩=>match Bb P n e w kn.c hs (sW P f).results.toList with
  |some (vs,q)=>some (uy vs,q)
  |none=>none
 |_=>none
def sU:Option (Value×List (Nat×Nat))→Option Value
 |some (v,_)=>some v
 |none=>none
def Qn:Option (Value×List (Nat×Nat))→List Nat
 |some (_,q)=>SW q
 |none=>[0]
def Qm:Option (Value×List (Nat×Nat))→List Nat
 |some (_,q)=>QP q
 |none=>[1]
theorem tF{w:List Sg}{kn:Cells}(bO:Knows X.ro kn):∀ {hs:List Nat} {rs:List ResultVar} {vs:List Value} {q:List (Nat×Nat)},Bb X.P X.n e w kn hs rs=some (vs,q)→(∀p∈q,p.1=p.2)→DD X.P ⟨X.ro,den w⟩ X.n e rs vs
 |_,[],vs,q,h,_=>by simp only[Bb,Option.some.injEq,Prod.mk.injEq] at h;obtain⟨rfl,rfl⟩:=h;exact .nil
 |hs,.tmp t::rs,vs,q,h,hq=>by
  simp only[Bb] at h
  split at h<;>try (cases h;done)
  rename_i v hv
  split at h<;>try (cases h;done)
  rename_i nY q' hr
  simp only[Option.some.injEq,Prod.mk.injEq] at h;obtain⟨rfl,rfl⟩:=h
  exact .tmp hv (tF bO hr hq)
 | [],.cell _ _::_,vs,q,h,_=>by simp only[Bb] at h;cases h
 |h0::hs,.cell t T::rs,vs,q,h,hq=>by
  simp only[Bb] at h
  split at h<;>try (cases h;done)
  rename_i b off hv
  split at h<;>try (cases h;done)
  rename_i b' l hc
  split at h<;>try (cases h;done)
  rename_i v hld
  split at h<;>try (cases h;done)
  rename_i nY q' hr
  simp only[Option.some.injEq,Prod.mk.injEq] at h;obtain⟨rfl,rfl⟩:=h
  have hb:b'=b:=hq _ List.mem_cons_self
  subst hb
  obtain⟨t',fz,hh⟩:=yL (X:=X) bO hc
  have ih:=tF bO hr fun p hp=>hq p (List.mem_cons_of_mem _ hp)
  unfold ldv at hld
  split at hld<;>try (cases hld;done)
  rename_i ti dQ
  obtain⟨bu,tf⟩:=an dQ
  cases ha:ti.agg with
  |true=>
   rw[ha] at hld tf;simp only[cond_true] at hld
   split at hld<;>try (cases hld;done)
   rename_i vs2 Dl
   cases hld
   exact .agg tf hv ⟨_,_,_,hh,Dl⟩ ih
  |false=>
   rw[ha] at hld tf;simp only[cond_false] at hld
   exact .cell tf hv ⟨_,_,_,hh,hld⟩ ih
def BS:Option JS→Bool
 |some ⟨.fin .ret,_,_,_⟩=>true
 |some ⟨.fin .normal,_,_,_⟩=>true
 |_=>false
theorem sY{o:Option JS}(h:BS o=true):∃ex e w kn,o=some ⟨.fin ex,e,w,kn⟩∧(ex= .ret∨ex= .normal):=by
 unfold BS at h
 split at h
 ·exact⟨_,_,_,_,rfl,.inl rfl⟩
 ·exact⟨_,_,_,_,rfl,.inr rfl⟩
 ·cases h
def ab3:Option JS→Bool
 |some ⟨.ops ..,_,_,_⟩=>true
 |some ⟨.code ..,_,_,_⟩=>true
 |_=>false
structure QR(X:Cx)(R:Ending→St→Prop):Prop where
 q:X.Q=q7 X.P (sW X.P X.fn) R
 d:X.D=[]
theorem q0{hm:P.follows .mixedOrders=true}{ro:Nat→Option Obj}:QR (X0 P hm f ro R) R:=⟨rfl,rfl⟩
theorem QR.a{ro:Nat→Option Obj}(h:QR X R):QR (X.at ro) R:=⟨h.q,h.d⟩
theorem bn{ro:Nat→Option Obj}:Knows ro []:=fun _ h=>by cases h
section
variable {X:Cx} {o:Option JS}
theorem aF{oZ:Nat→Option Obj}(hq:QR X R)(v:Value)(hs ps:List Nat)(Y:Cells)(fM:Sub oZ X.ro)(hR:R (.returned v) ⟨oZ,Y⟩)(h1:sU (jY X.P X.n X.fn hs o)=some v:=by kernel_rfl)(h2:Qn (jY X.P X.n X.fn hs o)=Qm (jY X.P X.n X.fn hs o):=by kernel_rfl)(h3:dY ps o=some Y:=by kernel_rfl)(h4:BS o=true:=by kernel_rfl):J X o:=by
 obtain⟨ex,e,w,kn,rfl,hex⟩:=sY h4
 simp only[jY] at h1 h2
 cases hr:Bb X.P X.n e w kn.c hs (sW X.P X.fn).results.toList with
 |none=>rw[hr] at h1;cases h1
 |some x=>
  rcases x with ⟨vs,q⟩
  simp only[hr,sU,Option.some.injEq,Qn,Qm] at h1 h2
  intro bO
  have rM:=tF bO hr (mb h2)
  have hp:=bB h3
  show X.Q ex (A X.n e X.D) ⟨X.ro,den w⟩
  rw[hq.q,hq.d]
  exact Nn (s0:=⟨oZ,Y⟩) hex rM h1 (dP hp fM) hR
def wJ(X:Cx)(K:Act→St→Prop)(ef:ι→Env)(wf:ι→List Sg)(Inv:ι→Prop)(μ:ι→Nat)(m:Nat):Prop:=
 ∀j,Inv j→μ j <m→∀(e:Env) (s:St),kP e (ef j)→(⟨X.ro,den (wf j)⟩:St).le s→K (A X.n e X.D) s
def xE:List Nat→List (Act→St→Prop)→Code→List KI→Option (Code×List KI)
 | [],_,c,k=>some (c,k)
 |0::p,Ks,.seq a b,k=>xE p Ks a (.seq b::k)
 |1::p,Ks,.seq _ b,k=>xE p Ks b k
 |2::p,K::Ks,.seq a _,k=>xE p Ks a (.next K::k)
 |_::p,Ks,.block id c,k=>xE p Ks c (.block id::k)
 |_::p,Ks,.scope c,k=>xE p Ks c k
 |0::p,Ks,.cond _ a _,k=>xE p Ks a k
 |_::p,Ks,.cond _ _ b,k=>xE p Ks b k
 |_::p,K::Ks,.loop c,k=>xE p Ks c (.next K::k)
 |_::p,Ks,.rangeFunc _ _ _ b,_=>xE p Ks b []
 |_,_,_,_=>none
def H6(P:Program)(f:FuncId)(p:List Nat)(Ks:List (Act→St→Prop)):Option (Code×List KI):=match (sW P f).body with
 |some c=>xE p Ks c []
 |none=>none
def stC(e:Env)(w:List Sg):Option (Code×List KI)→Option JS
 |some (c,k)=>some ⟨.code c k,e,w,⟨[],[]⟩⟩
 |none=>none
def stW(P:Program)(f:FuncId)(p:List Nat)(Ks:List (Act→St→Prop))(e:Env)(w:List Sg):Option JS:=stC e w (H6 P f p Ks)
def xR:Option JS→Option (Code×List KI)
 |some ⟨.code c k,_,_,_⟩=>some (c,k)
 |_=>none
def lpB(K:Act→St→Prop):Option (Code×List KI)→Option (Code×List KI)
 |some (.loop c,k)=>some (c,.next K::k)
 |_=>none
theorem eN(p:List Nat)(Ks:List (Act→St→Prop))(ef:ι→Env)(wf:ι→List Sg)(Inv:ι→Prop)(μ:ι→Nat)(i0:ι)(h0:Inv i0)(ps:List Nat)(hb:∀i,Inv i→∀K,wJ X K ef wf Inv μ (μ i)→∀rest,J X (stW X.P X.fn p (Ks++[K]) (ef i++rest) (wf i)))
 (h1:uz (oU (ef i0)) o=some (ef i0):=by kernel_rfl)(hd:∀i,Y1 (oU (ef i)) (ef i)=some (ef i):=by intro _;kernel_rfl)(h2:qP ps o=some (wf i0):=by kernel_rfl)(hp:∀K,H6 X.P X.fn p (Ks++[K])=lpB K (xR o):=by intro _;kernel_rfl):J X o:=by
 have hT:∀i,wJ X (fun _ _=>True) ef wf Inv μ (μ i):=fun _ _ _ _ _ _ _ _=>trivial
 have bad:∀(K:Act→St→Prop),lpB K (xR o)=none→(∀i,wJ X K ef wf Inv μ (μ i))→J X o:=fun K h hK=>by
  have:=hb i0 h0 K (hK i0) []
  simp only[stW,hp,h,stC] at this
  exact this.elim
 cases o with
 |none=>exact bad _ rfl hT
 |some s=>
  rcases s with ⟨q,e,w,kn⟩
  cases q with
  |code c k=>
   cases c with
   |loop c=>
    intro bO
    refine ZB X.hC ef (fun i=>⟨X.ro,den (wf i)⟩) Inv μ i0 h0 (kJ (by rw[sM] at h1;exact h1)) (kJ (hd i0)) (dP (lM h2) (Sub.refl _)) fun i hi rest=>?_
    have:=hb i hi _ (fun j hj hm e s hc hle=>aiX j hj hm hc (kJ (hd j)) hle) rest
    simp only[stW,hp,xR,lpB,stC] at this
    exact this fun _ h=>(List.not_mem_nil h).elim
   |_=>exact bad _ rfl hT
  |_=>exact bad _ rfl hT
def Xl:Option JS→Option (Act→St→Prop)
 |some ⟨.nxt K,_,_,_⟩=>some K
 |_=>none
theorem bI{K:Act→St→Prop}{ef:ι→Env}{wf:ι→List Sg}{Inv:ι→Prop}{μ:ι→Nat}{m:Nat}(hK:wJ X1 K ef wf Inv μ m)(j:ι)(h:Inv j)(hm:μ j <m)(ps:List Nat)(hs:Sub X1.ro X.ro)
 (h0:Xl o=some K:=by kernel_rfl)(h1:uz (oU (ef j)) o=some (ef j):=by kernel_rfl)(h2:qP ps o=some (wf j):=by kernel_rfl)(hn:X1.n=X.n:=by rfl)(hD:X1.D=X.D:=by rfl):J X o:=by
 unfold Xl at h0
 split at h0<;>try (cases h0;done)
 rename_i K' e w kn
 cases h0
 intro _
 rw[sM] at h1
 have:=hK j h hm e ⟨X.ro,den w⟩ (kJ h1) (dP (lM h2) hs)
 rw[hn,hD] at this
 exact this
def gS:List (List Nat)→List Sg→Option (List Cells)
 | [],_=>some []
 |p::r,w=>match NB p w with
  |some x=>match gS r w with
   |some y=>some (den x::y)
   |none=>none
  |none=>none
def gO(ps:List (List Nat)):Option JS→Option (List Cells)
 |some s=>bif E7 ps.flatten then gS ps s.rw else none
 |none=>none
def WH:List Sg→List Cells
 | []=>[]
 |x::w=>den [x]::WH w
theorem EH:∀(w:List Sg),(WH w).flatten=den w
 | []=>rfl
 | .b i o::w=>by simp[WH,iJ,EH w];rfl
 | .l L::w=>by simp[WH,gI,EH w];rfl
theorem Uv:∀ {a b:List Nat} {w x y:List Sg},NB a w=some x→NB b w=some y→NB (a++b) w=some (x++y)
 | [],b,w,x,y,h,h2=>by simp only[NB,Option.some.injEq] at h;subst h;exact h2
 |i::a,b,w,x,y,h,h2=>by
  simp only[NB] at h
  split at h<;>try (cases h;done)
  rename_i z hz
  split at h<;>try (cases h;done)
  rename_i r hr
  cases h
  simp only[List.cons_append,NB,hz,Uv hr h2]
theorem anh:∀ {ps:List (List Nat)} {w:List Sg} {l:List Cells},gS ps w=some l→∃z,NB ps.flatten w=some z∧den z=l.flatten
 | [],w,l,h=>by simp only[gS,Option.some.injEq] at h;subst h;exact⟨[],rfl,rfl⟩
 |p::r,w,l,h=>by
  simp only[gS] at h
  split at h<;>try (cases h;done)
  rename_i x hx
  split at h<;>try (cases h;done)
  rename_i y hy
  cases h
  obtain⟨z,h1,h2⟩:=anh hy
  exact⟨x++z,by simpa using Uv hx h1,by simp[lE,h2]⟩
theorem Oi{K:Act→St→Prop}{ef:ι→Env}{wf:ι→List Sg}{Inv:ι→Prop}{μ:ι→Nat}{m:Nat}(hK:wJ X1 K ef wf Inv μ m)(j:ι)(h:Inv j)(hm:μ j <m)(ps:List (List Nat))(hs:Sub X1.ro X.ro)
 (h0:Xl o=some K:=by kernel_rfl)(h1:uz (oU (ef j)) o=some (ef j):=by kernel_rfl)(h2:gO ps o=some (WH (wf j)):=by kernel_rfl)(hn:X1.n=X.n:=by rfl)(hD:X1.D=X.D:=by rfl):J X o:=by
 unfold Xl at h0
 split at h0<;>try (cases h0;done)
 rename_i K' e w kn
 cases h0
 intro _
 rw[sM] at h1
 have hp:(den w).Perm (den (wf j)++den (dA ps.flatten 0 w)):=by
  simp only[gO] at h2
  cases ho:E7 ps.flatten with
  |false=>rw[ho] at h2;cases h2
  |true=>
   rw[ho] at h2
   obtain⟨z,h3,h4⟩:=anh h2
   rw[EH] at h4
   rw[←h4]
   exact wR h3 ho
 have:=hK j h hm e ⟨X.ro,den w⟩ (kJ h1) (dP hp hs)
 rw[hn,hD] at this
 exact this
def aFh:Option (Code×List KI)→Option (Code×List KI)
 |some (_,.seq y::k)=>some (y,k)
 |_=>none
def atZ(K:Act→St→Prop):Option JS→Option JS
 |some ⟨.code x (.seq _::k),e,w,kn⟩=>some ⟨.code x (.next K::k),e,w,kn⟩
 |_=>none
theorem HD(p:List Nat)(Ks:List (Act→St→Prop))(ef:ι→Env)(wf:ι→List Sg)(Inv:ι→Prop)(hj:∀i,Inv i→∀rest,J X (stW X.P X.fn p Ks (ef i++rest) (wf i)))(h:∀K,wJ X K ef wf Inv (fun _=>0) 1→J X (atZ K o))(hd:∀i,Y1 (oU (ef i)) (ef i)=some (ef i):=by intro _;kernel_rfl)(hp:H6 X.P X.fn p Ks=aFh (xR o):=by kernel_rfl):J X o:=by
 unfold atZ at h
 split at h
 ·rename_i x y k e w kn
  intro bO
  refine h (fun a s=>Wp X.C X.fn X.ax y (KQ X k) a s) (fun j hI _ e s hc hle=>?_) bO
  obtain⟨r,hr⟩:=gx (n:=X.n) (D:=X.D) hc (kJ (hd j))
  rw[hr]
  have:=hj j hI r
  simp only[stW,hp,xR,aFh,stC] at this
  exact(this fun _ h=>(List.not_mem_nil h).elim).more X.hC hle
 ·exact(h (fun _ _=>True) fun _ _ _ _ _ _ _=>trivial).elim
def expand:Cells→List Sg
 | []=>[]
 |x::l=> .b x.1 x.2::expand l
def S5:Nat→List Sg→List Sg
 |_,[]=>[]
 |0,.l L::w=>expand L++w
 |0,x::w=>x::w
 |i+1,x::w=>x::S5 i w
theorem TE{w w':List Sg}{p:Pos}(h:den w'=den w)(hj:JP X kn e w' p):JP X kn e w p:=by
 cases p<;>simp only[JP,h] at hj ⊢ <;>exact hj
def aEr(i:Nat):Option JS→Option JS
 |some s=>some {s with rw:=S5 i s.rw}
 |none=>none
def V4:List Sg→Cells
 | []=>[]
 | .b i o::w=>(i,o)::V4 w
 | .l _::w=>V4 w
theorem xf:∀ {w:List Sg} {x:Nat×Obj},x∈V4 w→x∈den w
 | .b i o::w,x,h=>by
  rw[iJ]
  rcases List.mem_cons.1 h with rfl|h
  ·exact List.mem_cons_self
  ·exact List.mem_cons_of_mem _ (xf h)
 | .l L::w,x,h=>by rw[gI];exact List.mem_append_right _ (xf (w:=w) h)
def akJ(ps:List Nat):Option JS→Option JS
 |some s=>match NB ps s.rw with
  |some w=>some {s with rw:=dA ps 0 s.rw,kn:=⟨V4 w++s.kn.c,s.kn.nd⟩}
  |none=>none
 |none=>none
theorem GY{aL:Nat→Option Obj}:∀(k:List KI),KQ (X.at aL) k=KQ X k
 | []=>rfl
 | .seq _::k=>by simp only[KQ,GY k];rfl
 | .block _::k=>by simp only[KQ,GY k]
 | .next _::k=>by simp only[KQ,GY k]
theorem jf(ps:List Nat)(L:Cells)(h:∀aL,Sub X.ro aL→Knows aL L→J (X.at aL) (akJ ps o))(h2:dY ps o=some L:=by kernel_rfl)(hp:ab3 o=true:=by kernel_rfl):J X o:=by
 have hpk:∀ {s:JS},dY ps (some s)=some L→∃w,NB ps s.rw=some w∧den w=L:=by
  intro s hs
  simp only[dY,qP] at hs
  cases hk:E7 ps with
  |false=>rw[hk] at hs;cases hs
  |true=>
   rw[hk] at hs;simp only[cond_true] at hs
   split at hs<;>try (cases hs;done)
   rename_i w hw
   cases hs
   exact⟨w,hw,rfl⟩
 unfold ab3 at hp
 split at hp
 ·rename_i ops todo k e w kn
  intro bO
  obtain⟨w1,hw1,rfl⟩:=hpk h2
  refine Rn X.hC (bB h2) fun aL hs hk=>?_
  have:=h aL hs hk
  simp only[akJ,hw1] at this
  have:=this (fun x hx=>(List.mem_append.1 hx).elim (fun hx=>hk x (xf hx)) fun hx=>hs _ _ (bO x hx))
  simp only[JP,GY] at this
  exact this
 ·rename_i c k e w kn
  intro bO
  obtain⟨w1,hw1,rfl⟩:=hpk h2
  refine Wn X.hC (bB h2) fun aL hs hk=>?_
  have:=h aL hs hk
  simp only[akJ,hw1] at this
  have:=this (fun x hx=>(List.mem_append.1 hx).elim (fun hx=>hk x (xf hx)) fun hx=>hs _ _ (bO x hx))
  simp only[JP,GY] at this
  exact this
 ·cases hp
def geO:Option JS→Option JS
 |some s=>some {s with rw:= .l []::s.rw}
 |none=>none
theorem qB(h:J X (geO o)):J X o:=by
 cases o with
 |none=>exact h
 |some s=>exact fun bO=>TE (by simp[gI]) (h bO)
def sgS:Nat→List Sg→List Sg→List Sg
 |_,_,[]=>[]
 |0,l,_::w=>l++w
 |i+1,l,x::w=>x::sgS i l w
theorem Uc{l:List Sg}:∀ {i:Nat} {w:List Sg} {x:Sg},yl w i=some x→den [x]=den l→den (sgS i l w)=den w
 |_,[],_,h,_=>by cases h
 |0,y::w,x,h,hd=>by
  simp only[yl,Option.some.injEq] at h;subst h
  have:den (y::w)=den [y]++den w:=by rw[←lE];rfl
  rw[this,hd,←lE];rfl
 |i+1,y::w,x,h,hd=>by
  have:=Uc (w:=w) (i:=i) h hd
  cases y<;>simp[sgS,iJ,gI,this]
def sgO(i:Nat)(l:List Sg):Option JS→Option JS
 |some s=>some {s with rw:=sgS i l s.rw}
 |none=>none
theorem jg(i:Nat)(l:List Sg)(h:J X (sgO i l o))(h2:dY [i] o=some (den l):=by kernel_rfl):J X o:=by
 cases o with
 |none=>exact h
 |some s=>
  have hn:∃x,yl s.rw i=some x∧den [x]=den l:=by
   simp only[dY,qP,E7,aX,NB,Bool.not_false,Bool.true_and,cond_true] at h2
   cases hx:yl s.rw i with
   |none=>rw[hx] at h2;cases h2
   |some x=>rw[hx] at h2;simp only[Option.some.injEq] at h2;exact⟨x,rfl,h2⟩
  obtain⟨x,hx,hd⟩:=hn
  exact fun bO=>TE (Uc hx hd) (h bO)
theorem jmw(i:Nat)(l:List Sg){L:Cells}(h:L=den l)(hj:J X (sgO i l o))(h2:dY [i] o=some L:=by kernel_rfl):J X o:=by
 subst h;exact jg i l hj h2
end
def Cx.wd(X:Cx)(D:List Deferred):Cx:={X with D:=D}
theorem P0{D:List Deferred}:∀(k:List KI),KQ (X.wd D) k=KQ X k
 | []=>rfl
 | .seq _::k=>by simp only[KQ,P0 k];rfl
 | .block _::k=>by simp only[KQ,P0 k]
 | .next _::k=>by simp only[KQ,P0 k]
def Eh(X:Cx)(K:Act→St→Prop)(ef:ι→Env)(wf:ι→List Sg)(df:ι→List Deferred)(Inv:ι→Prop)(μ:ι→Nat)(m:Nat):Prop:=
 ∀j,Inv j→μ j <m→∀(e:Env) (s:St),kP e (ef j)→(⟨X.ro,den (wf j)⟩:St).le s→K (A X.n e (df j)) s
section
variable {X:Cx} {o:Option JS}
theorem ZC{C:Class}{fn:FuncId}{ax:Option Nat}{Q:Post}{env:Env}{s:St}(hC:∀main T,C main T→Closed X.P main T)(px:ι→Env)(sf:ι→St)(df:ι→List Deferred)(Inv:ι→Prop)(μ:ι→Nat){c:Code}(i0:ι)(h0:Inv i0)(hc:kP env (px i0))(hd:∀i,kP (px i) (px i))(hs:(sf i0).le s)
 (round:∀i,Inv i→∀rest,Wp C fn ax c (lT (fun a s=>∃j,Inv j∧μ j <μ i∧(∃e,kP e (px j)∧a=A n e (df j))∧(sf j).le s) Q) (A n (px i++rest) (df i)) (sf i)):Wp C fn ax (.loop c) Q (A n env (df i0)) s:=by
 obtain⟨r0,u1⟩:=gx (n:=n) (D:=df i0) hc (hd i0)
 rw[u1]
 intro main T hT b k cs h1 h2 h3 h4
 have key:∀m i rest s,μ i=m→Inv i→(sf i).le s→T (G (aI b (A n (px i++rest) (df i)) (.code c:: .inLoop c::k)) cs) s:=by
  intro m
  induction m using Nat.strongRecOn with
  |_ m ih=>
   intro i rest s hm hI hle
   refine(hC main T hT).mono _ _ _ hle ?_
   refine round i hI rest main T hT b (.inLoop c::k) cs h1 h2 h3 fun e a' s' q=>?_
   cases e with
   |normal=>
    obtain⟨j,yF,cz,⟨e,he,rfl⟩,xA⟩:=q
    obtain⟨aaJ,hr⟩:=gx (n:=n) (D:=df j) he (hd j)
    rw[hr]
    exact(hC main T hT).go rfl rfl (g':=G (aI b _ (.code c:: .inLoop c::k)) cs) (fun w=>by simp[G,stepG,stepG.exec,aI]) (ih _ (hm▸cz) j aaJ s' rfl yF xA)
   |exit id=>exact(h4 _ _ _ q).push rfl (by simp)
   |ret=>exact(h4 _ _ _ q).push (x:= .inLoop c) rfl (by simp)
   |panic ch=>exact(h4 _ _ _ q).push (x:= .inLoop c) rfl (by simp)
   |goto l=>exact(h4 _ _ _ q).elim
   |outgrown=>exact(h4 _ _ _ q).elim
 exact(hC main T hT).go rfl rfl (g':=G (aI b (A n (px i0++r0) (df i0)) (.code c:: .inLoop c::k)) cs) (fun w=>by simp[G,stepG,stepG.exec,aI]) (key _ i0 r0 s rfl h0 hs)
theorem aze(p:List Nat)(Ks:List (Act→St→Prop))(ef:ι→Env)(wf:ι→List Sg)(df:ι→List Deferred)(Inv:ι→Prop)(μ:ι→Nat)(i0:ι)(h0:Inv i0)(ps:List Nat)(hb:∀i,Inv i→∀K,Eh X K ef wf df Inv μ (μ i)→∀rest,J (X.wd (df i)) (stW X.P X.fn p (Ks++[K]) (ef i++rest) (wf i)))
 (h1:uz (oU (ef i0)) o=some (ef i0):=by kernel_rfl)(hd:∀i,Y1 (oU (ef i)) (ef i)=some (ef i):=by intro _;kernel_rfl)(h2:qP ps o=some (wf i0):=by kernel_rfl)(hp:∀K,H6 X.P X.fn p (Ks++[K])=lpB K (xR o):=by intro _;kernel_rfl)(hD:X.D=df i0:=by rfl):J X o:=by
 have hT:∀i,Eh X (fun _ _=>True) ef wf df Inv μ (μ i):=fun _ _ _ _ _ _ _ _=>trivial
 have bad:∀(K:Act→St→Prop),lpB K (xR o)=none→(∀i,Eh X K ef wf df Inv μ (μ i))→J X o:=fun K h hK=>by
  have:=hb i0 h0 K (hK i0) []
  simp only[stW,hp,h,stC] at this
  exact this.elim
 cases o with
 |none=>exact bad _ rfl hT
 |some s=>
  rcases s with ⟨q,e,w,kn⟩
  cases q with
  |code c k=>
   cases c with
   |loop c=>
    intro bO
    show Wp X.C X.fn X.ax (.loop c) (KQ X k) (A X.n e X.D) ⟨X.ro,den w⟩
    rw[hD]
    refine ZC (X:=X) X.hC ef (fun i=>(⟨X.ro,den (wf i)⟩:St)) df Inv μ i0 h0 (kJ (by rw[sM] at h1;exact h1)) (fun i=>kJ (hd i)) (dP (lM h2) (Sub.refl _)) fun i hi rest=>?_
    have:=hb i hi (fun a s=>∃j,Inv j∧μ j <μ i∧(∃e,kP e (ef j)∧a=A X.n e (df j))∧(⟨X.ro,den (wf j)⟩:St).le s) (fun j hj hm e s hc hle=>⟨j,hj,hm,⟨e,hc,rfl⟩,hle⟩) rest
    simp only[stW,hp,xR,lpB,stC] at this
    have:=this fun _ h=>(List.not_mem_nil h).elim
    simp only[JP,KQ,P0] at this
    exact this
   |_=>exact bad _ rfl hT
  |_=>exact bad _ rfl hT
theorem jnD{K:Act→St→Prop}{ef:ι→Env}{wf:ι→List Sg}{df:ι→List Deferred}{Inv:ι→Prop}{μ:ι→Nat}{m:Nat}(hK:Eh X1 K ef wf df Inv μ m)(j:ι)(h:Inv j)(hm:μ j <m)(ps:List (List Nat))(hs:Sub X1.ro X.ro)
 (h0:Xl o=some K:=by kernel_rfl)(h1:uz (oU (ef j)) o=some (ef j):=by kernel_rfl)(h2:gO ps o=some (WH (wf j)):=by kernel_rfl)(hn:X1.n=X.n:=by rfl)(hD:X.D=df j:=by rfl):J X o:=by
 have hK':wJ (X1.wd (df j)) K ef wf (fun i=>i=j) μ m:=fun i hi hm e s hc hle=>by subst hi;exact hK _ h hm e s hc hle
 exact Oi hK' j rfl hm ps hs h0 h1 h2 hn hD.symm
end
attribute [irreducible] gO geO sW kS atZ stW xR H6 aEr akJ sgO BS ab3 jY Qn Qm sU Xl
section
variable {X:Cx} {o:Option JS}
def Ma(n:Nat)(p:Oper)(e:Env):Option (BinOp×TypeId×Value×Value):=match p.op with
 | .binOp op T x y _=>match a8 n e x with
  |some v=>match a8 n e y with
   |some w=>some (op,T,v,w)
   |none=>none
  |none=>none
 |_=>none
theorem uh{op:BinOp}{v w:Value}(h:Ma n p e=some (op,T,v,w)):∃x y T',p.op= .binOp op T x y T'∧a8 n e x=some v∧a8 n e y=some w:=by
 unfold Ma at h
 split at h<;>try (cases h;done)
 rename_i aw
 split at h<;>try (cases h;done)
 rename_i hx
 split at h<;>try (cases h;done)
 rename_i hy
 cases h
 exact⟨_,_,_,aw,hx,hy⟩
theorem jsa{a:ByteArray}(T:TypeId)(hb:(a.size:Int)+b.size≤9223372036854775807)(hj:J X (ko (.string (a++b)) o))(hv:dF X.n (Ma X.n) o=some (.add,T,.string a,.string b):=by kernel_rfl):J X o:=by
 refine P8 hv (fun s p e _ hf=>?_) hj
 obtain⟨x,y,T',aw,hx,hy⟩:=uh hf
 rcases p with ⟨dst,op,ty,pos,cT,g⟩
 dsimp only at aw;subst aw
 exact fun s0 ops i sP rest hw s' hs todo Q hk=>apA X.hC sP hw (aY hx) (aY hy) hb hk
theorem jrm{k:IntKind}{a b:Int}(T:TypeId)(hb:b≠0)(hj:J X (ko (.int k (a.tmod b)) o))(hv:dF X.n (Ma X.n) o=some (.rem,T,.int k a,.int k b):=by kernel_rfl):J X o:=by
 refine P8 hv (fun s p e _ hf=>?_) hj
 obtain⟨x,y,T',aw,hx,hy⟩:=uh hf
 rcases p with ⟨dst,op,ty,pos,cT,g⟩
 dsimp only at aw;subst aw
 exact fun s0 ops i sP rest hw s' hs todo Q hk=>ays X.hC sP hw (aY hx) (aY hy) hb hk
theorem jsr{k k':IntKind}{a b:Int}(T:TypeId)(hb:0≤b)(hj:J X (ko (.int k (aQ k a b)) o))(hv:dF X.n (Ma X.n) o=some (.shr,T,.int k a,.int k' b):=by kernel_rfl):J X o:=by
 refine P8 hv (fun s p e _ hf=>?_) hj
 obtain⟨x,y,T',aw,hx,hy⟩:=uh hf
 rcases p with ⟨dst,op,ty,pos,cT,g⟩
 dsimp only at aw;subst aw
 exact fun s0 ops i sP rest hw s' hs todo Q hk=>ayq X.hC sP hw (aY hx) (aY hy) hb hk
theorem jsh{k k':IntKind}{a b:Int}(T:TypeId)(hb:0≤b)(hj:J X (ko (.int k (dE k a b)) o))(hv:dF X.n (Ma X.n) o=some (.shl,T,.int k a,.int k' b):=by kernel_rfl):J X o:=by
 refine P8 hv (fun s p e _ hf=>?_) hj
 obtain⟨x,y,T',aw,hx,hy⟩:=uh hf
 rcases p with ⟨dst,op,ty,pos,cT,g⟩
 dsimp only at aw;subst aw
 exact fun s0 ops i sP rest hw s' hs todo Q hk=>ayr X.hC sP hw (aY hx) (aY hy) hb hk
theorem jeq{m:List Value}{r:Bool}(hg:nX X.P T)(he:EqV X.P T (.agg ⟨l⟩) (.agg ⟨m⟩) r)(hj:J X (ko (.bool r) o))(hv:dF X.n (Ma X.n) o=some (.eql,T,.agg ⟨l⟩,.agg ⟨m⟩):=by kernel_rfl):J X o:=by
 refine P8 hv (fun s p e _ hf=>?_) hj
 obtain⟨x,y,T',aw,hx,hy⟩:=uh hf
 rcases p with ⟨dst,op,ty,pos,cT,g⟩
 dsimp only at aw;subst aw
 exact fun s0 ops i sP rest hw s' hs todo Q hk=>aiR X.hC sP hw (aY hx) (aY hy) hg he hk
theorem jne{m:List Value}{r:Bool}(hg:nX X.P T)(he:EqV X.P T (.agg ⟨l⟩) (.agg ⟨m⟩) r)(hj:J X (ko (.bool !r) o))(hv:dF X.n (Ma X.n) o=some (.neq,T,.agg ⟨l⟩,.agg ⟨m⟩):=by kernel_rfl):J X o:=by
 refine P8 hv (fun s p e _ hf=>?_) hj
 obtain⟨x,y,T',aw,hx,hy⟩:=uh hf
 rcases p with ⟨dst,op,ty,pos,cT,g⟩
 dsimp only at aw;subst aw
 exact fun s0 ops i sP rest hw s' hs todo Q hk=>abt X.hC sP hw (aY hx) (aY hy) hg he hk
def Fy(P:Program)(T:TypeId):Bool:=match aV P T with
 |some ⟨.slice _,_,_,_⟩=>true
 |_=>false
theorem Fx(h:Fy P T=true):∃E sz bu z ag,TF P T (.slice E) sz bu z ag:=by
 unfold Fy at h
 split at h<;>try (cases h;done)
 rename_i dQ
 obtain⟨bu,tf⟩:=an dQ
 exact⟨_,_,_,_,_,tf⟩
theorem jsn{a:Option Addr}{l c:Nat}(T:TypeId)(hj:J X (ko (.bool a.isNone) o))(hv:dF X.n (Ma X.n) o=some (.eql,T,.slice a l c,.slice none 0 0):=by kernel_rfl)(hT:Fy X.P T=true:=by kernel_rfl):J X o:=by
 refine P8 hv (fun s p e _ hf=>?_) hj
 obtain⟨x,y,T',aw,hx,hy⟩:=uh hf
 obtain⟨E,sz,bu,z,ag,tf⟩:=Fx hT
 rcases p with ⟨dst,op,ty,pos,cT,g⟩
 dsimp only at aw;subst aw
 exact fun s0 ops i sP rest hw s' hs todo Q hk=>aiM X.hC sP hw tf (aY hx) (aY hy) hk
def Db(n:Nat)(e:Env):Option Operand→Option (Option Int)
 |none=>some none
 |some x=>match a8 n e x with
  |some (.int _ a)=>some (some a)
  |_=>none
def aaq(P:Program)(n:Nat)(p:Oper)(e:Env):Option (ByteArray×Option Int×Option Int):=match p.op with
 | .slice T x y z none=>match aV P T with
  |some ⟨.string,_,_,_⟩=>match a8 n e x with
   |some (.string b)=>match Db n e y with
    |some lo=>match Db n e z with
     |some hi=>some (b,lo,hi)
     |none=>none
    |none=>none
   |_=>none
  |_=>none
 |_=>none
def aif(P:Program)(n:Nat)(p:Oper)(e:Env):Option (Value×Option Int×Option Int×Nat):=match p.op with
 | .slice T x y z none=>match aV P T with
  |some ⟨.slice E,_,_,_⟩=>match aV P E with
   |some te=>match a8 n e x with
    |some v=>match Db n e y with
     |some lo=>match Db n e z with
      |some hi=>some (v,lo,hi,te.size)
      |none=>none
     |none=>none
    |none=>none
   |none=>none
  |_=>none
 |_=>none
theorem nB{x:Option Operand}{a:Int}(h:Db n e x=some (some a)):∃y k,x=some y∧a8 n e y=some (.int k a):=by
 unfold Db at h
 split at h
 ·cases h
 ·split at h<;>try (cases h;done)
  rename_i hx
  cases h
  exact⟨_,_,rfl,hx⟩
theorem Bq{x:Option Operand}(h:Db n e x=some none):x=none:=by
 unfold Db at h
 split at h
 ·rfl
 ·split at h<;>cases h
theorem JK{hi:Option Int}(h:aaq P n p e=some (b,lo,hi)):∃T x y z sz bu zz ag,p.op= .slice T x y z none∧TF P T .string sz bu zz ag∧a8 n e x=some (.string b)∧Db n e y=some lo∧Db n e z=some hi:=by
 unfold aaq at h
 split at h<;>try (cases h;done)
 rename_i aw
 split at h<;>try (cases h;done)
 rename_i dQ
 obtain⟨bu,tf⟩:=an dQ
 split at h<;>try (cases h;done)
 rename_i hx
 split at h<;>try (cases h;done)
 rename_i hy
 split at h<;>try (cases h;done)
 rename_i hz
 cases h
 exact⟨_,_,_,_,_,_,_,_,aw,tf,hx,hy,hz⟩
theorem Ub{v:Value}{hi:Option Int}(h:aif P n p e=some (v,lo,hi,k)):∃T x y z E sz bu zz ag d Ay z2 ag2,p.op= .slice T x y z none∧TF P T (.slice E) sz bu zz ag∧TF P E d k Ay z2 ag2∧a8 n e x=some v∧Db n e y=some lo∧Db n e z=some hi:=by
 unfold aif at h
 split at h<;>try (cases h;done)
 rename_i aw
 split at h<;>try (cases h;done)
 rename_i dQ
 obtain⟨bu,tf⟩:=an dQ
 split at h<;>try (cases h;done)
 rename_i te tW
 obtain⟨Ay,qz⟩:=an tW
 split at h<;>try (cases h;done)
 rename_i hx
 split at h<;>try (cases h;done)
 rename_i hy
 split at h<;>try (cases h;done)
 rename_i hz
 cases h
 exact⟨_,_,_,_,_,_,_,_,_,_,_,_,_,aw,tf,qz,hx,hy,hz⟩
theorem jtB{lo:Int}(hl:0≤lo∧lo≤hi∧hi≤b.size)(hj:J X (ko (.string (b.extract lo.toNat hi.toNat)) o))(hv:dF X.n (aaq X.P X.n) o=some (b,some lo,some hi):=by kernel_rfl):J X o:=by
 refine P8 hv (fun s p e _ hf=>?_) hj
 obtain⟨T,x,y,z,sz,bu,zz,ag,aw,tf,hx,hy,hz⟩:=JK hf
 obtain⟨y,k,rfl,Fz⟩:=nB hy
 obtain⟨z,k',rfl,hz1⟩:=nB hz
 rcases p with ⟨dst,op,ty,pos,cT,g⟩
 dsimp only at aw;subst aw
 exact fun s0 ops i sP rest hw s' hs todo Q hk=>Rp X.hC sP hw tf (aY hx) (aY Fz) (aY hz1) hl hk
theorem jtH(hl:0≤hi∧hi≤b.size)(hj:J X (ko (.string (b.extract 0 hi.toNat)) o))(hv:dF X.n (aaq X.P X.n) o=some (b,none,some hi):=by kernel_rfl):J X o:=by
 refine P8 hv (fun s p e _ hf=>?_) hj
 obtain⟨T,x,y,z,sz,bu,zz,ag,aw,tf,hx,hy,hz⟩:=JK hf
 have hy:=Bq hy;subst hy
 obtain⟨z,k',rfl,hz1⟩:=nB hz
 rcases p with ⟨dst,op,ty,pos,cT,g⟩
 dsimp only at aw;subst aw
 exact fun s0 ops i sP rest hw s' hs todo Q hk=>NR X.hC sP hw tf (aY hx) (aY hz1) hl hk
theorem jtL{lo:Int}(hl:0≤lo∧lo≤b.size)(hj:J X (ko (.string (b.extract lo.toNat b.size)) o))(hv:dF X.n (aaq X.P X.n) o=some (b,some lo,none):=by kernel_rfl):J X o:=by
 refine P8 hv (fun s p e _ hf=>?_) hj
 obtain⟨T,x,y,z,sz,bu,zz,ag,aw,tf,hx,hy,hz⟩:=JK hf
 have hz:=Bq hz;subst hz
 obtain⟨y,k,rfl,Fz⟩:=nB hy
 rcases p with ⟨dst,op,ty,pos,cT,g⟩
 dsimp only at aw;subst aw
 exact fun s0 ops i sP rest hw s' hs todo Q hk=>NQ X.hC sP hw tf (aY hx) (aY Fz) hl hk
theorem jcH{v:Value}{enc:α→List Value}{ps:List α}(hs:bK X.ro v sz enc ps)(hl:0≤hi∧hi≤ps.length)(hj:∀v',bK X.ro v' sz enc (ps.take hi.toNat)→J X (ko v' o))(hv:dF X.n (aif X.P X.n) o=some (v,none,some hi,sz):=by kernel_rfl):J X o:=by
 obtain⟨a,b,off,cap,rfl,h2,h3,h4⟩:=id hs
 have hp:=bK.part hs (l:=0) (h:=hi.toNat) (by omega) (by omega)
 rw[List.drop_zero] at hp
 refine P8 hv (fun s p e _ hf=>?_) (hj _ hp)
 obtain⟨T,x,y,z,E,s1,bu,zz,ag,d,Ay,z2,ag2,aw,tf,qz,hx,hy,hz⟩:=Ub hf
 have hy:=Bq hy;subst hy
 obtain⟨z,k',rfl,hz1⟩:=nB hz
 rcases p with ⟨dst,op,ty,pos,cT,g⟩
 dsimp only at aw;subst aw
 intro s0 ops i sP rest hw s' mY todo Q hk
 refine bL X.hC sP hw (by simp) ?_
 have hb:0≤hi∧hi≤(cap:Int):=by omega
 have gF:(0:Int)≤0∧(0:Int)≤(hi.toNat:Int):=by omega
 rw[←aU] at hk
 simp only[execOp,Option.map_some,Option.map_none,Instr.sliceAt,Instr.slice,aC (aY (rest:=rest) hx),aC (aY (rest:=rest) hz1),aa,aW tf,Instr.sliceBounds,Instr.sliceBound,asIntOf,ae,hb,gF,and_self,if_true,bV qz]
 exact hk
theorem jcB{v:Value}{enc:α→List Value}{ps:List α}{lo:Int}(hs:bK X.ro v sz enc ps)(hl:0≤lo∧lo≤hi∧hi≤ps.length)(hj:∀v',bK X.ro v' sz enc ((ps.take hi.toNat).drop lo.toNat)→J X (ko v' o))(hv:dF X.n (aif X.P X.n) o=some (v,some lo,some hi,sz):=by kernel_rfl):J X o:=by
 obtain⟨a,b,off,cap,rfl,h2,h3,h4⟩:=id hs
 have hp:=bK.part hs (l:=lo.toNat) (h:=hi.toNat) (by omega) (by omega)
 refine P8 hv (fun s p e _ hf=>?_) (hj _ hp)
 obtain⟨T,x,y,z,E,s1,bu,zz,ag,d,Ay,z2,ag2,aw,tf,qz,hx,hy,hz⟩:=Ub hf
 obtain⟨y,k,rfl,Fz⟩:=nB hy
 obtain⟨z,k',rfl,hz1⟩:=nB hz
 rcases p with ⟨dst,op,ty,pos,cT,g⟩
 dsimp only at aw;subst aw
 intro s0 ops i sP rest hw s' mY todo Q hk
 refine bL X.hC sP hw (by simp) ?_
 have hb:0≤hi∧hi≤(cap:Int):=by omega
 have gF:0≤lo∧lo≤(hi.toNat:Int):=by omega
 rw[←aU] at hk
 simp only[execOp,Option.map_some,Option.map_none,Instr.sliceAt,Instr.slice,aC (aY (rest:=rest) hx),aC (aY (rest:=rest) Fz),aC (aY (rest:=rest) hz1),aa,aW tf,Instr.sliceBounds,Instr.sliceBound,asIntOf,ae,hb,gF,and_self,if_true,bV qz]
 exact hk
def lnV(P:Program)(n:Nat)(p:Oper)(e:Env):Option Value:=match p.op with
 | .call ⟨.builtin .len,⟨[x]⟩,⟨[T]⟩⟩=>bif Fy P T then a8 n e x else none
 |_=>none
theorem DY{v:Value}{enc:α→List Value}{ps:List α}{L:Cells}(kL:az v sz T2 enc ps L)(hj:J X (ko (.int .i64 ps.length) o))(hv:dF X.n (lnV X.P X.n) o=some v:=by kernel_rfl):J X o:=by
 refine P8 hv (fun s p e _ hf=>?_) hj
 unfold lnV at hf
 split at hf<;>try (cases hf;done)
 rename_i x T aw
 cases hT:Fy X.P T with
 |false=>rw[hT] at hf;cases hf
 |true=>
  rw[hT] at hf;simp only[cond_true] at hf
  obtain⟨E,s1,bu,z,ag,tf⟩:=Fx hT
  rcases p with ⟨dst,op,ty,pos,cT,g⟩
  dsimp only at aw;subst aw
  exact fun s0 ops i sP rest hw s' hs todo Q hk=>abu X.hC sP hw tf (aY hf) kL hk
def Xm(ps:List Nat)(v:Value)(L':Cells):Option JS→Option JS:=mZ ps v L'
theorem UE{ops:Array Oper}{k:List KI}{w:List Sg}{v:Value}{L':Cells}(ho:ops[i]?=some p):Xm ps v L' (some ⟨.ops ops (i::todo) k,e,w,kn⟩)=some ⟨.ops ops todo k,upd p.dst v e,.l L'::dA ps 0 w,kn⟩:=by
 unfold Xm
 simp only[nW ho]
def aic(P:Program)(n:Nat)(p:Oper)(e:Env):Option (Addr×List Value×Nat):=match p.op with
 | .store T x y=>match aV P T with
  |some ti=>match a8 n e x with
   |some (.pointer (some a))=>match a8 n e y with
    |some v=>some (a,dZ v,ti.size)
    |none=>none
   |_=>none
  |none=>none
 |_=>none
theorem T9{a:Addr}(h:aic P n p e=some (a,l,sz)):∃T x y d bu z ag v,p.op= .store T x y∧TF P T d sz bu z ag∧a8 n e x=some (.pointer (some a))∧a8 n e y=some v∧v.cells=⟨l⟩:=by
 unfold aic at h
 split at h<;>try (cases h;done)
 rename_i aw
 split at h<;>try (cases h;done)
 rename_i ti dQ
 obtain⟨bu,tf⟩:=an dQ
 split at h<;>try (cases h;done)
 rename_i hx
 split at h<;>try (cases h;done)
 rename_i hy
 cases h
 exact⟨_,_,_,_,_,_,_,_,aw,tf,hx,hy,by rw[mf]⟩
theorem P7{v:Value}{enc:α→List Value}{ps:List α}{L:Cells}{b:Nat}{a:α}(i f:Nat)(c:List Value)(e:α)(kL:az v sz E enc ps L)(hb:Mm v b)(hk:ps[k]?=some a) (he:enc e=dz (enc a) f c) (h1:c.all single=true) (hf:f+c.length≤sz) (hj:∀L',az v sz E enc (ps.set k e) L'→J X (Xm [i] undef L' o)) (hv:e9 X.n (aic X.P X.n) o=some (⟨b,k*sz+f,none⟩,c,c.length):=by kernel_rfl) (h2:dY [i] o=some L:=by kernel_rfl):J X o:=by
 obtain⟨ops,i0,todo,kk,ev,w,kn,p,rfl,ho,hw,hc⟩:=dc hv
 obtain⟨T,x,y,d,bu,z,ag,u,aw,tf,hx,hy,hu⟩:=T9 hc
 intro bO
 rcases p with ⟨dst,op,ty,pos,cT,g⟩
 dsimp only at aw;subst aw
 refine vv X.hC (bB h2) ?_
 refine ayn X.hC ho hw tf hx hy hu rfl (List.all_eq_true.1 h1) kL hb hk he hf fun L' hL'=>?_
 have:=hj L' hL'
 rw[UE ho] at this
 have:=this bO
 simp only[JP,gI] at this
 exact this
def apV(P:Program)(n:Nat)(p:Oper)(e:Env):Option (Value×Value×TypeId×Nat):=match p.op with
 | .call ⟨.builtin .append,⟨[x,y]⟩,⟨[T,U]⟩⟩=>match aV P T with
  |some ⟨.slice E,_,_,_⟩=>bif Fy P U then (match aV P E with
   |some te=>match P.info? E with
    |some ie=>bif Nat.beq te.zero.length te.size&&Nat.ble ie.bytes 65536 then (match a8 n e x with
     |some v=>match a8 n e y with
      |some w=>some (v,w,E,te.size)
      |none=>none
     |none=>none) else none
    |none=>none
   |none=>none) else none
  |_=>none
 |_=>none
theorem aug{v w:Value}(h:apV P n p e=some (v,w,E,sz)):∃x y T U s1 b1 z1 a1 E2 s2 b2 z2 a2 d bu z ag,p.op= .call ⟨.builtin .append,#[x,y],#[T,U]⟩∧TF P T (.slice E) s1 b1 z1 a1∧TF P U (.slice E2) s2 b2 z2 a2∧TF P E d sz bu z ag∧z.length=sz∧bu≤65536∧a8 n e x=some v∧a8 n e y=some w:=by
 unfold apV at h
 split at h<;>try (cases h;done)
 rename_i x y T U aw
 split at h<;>try (cases h;done)
 rename_i E' _ _ _ dQ
 obtain⟨b1,tf1⟩:=an dQ
 cases hU:Fy P U with
 |false=>rw[hU] at h;cases h
 |true=>
  rw[hU] at h;simp only[cond_true] at h
  obtain⟨E2,s2,b2,z2,a2,qz⟩:=Fx hU
  split at h<;>try (cases h;done)
  rename_i te tW
  obtain⟨b3,tf3⟩:=an tW
  split at h<;>try (cases h;done)
  rename_i ie hie
  cases hb:(Nat.beq te.zero.length te.size&&Nat.ble ie.bytes 65536) with
  |false=>rw[hb] at h;cases h
  |true=>
   rw[hb] at h;simp only[cond_true] at h
   split at h<;>try (cases h;done)
   rename_i hx
   split at h<;>try (cases h;done)
   rename_i hy
   simp only[Option.some.injEq,Prod.mk.injEq] at h
   obtain⟨rfl,rfl,rfl,rfl⟩:=h
   simp only[Bool.and_eq_true,Nat.ble_eq] at hb
   obtain⟨i2,g1,_,g3,_⟩:=tf3.info
   rw[hie] at g1;cases g1
   exact⟨x,y,T,U,_,b1,_,_,E2,s2,b2,z2,a2,_,b3,_,_,aw,tf1,qz,tf3,Nat.eq_of_beq_eq_true hb.1,by omega,hx,hy⟩
theorem k8{v w:Value}{enc:α→List Value}{ps qs:List α}{L:Cells}(is lp:List Nat)(B:Cells)(kL:az v sz E enc ps L)(I3:∀s:St,Ext ⟨X.ro,[]⟩ s→(∀x∈B,s.has x.1 x.2)→Sl s w sz enc qs)(hq:∀p∈qs,∀c∈enc p,single c=true)(hb:ps.length+qs.length≤1048576)(hj:∀v' L',az v' sz E enc (ps++qs) L'→J X (Xm is v' L' o))
 (hv:e9 X.n (apV X.P X.n) o=some (v,w,E,sz):=by kernel_rfl)(h2:dY is o=some L:=by kernel_rfl)(h3:dY lp o=some B:=by kernel_rfl):J X o:=by
 obtain⟨ops,i0,todo,kk,ev,w0,kn,p,rfl,ho,hw,hc⟩:=dc hv
 obtain⟨x,y,T,U,s1,b1,z1,a1,E2,s2,b2,z2,a2,d,bu,z,ag,aw,tf1,qz,tf3,hz,hby,hx,hy⟩:=aug hc
 intro bO
 rcases p with ⟨dst,op,ty,pos,cT,g⟩
 dsimp only at aw;subst aw
 have hp:=bB h2
 refine vv X.hC hp ?_
 refine oap X.hC ho hw tf1 qz tf3 hz hx hy kL (I3 _ Lq fun u hu=>?_) hq ⟨hb,hby⟩ fun v' L' hL'=>?_
 ·rcases Pw (X:=X) h3 u hu with h|h
  ·exact .inl h
  ·exact .inr (hp.mem_iff.1 h)
 ·have:=hj v' L' hL'
  rw[UE ho] at this
  have:=this bO
  simp only[JP,gI] at this
  exact this
theorem aNn{w:Value}(enc:α→List Value){qs:List α}(lp:List Nat)(B:Cells)(I3:∀s:St,Ext ⟨X.ro,[]⟩ s→(∀x∈B,s.has x.1 x.2)→Sl s w sz enc qs)(hq:∀p∈qs,∀c∈enc p,single c=true)(hb:qs.length≤1048576)(hj:∀v' L',az v' sz E enc qs L'→J X (Xm [] v' L' o))
 (hv:e9 X.n (apV X.P X.n) o=some (.slice none 0 0,w,E,sz):=by kernel_rfl)(h3:dY lp o=some B:=by kernel_rfl)(h2:dY [] o=some []:=by kernel_rfl):J X o:=
 k8 (ps:=[]) [] lp B (az.nil sz E enc) I3 hq (by simpa using hb) (fun v' L' h=>hj v' L' h) hv h2 h3
end
attribute [irreducible] Xm
end Go.L
