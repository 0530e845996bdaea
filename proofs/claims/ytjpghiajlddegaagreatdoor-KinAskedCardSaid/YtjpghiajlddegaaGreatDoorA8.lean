/- Part 8 of the proof: a program logic, contracts, a theorem on goroutines. -/
import Derived.Test.YtjpghiajlddegaaGreatDoorA7
import Derived.KernelRfl
set_option maxRecDepth 100000
set_option linter.all false
namespace Go.L
open Go Go.Conc
variable {e:Env} {P:Program} {n sz off k i szo:Nat} {vs l args:List Value} {R:Ending→St→Prop} {α ι β:Type} {p:Oper} {Φ:Value→Cells→Prop} {f:FuncId} {b:ByteArray} {todo ps mT hs:List Nat} {X X1:Cx} {T E T2:TypeId} {s s':JS} {kn:Kn} {hi:Int} {lo:Option Int}
def x5:List Sg→Nat→Option Sg
 | [],_=>none
 |x::_,0=>some x
 |_::l,i+1=>x5 l i
def Rv:List Sg→Nat→Sg→List Sg
 | [],_,_=>[]
 |_::l,0,y=>y::l
 |x::l,i+1,y=>x::Rv l i y
def ajH:Cells→Nat→Option (Nat×Obj)
 | [],_=>none
 |x::_,0=>some x
 |_::l,i+1=>ajH l i
def AB(w:List Sg)(kn:Cells)(h:Nat):Option (Nat×List Value):=
 match x5 w h with
 |some (.b b (.cells ⟨l⟩ _ _))=>some (b,l)
 |some _=>none
 |none=>match ajH kn (h-64) with
  |some (b,.cells ⟨l⟩ _ _)=>some (b,l)
  |_=>none
def abd(P:Program)(n:Nat)(e:Env)(w:List Sg)(h:Nat):Op→Option (List Sg×Nat×Nat)
 | .store T x y=>match bu n e x with
  |some (.pointer (some ⟨b,off,none⟩))=>match bu n e y with
   |some v=>match x5 w h with
    |some (.b b' (.cells ⟨c⟩ t (0,0)))=>match ba P T with
     |some ti=>bif Nat.beq (dZ v).length ti.size&&(Nat.ble (off+(dZ v).length) c.length&&(dZ v).all single) then some (Rv w h (.b b' (.cells ⟨dB c off (dZ v)⟩ t (0,0))),b,b') else none
     |none=>none
    |_=>none
   |none=>none
  |_=>none
 |_=>none
abbrev aoF:=Option (JS×List Nat×List (Nat×Nat))
def auK(n:Nat)(e:Env)(k:List KI):Code→Option Pos
 | .skip=>some (Of k)
 | .seq a b=>some (.code a (.seq b::k))
 | .block id c=>some (.code c (.block id::k))
 | .region _ ops d=>bif d then (bif yF ops then some (.GK ops e [] [] k) else none) else some (.ops ops (List.range ops.size) k)
 | .exit id=>As id k
 | .ret=>some (.fin .ret)
 | .scope c=>some (.code c k)
 | .label _=>some (Of k)
 | .cond c a b=>match bu n e c with
  |some (.bool true)=>some (.code a k)
  |some (.bool false)=>some (.code b k)
  |_=>none
 |_=>none
def agG(ops:Array Oper)(Pl:List (Nat×Value)):Bool:=fG ops&&(nodupB (ak Pl)&&(fH (List.range ops.size) (ak Pl)&&fH (ak Pl) (List.range ops.size)))
def opJ(P:Program)(n:Nat)(hs:List Nat)(s:JS):aoF:=
 match p5 n s with
 |some (g,o,e)=>bif g then (match o.op with
  | .store .. =>match s,hs with
   | ⟨.ops ops (_::todo) k,_,w,kn⟩,h::hs=>match abd P n e w h o.op with
    |some (w',b,b')=>some (⟨.ops ops todo k,upd o.dst undef e,w',kn⟩,hs,[(b,b')])
    |none=>none
   |_,_=>none
  | .load T x=>match hs with
   |h::hs=>match bu n e x with
    |some (.pointer (some ⟨b,off,none⟩))=>match AB s.rw s.kn.c h with
     |some (b',l)=>match ldv P T l off with
      |some v=>match E6 v s with
       |some s'=>some (s',hs,[(b',b)])
       |none=>none
      |none=>none
     |none=>none
    |_=>none
   | []=>none
  |_=>bif eF o.op then (match aay P n e o with
   |some v=>match E6 v s with
    |some s'=>some (s',hs,[])
    |none=>none
   |none=>none) else none) else (match E6 undef s with
  |some s'=>some (s',hs,[])
  |none=>none)
 |none=>none
def stepJ(P:Program)(n:Nat)(hs:List Nat)(s:JS):aoF:=
 match s.pos with
 | .ops _ [] k=>some (⟨Of k,s.env,s.rw,s.kn⟩,hs,[])
 | .code c k=>match auK n s.env k c with
  |some p=>some (⟨p,s.env,s.rw,⟨s.kn.c,[]⟩⟩,hs,[])
  |none=>none
 | .GK ops base Pl _ k=>match alK ops (ak Pl) with
  |none=>bif agG ops Pl then some (⟨Of k,iU ops base Pl,s.rw,s.kn⟩,hs,[]) else none
  |some _=>opJ P n hs s
 |_=>opJ P n hs s
section
variable {X:Cx}
theorem zc:∀ {w:List Sg} {h b:Nat} {o:Obj},x5 w h=some (.b b o)→∃L R,den w=L++(b,o)::R∧∀o',den (Rv w h (.b b o'))=L++(b,o')::R
 | [],_,_,_,h=>by cases h
 |x::w,0,b,o,h=>by
  simp only[x5,Option.some.injEq] at h;subst h
  exact⟨[],den w,by simp[iC],fun o'=>by simp[Rv,iC]⟩
 |x::w,i+1,b,o,h=>by
  obtain⟨L,R,h1,h2⟩:=zc (w:=w) (h:=i) h
  cases x with
  |b i' o1=>exact⟨(i',o1)::L,R,by simp[iC,h1],fun o'=>by simp[Rv,iC,h2]⟩
  |l L1=>exact⟨L1++L,R,by simp[gv,h1],fun o'=>by simp[Rv,gv,h2]⟩
theorem OF:∀ {l:Cells} {i:Nat} {x:Nat×Obj},ajH l i=some x→x∈l
 | [],_,_,h=>by cases h
 |y::l,0,x,h=>by simp only[ajH,Option.some.injEq] at h;subst h;exact List.mem_cons_self
 |y::l,i+1,x,h=>List.mem_cons_of_mem _ (OF (l:=l) h)
theorem yG{w:List Sg}{kn:Cells}{h b:Nat}(hk:Knows X.ro kn)(hc:AB w kn h=some (b,l)):∃t fz,(⟨X.ro,den w⟩:St).has b (.cells ⟨l⟩ t fz):=by
 unfold AB at hc
 split at hc
 ·rename_i hn
  cases hc
  obtain⟨L,R,h1,_⟩:=zc hn
  exact⟨_,_,.inr (by show (_,_)∈den w;rw[h1];exact fy)⟩
 ·cases hc
 ·split at hc<;>try (cases hc;done)
  rename_i hn
  cases hc
  exact⟨_,_,.inl (hk _ (OF hn))⟩
theorem alM{w:List Sg}{k:List KI}{c:Code}{p:Pos}(h:auK X.n e k c=some p)(hj:JP X ⟨kn.c,[]⟩ e w p):JP X kn e w (.code c k):=by
 unfold auK at h
 split at h
 ·cases h;exact wp_skip X.hC (tq hj)
 ·cases h;exact wp_seq X.hC hj
 ·cases h;exact wp_block X.hC hj
 ·rename_i id ops d
  cases d with
  |true=>
   simp only[cond_true] at h
   cases hd:yF ops with
   |false=>rw[hd] at h;cases h
   |true=>
    rw[hd] at h;simp only[cond_true,Option.some.injEq] at h;subst h
    exact Zp X.hC X.hm hd (hj ⟨fun _ _ h=>(List.not_mem_nil h).elim,fun _ _ _ h=>(List.not_mem_nil h).elim⟩)
  |false=>simp only[cond_false,Option.some.injEq] at h;subst h;exact wp_region X.hC hj
 ·exact wp_exit X.hC (vI h hj)
 ·cases h;exact wp_ret (zd hj k)
 ·cases h;exact Nr X.hC hj
 ·cases h;exact wp_label X.hC (tq hj)
 ·split at h<;>try (cases h;done)
  ·rename_i hc;cases h;exact Uv X.hC hc rfl hj
  ·rename_i hc;cases h;exact Uw X.hC hc rfl hj
 ·cases h
theorem acf{q:List (Nat×Nat)}(h:opJ X.P X.n hs s=some (s',mT,q))(hq:∀p∈q,p.1=p.2)(hj:J X (some s')):J X (some s):=by
 unfold opJ at h
 split at h<;>try (cases h;done)
 rename_i g o e hh
 cases g with
 |false=>
  simp only[cond_false] at h
  split at h<;>try (cases h;done)
  rename_i s1 hp
  cases h
  exact jy hh hp rfl hj
 |true=>
  simp only[cond_true] at h
  split at h
  ·rename_i T x y aB
   split at h<;>try (cases h;done)
   rename_i ops i todo k e1 w kn h0 hsx
   split at h<;>try (cases h;done)
   rename_i w' b b' bS
   cases h
   have QU:b=b':=hq _ List.mem_cons_self
   subst QU
   simp only[p5] at hh
   split at hh<;>try (cases hh;done)
   rename_i o1 ho
   split at hh<;>try (cases hh;done)
   rename_i g1 hg
   simp only[Option.some.injEq,Prod.mk.injEq] at hh
   obtain⟨rfl,rfl,rfl⟩:=hh
   intro bW
   have hj:=hj bW
   rw[aB] at bS
   simp only[abd] at bS
   split at bS<;>try (cases bS;done)
   rename_i b0 off hx
   split at bS<;>try (cases bS;done)
   rename_i v hy
   split at bS<;>try (cases bS;done)
   rename_i b1 c t hn
   split at bS<;>try (cases bS;done)
   rename_i ti dR
   cases hc:(Nat.beq (dZ v).length ti.size&&(Nat.ble (off+(dZ v).length) c.length&&(dZ v).all single)) with
   |false=>rw[hc] at bS;cases bS
   |true=>
    rw[hc] at bS
    simp only[cond_true,Option.some.injEq,Prod.mk.injEq] at bS
    obtain⟨rfl,rfl,rfl⟩:=bS
    simp only[Bool.and_eq_true,Nat.ble_eq] at hc
    obtain⟨bE,tf⟩:=au dR
    obtain⟨L,R,h1,h2⟩:=zc hn
    rcases o1 with ⟨dst,op,ty,pos,dc,gd⟩
    dsimp only at aB;subst aB
    have hw:=nB hg []
    rw[List.append_nil] at hw
    refine DZ (v:=v) (l:=dZ v) (L:=L) (R:=R) (c:=c) (e:=t) X.hC ho hw tf hx hy (by rw[ma]) (Nat.eq_of_beq_eq_true hc.1) (List.all_eq_true.1 hc.2.2) h1 hc.2.1 ?_
    have hj:ab X.C X.fn X.aC ops todo (KQ X k) _ ⟨X.ro,den _⟩:=hj
    rw[h2] at hj
    exact hj
  ·rename_i T x aB
   split at h<;>try (cases h;done)
   rename_i h0 cy
   split at h<;>try (cases h;done)
   rename_i b off hx
   split at h<;>try (cases h;done)
   rename_i b' l hc
   split at h<;>try (cases h;done)
   rename_i v hv
   split at h<;>try (cases h;done)
   rename_i s1 hp
   cases h
   have QU:b'=b:=hq _ List.mem_cons_self
   subst QU
   refine jy hh hp ⟨by rw[aB];rfl,fun bW=>?_,fun hk=>by rw[aB] at hk;cases hk⟩ hj
   obtain⟨t,fz,hb⟩:=yG bW hc
   exact ac1 aB hx hb hv
  ·cases hn:eF o.op with
   |false=>rw[hn] at h;cases h
   |true=>
    rw[hn] at h;simp only[cond_true] at h
    split at h<;>try (cases h;done)
    rename_i v hv
    split at h<;>try (cases h;done)
    rename_i s1 hp
    cases h
    exact jy hh hp ⟨hn,fun _=>y6 hv,fun _ _=>y6 hv⟩ hj
theorem abe{q:List (Nat×Nat)}(h:stepJ X.P X.n hs s=some (s',mT,q))(hq:∀p∈q,p.1=p.2)(hj:J X (some s')):J X (some s):=by
 unfold stepJ at h
 split at h
 ·rename_i ops k hp
  cases h
  rcases s with ⟨p,e,w,kn⟩
  dsimp only at hp;subst hp
  exact fun bW=>tw X.hC (tq (hj bW))
 ·rename_i c k hp
  rcases s with ⟨p,e,w,kn⟩
  dsimp only at hp;subst hp
  split at h<;>try (cases h;done)
  rename_i p hc
  cases h
  exact fun bW=>alM hc (hj bW)
 ·rename_i ops base Pl Sl k hp
  split at h
  ·cases hd:agG ops Pl with
   |false=>rw[hd] at h;cases h
   |true=>
    rw[hd] at h;simp only[cond_true,Option.some.injEq,Prod.mk.injEq] at h
    obtain⟨rfl,rfl,rfl⟩:=h
    rcases s with ⟨p,e,w,kn⟩
    dsimp only at hp;subst hp
    simp only[agG,Bool.and_eq_true] at hd
    exact fun bW _=>ahj X.hC hd.1 hd.2.1 hd.2.2.1 hd.2.2.2 (tq (hj bW))
  ·exact acf h hq hj
 ·exact acf h hq hj
end
def Zv(P:Program)(n:Nat):Nat→List Nat→JS→List (Nat×Nat)→Option (JS×List (Nat×Nat))
 |0,_,s,q=>some (s,q)
 |k+1,hs,s,q=>match stepJ P n hs s with
  |some (s',mT,q')=>Zv P n k mT s' (q'++q)
  |none=>none
def Zw(P:Program)(n k:Nat)(hs:List Nat):Option JS→Option (JS×List (Nat×Nat))
 |some s=>Zv P n k hs s []
 |none=>none
def res:Option (JS×List (Nat×Nat))→Option JS
 |some (s,_)=>some s
 |none=>none
def Ty:List (Nat×Nat)→List Nat
 | []=>[]
 | (a,_)::l=>a::Ty l
def Rs:List (Nat×Nat)→List Nat
 | []=>[]
 | (_,b)::l=>b::Rs l
def lhs:Option (JS×List (Nat×Nat))→List Nat
 |some (_,q)=>Ty q
 |none=>[0]
def rhs:Option (JS×List (Nat×Nat))→List Nat
 |some (_,q)=>Rs q
 |none=>[1]
theorem lY:∀ {q:List (Nat×Nat)},Ty q=Rs q→∀p∈q,p.1=p.2
 | (a,b)::l,h,p,hp=>by
  simp only[Ty,Rs,List.cons.injEq] at h
  rcases List.mem_cons.1 hp with rfl|hp
  ·exact h.1
  ·exact lY h.2 p hp
theorem WX:∀ {k:Nat} {hs:List Nat} {s s':JS} {q q':List (Nat×Nat)},Zv X.P X.n k hs s q=some (s',q')→(∀p∈q',p.1=p.2)→(J X (some s')→J X (some s))∧∀p∈q,p∈q'
 |0,_,_,_,_,_,h,_=>by simp only[Zv,Option.some.injEq,Prod.mk.injEq] at h;obtain⟨rfl,rfl⟩:=h;exact⟨id,fun _ h=>h⟩
 |k+1,hs,s,s',q,q',h,hq=>by
  simp only[Zv] at h
  split at h<;>try (cases h;done)
  rename_i s1 cy q1 bS
  obtain⟨h1,h2⟩:=WX h hq
  exact⟨fun hj=>abe bS (fun p hp=>hq p (h2 p (List.mem_append_left _ hp))) (h1 hj),fun p hp=>h2 p (List.mem_append_right _ hp)⟩
theorem jd{o:Option JS}(k:Nat)(hs:List Nat)(h:J X (res (Zw X.P X.n k hs o)))(he:lhs (Zw X.P X.n k hs o)=rhs (Zw X.P X.n k hs o):=by kernel_rfl):J X o:=by
 cases o with
 |none=>exact h
 |some s=>
  simp only[Zw] at he h
  cases hc:Zv X.P X.n k hs s [] with
  |none=>rw[hc] at h;exact h.elim
  |some x=>
   rcases x with ⟨s',q⟩
   rw[hc] at he h
   exact(WX hc (lY he)).1 h
attribute [irreducible] Zw res lhs rhs
def dG(n:Nat)(f:Oper→Env→Option β):Option JS→Option β
 |some s=>match p5 n s with
  |some (true,p,e)=>f p e
  |_=>none
 |none=>none
def jW(v:Value):Option JS→Option JS
 |some s=>E6 v s
 |none=>none
def Oh:List Nat→List Sg→Option (List Sg)
 | [],_=>some []
 |i::is,w=>match x5 w i with
  |some x=>match Oh is w with
   |some r=>some (x::r)
   |none=>none
  |none=>none
def dE(is:List Nat):Nat→List Sg→List Sg
 |_,[]=>[]
 |k,x::w=>bif bk k is then dE is (k+1) w else x::dE is (k+1) w
def Fi:List Nat→Bool
 | []=>true
 |i::is=> !bk i is&&Fi is
def qE(is:List Nat):Option JS→Option (List Sg)
 |some s=>bif Fi is then Oh is s.rw else none
 |none=>none
def dY(is:List Nat)(o:Option JS):Option Cells:=match qE is o with
 |some w=>some (den w)
 |none=>none
def ZI:List Nat→Env→Option Env
 | [],_=>some []
 |t::ts,e=>match gM e t with
  |some v=>match ZI ts e with
   |some r=>some ((t,v)::r)
   |none=>none
  |none=>none
def oP:Env→List Nat
 | []=>[]
 | (t,_)::e=>t::oP e
def uf(ts:List Nat):Option JS→Option Env
 |some s=>ZI ts s.env
 |none=>none
theorem sr{ts:List Nat}:uf ts (some s)=ZI ts s.env:=rfl
theorem kp:∀ {ts:List Nat} {r:Env},ZI ts e=some r→kF e r
 | [],r,h=>by simp only[ZI,Option.some.injEq] at h;subst h;trivial
 |t::ts,r,h=>by
  simp only[ZI] at h
  split at h<;>try (cases h;done)
  rename_i v hv
  split at h<;>try (cases h;done)
  rename_i r' hr
  cases h
  exact⟨hv,kp hr⟩
theorem ld:∀(a b:List Sg),den (a++b)=den a++den b
 | [],b=>rfl
 | .b i o::a,b=>by simp[iC,ld a b]
 | .l L::a,b=>by simp[gv,ld a b]
theorem wL:∀(w:List Sg) (k:Nat),dE [] k w=w
 | [],_=>rfl
 |x::w,k=>by simp[dE,bk,wL w (k+1)]
theorem GL:∀ {w:List Sg} {i k:Nat} {is:List Nat} {x:Sg},x5 w i=some x→bk (k+i) is=false→(den (dE is k w)).Perm (den [x]++den (dE ((k+i)::is) k w))
 | [],_,_,_,_,h,_=>by cases h
 |y::w,0,k,is,x,h,hi=>by
  simp only[x5,Option.some.injEq] at h;subst h
  have hz:∀(w:List Sg) (j:Nat),k <j→dE (k::is) j w=dE is j w:=by
   intro w
   induction w with
   |nil=>intro j _;rfl
   |cons z w ih=>
    intro j hj
    have:Nat.beq j k=false:=beq_false (by omega)
    simp only[dE,bk,this,Bool.false_or,ih (j+1) (by omega)]
  simp only[Nat.add_zero] at hi ⊢
  simp only[dE,hi,cond_false,bk,Nat.beq_refl,Bool.true_or,cond_true,hz w (k+1) (by omega)]
  cases y with
  |b i o=>rw[iC];exact .refl _
  |l L=>rw[gv];exact .refl _
 |y::w,i+1,k,is,x,h,hi=>by
  have e:k+(i+1)=(k+1)+i:=by omega
  rw[e] at hi ⊢
  have hr:=GL (w:=w) (k:=k+1) (is:=is) h hi
  have eg:Nat.beq k ((k+1)+i)=false:=beq_false (by omega)
  simp only[dE,bk,eg,Bool.false_or]
  cases bk k is with
  |true=>simp only[cond_true];exact hr
  |false=>
   simp only[cond_false]
   cases y with
   |b i' o=>rw[iC,iC];exact(hr.cons _).trans List.perm_middle.symm
   |l L=>
    rw[gv,gv]
    refine(hr.append_left L).trans ?_
    rw[←List.append_assoc,←List.append_assoc]
    exact List.Perm.append_right _ List.perm_append_comm
theorem wC{w:List Sg}:∀ {is:List Nat} {r:List Sg},Oh is w=some r→Fi is=true→(den w).Perm (den r++den (dE is 0 w))
 | [],r,h,_=>by simp only[Oh,Option.some.injEq] at h;subst h;rw[wL];exact .refl _
 |i::is,r,h,ho=>by
  simp only[Oh] at h
  split at h<;>try (cases h;done)
  rename_i x hx
  split at h<;>try (cases h;done)
  rename_i r' hr
  cases h
  simp only[Fi,Bool.and_eq_true,Bool.not_eq_true'] at ho
  have h1:=wC hr ho.2
  have h2:=GL (k:=0) (is:=is) hx (by rw[Nat.zero_add];exact ho.1)
  rw[Nat.zero_add] at h2
  refine h1.trans ((List.Perm.append_left _ h2).trans ?_)
  have:den (x::r')=den [x]++den r':=by rw[←ld];rfl
  rw[this,←List.append_assoc]
  exact List.Perm.append_right _ List.perm_append_comm
theorem lF{is:List Nat}{w:List Sg}(h:qE is (some s)=some w):(den s.rw).Perm (den w++den (dE is 0 s.rw)):=by
 simp only[qE] at h
 cases ho:Fi is with
 |false=>rw[ho] at h;cases h
 |true=>rw[ho] at h;exact wC h ho
theorem bH{is:List Nat}{L:Cells}(h:dY is (some s)=some L):(den s.rw).Perm (L++den (dE is 0 s.rw)):=by
 simp only[dY] at h
 split at h<;>try (cases h;done)
 rename_i w hw
 cases h
 exact lF hw
theorem P7{is:List Nat}{L:Cells}(h:dY is (some s)=some L):∀x∈L,(⟨X.ro,den s.rw⟩:St).has x.1 x.2:=fun x hx=> .inr ((bH h).mem_iff.2 (List.mem_append_left _ hx))
section
variable {X:Cx} {o:Option JS}
theorem rO{f:Oper→Env→Option β}{r:β}(h:dG n f o=some r):∃s p e,o=some s∧p5 n s=some (true,p,e)∧f p e=some r:=by
 unfold dG at h
 split at h<;>try (cases h;done)
 rename_i s
 split at h<;>try (cases h;done)
 rename_i p e hh
 exact⟨s,p,e,rfl,hh,h⟩
theorem jG{v:Value}{f:Oper→Env→Option β}{r:β}(h:dG X.n f o=some r)(hy:∀s p e,o=some s→p5 X.n s=some (true,p,e)→f p e=some r→eF p.op=true∧(Knows X.ro s.kn.c→Yields X.P X.n e p ⟨X.ro,den s.rw⟩ v)∧(Cs p.op=true→∀s,Yields X.P X.n e p s v))(hj:J X (jW v o)):J X o:=by
 obtain⟨s,p,e,rfl,hh,hf⟩:=rO h
 obtain⟨h1,h2,h3⟩:=hy s p e rfl hh hf
 simp only[jW] at hj
 cases hp:E6 v s with
 |none=>rw[hp] at hj;exact hj.elim
 |some s'=>rw[hp] at hj;exact jy hh hp ⟨h1,h2,h3⟩ hj
theorem jGS{v:Value}{f:Oper→Env→Option β}{r:β}(h:dG X.n f o=some r)(hy:∀s p e,o=some s→f p e=some r→Hh X e p ⟨X.ro,den s.rw⟩ v∧(Cs p.op=true→∀s,Hh X e p s v))(hj:J X (jW v o)):J X o:=by
 obtain⟨s,p,e,rfl,hh,hf⟩:=rO h
 simp only[jW] at hj
 cases hp:E6 v s with
 |none=>rw[hp] at hj;exact hj.elim
 |some s'=>rw[hp] at hj;exact jyS hh hp ⟨fun _=>(hy s p e rfl hf).1,(hy s p e rfl hf).2⟩ hj
def KJ(B:Cells)(v:Value):Option JS→Option JS
 |some s=>ajp B v s
 |none=>none
theorem jGN{v:Value}{f:Oper→Env→Option β}{r:β}{B:Cells}(h:dG X.n f o=some r)(hB:dY ps o=some B)(hy:∀s p e,o=some s→p5 X.n s=some (true,p,e)→f p e=some r→Cs p.op=false∧∀s0,Ext ⟨X.ro,[]⟩ s0→(∀x∈B,s0.has x.1 x.2)→Hh X e p s0 v)(hj:J X (KJ B v o)):J X o:=by
 obtain⟨s,p,e,rfl,hh,hf⟩:=rO h
 obtain⟨h1,h2⟩:=hy s p e rfl hh hf
 simp only[KJ] at hj
 cases hp:ajp B v s with
 |none=>rw[hp] at hj;exact hj.elim
 |some s'=>rw[hp] at hj;exact jyN hh hp (P7 hB) h1 h2 hj
theorem QG{v:Value}{f:Oper→Env→Option β}{r:β}(h:dG X.n f o=some r)(hy:∀s p e,o=some s→f p e=some r→∀s0,Hh X e p s0 v)(hj:J X (jW v o)):J X o:=
 jGS h (fun s p e ho hf=>⟨hy s p e ho hf _,fun _=>hy s p e ho hf⟩) hj
def ao8(P:Program)(n:Nat)(p:Oper)(e:Env):Option Value:=bif eF p.op then aay P n e p else none
theorem je(v:Value){w:Value}(hw:w=v)(hj:J X (jW v o))(hv:dG X.n (ao8 X.P X.n) o=some w:=by kernel_rfl):J X o:=by
 subst hw
 refine jG hv (fun s p e _ _ hf=>?_) hj
 unfold ao8 at hf
 cases hn:eF p.op with
 |false=>rw[hn] at hf;cases hf
 |true=>rw[hn] at hf;exact⟨rfl,fun _=>y6 hf,fun _ _=>y6 hf⟩
theorem ja(r:Int)(h: -9223372036854775808≤r∧r≤9223372036854775807)(hj:J X (jW (.int .i64 r) o))(hv:dG X.n (ao8 X.P X.n) o=some (.int .i64 (IntKind.i64.wrap r)):=by kernel_rfl):J X o:=je _ (by rw[j8 r h]) hj hv
def ldA(P:Program)(n k:Nat)(vs:List Value)(p:Oper)(e:Env):Option (Option Addr):=match p.op with
 | .load T x=>match ldv P T vs k with
  |some _=>match bu n e x with
   |some (.pointer a)=>some a
   |_=>none
  |none=>none
 |_=>none
def ldW(P:Program)(n k:Nat)(vs:List Value)(o:Option JS):Value:=(dG n (fun p _=>match p.op with
 | .load T _=>ldv P T vs k
 |_=>none) o).getD undef
theorem oQ{b m:Nat}(k:Nat)(ps:List Nat)(B:Cells)(hr:∀s:St,Ext ⟨X.ro,[]⟩ s→(∀x∈B,s.has x.1 x.2)→cA s b off m vs)(hj:J X (KJ B (ldW X.P X.n k vs o) o))(hv:dG X.n (ldA X.P X.n k vs) o=some (some ⟨b,off+k,none⟩):=by kernel_rfl)(hB:dY ps o=some B:=by kernel_rfl):J X o:=by
 refine jGN hv hB (fun s p e ho hh hf=>?_) hj
 subst ho
 unfold ldA at hf
 split at hf<;>try (cases hf;done)
 rename_i T x aB
 split at hf<;>try (cases hf;done)
 rename_i v hv2
 split at hf<;>try (cases hf;done)
 rename_i a hx
 simp only[Option.some.injEq] at hf;subst hf
 have hw:ldW X.P X.n k vs (some s)=v:=by simp only[ldW,dG,hh,aB,hv2,Option.getD_some]
 rw[hw]
 exact⟨by rw[aB];rfl,fun s0 FO uC ops i ho rest hwt s' hs todo Q hk=>lG X.hC ho rest hwt (by rw[aB];rfl) (aq2 k aB hx (hr s0 FO uC) hv2) hs hk⟩
theorem jl{b m:Nat}(k:Nat)(hr:cA ⟨X.ro,[]⟩ b off m vs)(hj:J X (KJ [] (ldW X.P X.n k vs o) o))(hv:dG X.n (ldA X.P X.n k vs) o=some (some ⟨b,off+k,none⟩):=by kernel_rfl):J X o:=by
 have hB:dY [] o=some []:=by
  obtain⟨s,_,_,rfl,_⟩:=rO hv
  rfl
 exact oQ k [] [] (fun s hs _=>hr.ext hs) hj hv hB
def ixA(P:Program)(n:Nat)(p:Oper)(e:Env):Option (Value×Int×Nat):=match p.op with
 | .indexAddr T x y=>match ba P T with
  |some ⟨.slice E,_,_,_⟩=>match ba P E with
   |some te=>match bu n e x with
    |some v=>match bu n e y with
     |some (.int _ ix)=>some (v,ix,te.size)
     |_=>none
    |none=>none
   |none=>none
  |_=>none
 |_=>none
theorem jix{a:Option Addr}{b len:Nat}(ix:Int)(cap sz:Nat)(ha:a=some ⟨b,off,none⟩)(hi:0≤ix∧ix <len)(hj:J X (jW (.pointer (some ⟨b,off+ix.toNat*sz,none⟩)) o))(hv:dG X.n (ixA X.P X.n) o=some (.slice a len cap,ix,sz):=by kernel_rfl):J X o:=by
 refine jG hv (fun s p e ho hh hf=>?_) hj
 unfold ixA at hf
 split at hf<;>try (cases hf;done)
 rename_i T x y aB
 split at hf<;>try (cases hf;done)
 rename_i E _ _ _ dR
 split at hf<;>try (cases hf;done)
 rename_i te tH
 split at hf<;>try (cases hf;done)
 rename_i v hx
 split at hf<;>try (cases hf;done)
 rename_i ik ix' hy
 simp only[Option.some.injEq,Prod.mk.injEq] at hf
 obtain⟨rfl,rfl,rfl⟩:=hf
 subst ha
 obtain⟨bE,tf⟩:=au dR
 obtain⟨AE,qt⟩:=au tH
 have key:∀s,Yields X.P X.n e p s (.pointer (some ⟨b,off+ix'.toNat*te.size,none⟩)):=by
  intro s s' mT f hf K E hK
  simp only[execOp,aB,Instr.indexAt,hf _ _ hx,hf _ _ hy,asIntOf,aa,af,bh tf,hi,and_self,if_true,cm qt,dP]
  exact hK
 exact⟨by rw[aB];rfl,fun _=>key _,fun _=>key⟩
theorem iE{ps:List α}{b:Nat}{x:α}{a:Option Addr}(cap sz:Nat)(ha:∀k,k <ps.length→a=some ⟨b,off,none⟩)(hx:ps[k]?=some x) (hj:J X (jW (.pointer (some ⟨b,off+k*sz,none⟩)) o)) (hv:dG X.n (ixA X.P X.n) o=some (.slice a ps.length cap,(k:Int),sz):=by kernel_rfl):J X o:=
 have hk:k <ps.length:=(List.getElem?_eq_some_iff.1 hx).1
 jix (k:Int) cap sz (ha k hk) (by omega) hj hv
theorem M7{ps:List α}{b:Nat}{x:α}{a:Option Addr}(ix:Int)(cap sz:Nat)(ha:∀k,k <ps.length→a=some ⟨b,off,none⟩)(hx:ps[k]?=some x) (he:ix=(k:Int)) (hj:J X (jW (.pointer (some ⟨b,off+k*sz,none⟩)) o)) (hv:dG X.n (ixA X.P X.n) o=some (.slice a ps.length cap,ix,sz):=by kernel_rfl):J X o:=by
 subst he;exact iE cap sz ha hx hj hv
theorem ZJ{v:Value}{enc:α→List Value}{ps:List α}{L:Cells}{x:α}(sz:Nat)(ky:aD v szo T2 enc ps L)(hx:ps[k]?=some x) (hj:∀b,MQ v b→J X (jW (.pointer (some ⟨b,k*sz,none⟩)) o)) (hv:dG X.n (ixA X.P X.n) o=some (v,(k:Int),sz):=by kernel_rfl):J X o:=by
 have hk:k <ps.length:=(List.getElem?_eq_some_iff.1 hx).1
 obtain⟨b,hb⟩:=ayM ky hk
 have gp:=hb
 obtain⟨n0,c,rfl⟩:=gp
 have hn:n0=ps.length:=by
  obtain⟨a,c',he⟩:=ky.form
  cases he;rfl
 subst hn
 have hj:=hj b hb
 exact jix (off:=0) (k:Int) c sz rfl (by omega) (by rw[Nat.zero_add];exact hj) hv
theorem pS{v:Value}{enc:α→List Value}{ps:List α}{L:Cells}{x:α}(ix:Int)(sz:Nat)(ky:aD v szo T2 enc ps L)(hx:ps[k]?=some x) (he:ix=(k:Int)) (hj:∀b,MQ v b→J X (jW (.pointer (some ⟨b,k*sz,none⟩)) o)) (hv:dG X.n (ixA X.P X.n) o=some (v,ix,sz):=by kernel_rfl):J X o:=by
 subst he;exact ZJ sz ky hx hj hv
end
attribute [irreducible] dG jW KJ dY qE uf ldW
section
variable {X:Cx} {o:Option JS}
theorem MY{D:List Deferred}{t:Nat}{v:Value}(h:gM e t=some v):A n ((t,v)::e) D=A n e D:=by
 simp only[A]
 congr 1
 congr 1
 funext i
 simp only[get]
 cases hb:Nat.beq t i with
 |false=>rfl
 |true=>
  have:=Nat.eq_of_beq_eq_true hb
  subst this
  exact(mE h).symm
def NZ(j:Nat)(v:Value):List (Nat×Value)→List (Nat×Value)
 | []=>[]
 | (i,w)::r=>bif Nat.beq i j then (i,v)::r else (i,w)::NZ j v r
theorem EO{j:Nat}{v:Value}:∀ {l:List (Nat×Value)},Og l j=some v→NZ j v l=l
 | (i,w)::r,h=>by
  simp only[Og] at h
  simp only[NZ]
  cases hb:Nat.beq i j with
  |true=>rw[hb] at h;simp only[cond_true,Option.some.injEq] at h;subst h;rfl
  |false=>rw[hb] at h;simp only[cond_false] at h ⊢;rw[EO h]
def amX(t:Nat):JS→Option Value
 | ⟨.GK _ _ Pl _ _,_,_,_⟩=>Og Pl t
 |s=>gM s.env t
def IK(t:Nat):Option JS→Option Value
 |some s=>amX t s
 |none=>none
def Xr(t:Nat)(v:Value):JS→JS
 | ⟨.GK ops base Pl Sl k,e,w,kn⟩=>⟨.GK ops base (NZ t v Pl) Sl k,e,w,kn⟩
 | ⟨p,e,w,kn⟩=>⟨p,(t,v)::e,w,kn⟩
def N0(t:Nat)(v:Value):Option JS→Option JS
 |some s=>some (Xr t v s)
 |none=>none
theorem jw(t:Nat)(v:Value){w:Value}(hw:w=v)(hj:J X (N0 t v o))(hv:IK t o=some w:=by kernel_rfl):J X o:=by
 subst hw
 cases o with
 |none=>exact hj
 |some s=>
  rcases s with ⟨p,e,HR,kn⟩
  intro bW
  have hj:=hj
  cases p with
  |GK ops base Pl Sl k=>
   simp only[IK,amX] at hv
   have:NZ t w Pl=Pl:=EO hv
   simp only[N0,Xr,this] at hj
   exact hj bW
  |ops a b c=>have:=hj bW;simp only[Xr,JP] at this;rw[MY hv] at this;exact this
  |code a b=>have:=hj bW;simp only[Xr,JP] at this;rw[MY hv] at this;exact this
  |nxt a=>have:=hj bW;simp only[Xr,JP] at this;rw[MY hv] at this;exact this
  |fin a=>have:=hj bW;simp only[Xr,JP] at this;rw[MY hv] at this;exact this
theorem ji(t:Nat){c b:Bool}(h:c=b)(hj:J X (N0 t (.bool b) o))(hv:IK t o=some (.bool c):=by kernel_rfl):J X o:=jw t _ (by rw[h]) hj hv
theorem js(t:Nat)(c:Bool)(h1:c=true→J X (N0 t (.bool true) o))(h2:c=false→J X (N0 t (.bool false) o))(hv:IK t o=some (.bool c):=by kernel_rfl):J X o:=by
 cases hc:c with
 |true=>exact ji t hc (h1 hc) hv
 |false=>exact ji t hc (h2 hc) hv
def ay8(P:Program)(n:Nat)(p:Oper)(e:Env):Option (Obj×Option Nat):=match p.op with
 | .alloc T=>match ba P T with
  |some ti=>some (.cells ⟨ti.zero⟩ T (0,0),none)
  |none=>none
 | .box T x=>match bu n e x with
  |some v=>some (.cells ⟨dZ v⟩ T (0,0),none)
  |none=>none
 | .buildSlice T m ps=>match ba P T with
  |some ⟨.slice E,_,_,_⟩=>match ba P E with
   |some te=>match Nh n e ps.toList with
    |some pv=>match ov (fun i=>some (i*te.size,te.size)) (cT te.zero m) (tt pv) with
     |some l=>bif Nat.beq te.zero.length te.size&&Nat.ble (m*te.size) 16777216 then some (.cells ⟨l⟩ E (0,0),some m) else none
     |none=>none
    |none=>none
   |none=>none
  |_=>none
 | .range T x=>match ba P T with
  |some ⟨.string,_,_,_⟩=>match bu n e x with
   |some (.string b)=>some (.stringIter b 0,none)
   |_=>none
  |_=>none
 |_=>none
def acA(b:Nat):Option Nat→Value
 |some m=> .slice (some ⟨b,0,none⟩) m m
 |none=> .pointer (some ⟨b,0,none⟩)
def aqI(P:Program)(n b:Nat):Option JS→Option JS
 |some ⟨.ops ops (i::todo) k,e,w,kn⟩=>match p5 n ⟨.ops ops (i::todo) k,e,w,kn⟩ with
  |some (true,p,_)=>match ay8 P n p e with
   |some (ob,m)=>some ⟨.ops ops todo k,upd p.dst (acA b m) e,.b b ob::w,kn⟩
   |none=>none
  |_=>none
 |_=>none
theorem Px{ops:Array Oper}{k:List KI}{e':Env}{w:List Sg}{g:Bool}(h:p5 n ⟨.ops ops (i::todo) k,e,w,kn⟩=some (g,p,e')):ops[i]?=some p∧e'=e∧(g=true→az ops n e p.guard=true):=by
 simp only[p5] at h
 split at h<;>try (cases h;done)
 rename_i p1 ho
 split at h<;>try (cases h;done)
 rename_i g1 hg
 cases h
 refine⟨ho,rfl,fun hg'=>?_⟩
 subst hg'
 have:=nB hg []
 rwa[List.append_nil] at this
theorem jn(hj:∀b,J X (aqI X.P X.n b o)):J X o:=by
 unfold aqI at hj
 split at hj
 ·rename_i ops i todo k e w kn
  split at hj
  ·rename_i p e' hh
   obtain⟨ho,rfl,hw⟩:=Px hh
   have hw:=hw rfl
   intro bW
   rcases p with ⟨dst,op,ty,pos,dc,g⟩
   split at hj
   ·rename_i ob m hn
    have key:∀b,ab X.C X.fn X.aC ops todo (KQ X k) (A X.n (upd dst (acA b m) e') X.D) ⟨X.ro,(b,ob)::den w⟩:=fun b=>by
     have:=hj b bW
     simp only[JP,iC] at this
     exact this
    unfold ay8 at hn
    split at hn
    ·rename_i T aB
     dsimp only at aB;subst aB
     split at hn<;>try (cases hn;done)
     rename_i ti dR
     cases hn
     obtain⟨bE,tf⟩:=au dR
     exact ajG X.hC ho hw tf fun b _=>key b
    ·rename_i T x aB
     dsimp only at aB;subst aB
     split at hn<;>try (cases hn;done)
     rename_i v hx
     cases hn
     exact ay0 X.hC ho hw hx (by rw[ma]) fun b _=>key b
    ·rename_i T m0 ps aB
     dsimp only at aB;subst aB
     split at hn<;>try (cases hn;done)
     rename_i E _ _ _ dR
     split at hn<;>try (cases hn;done)
     rename_i te tH
     split at hn<;>try (cases hn;done)
     rename_i pv H7
     split at hn<;>try (cases hn;done)
     rename_i l hl
     cases hc:(Nat.beq te.zero.length te.size&&Nat.ble (m0*te.size) 16777216) with
     |false=>rw[hc] at hn;cases hn
     |true=>
      rw[hc] at hn;simp only[cond_true,Option.some.injEq,Prod.mk.injEq] at hn
      obtain⟨rfl,rfl⟩:=hn
      simp only[Bool.and_eq_true] at hc
      obtain⟨bE,tf⟩:=au dR
      obtain⟨AE,qt⟩:=au tH
      exact KV X.hC ho hw tf qt hc.1 H7 hc.2 hl fun b _=>key b
    ·rename_i T x aB
     dsimp only at aB;subst aB
     split at hn<;>try (cases hn;done)
     rename_i dR
     split at hn<;>try (cases hn;done)
     rename_i bs hx
     cases hn
     obtain⟨bE,tf⟩:=au dR
     exact Sc X.hC ho hw tf hx fun b _=>key b
    ·cases hn
   ·exact(hj 0).elim
  ·exact(hj 0).elim
 ·exact(hj 0).elim
def ag8(n:Nat)(p:Oper)(e:Env):Option (FuncId×List Value):=match p.op with
 | .call ⟨.value x,xs,_⟩=>match bu n e x with
  |some (.func (.func f) ⟨fi⟩ ⟨ca⟩)=>match xg n e xs.toList with
   |some vs=>some (f,fi++vs++ca)
   |none=>none
  |_=>none
 |_=>none
def xE(P:Program)(n:Nat)(p:Oper)(e:Env):Option (FuncId×List Value):=match ag8 n p e with
 |some (f,vs)=>bif AW P f then some (f,vs) else none
 |none=>none
theorem qj(h:xE P n p e=some (f,vs)):FF P f∧∃x xs at_ fi ca ws,p.op= .call ⟨.value x,xs,at_⟩∧bu n e x=some (.func (.func f) ⟨fi⟩ ⟨ca⟩)∧uM n e xs=some ws∧vs=fi++ws++ca:=by
 unfold xE at h
 split at h<;>try (cases h;done)
 rename_i f' nV hc
 cases hb:AW P f' with
 |false=>rw[hb] at h;cases h
 |true=>
  rw[hb] at h;simp only[cond_true,Option.some.injEq,Prod.mk.injEq] at h
  obtain⟨rfl,rfl⟩:=h
  refine⟨kO hb,?_⟩
  unfold ag8 at hc
  split at hc<;>try (cases hc;done)
  rename_i x xs at_ aB
  split at hc<;>try (cases hc;done)
  rename_i f fi ca hx
  split at hc<;>try (cases hc;done)
  rename_i ws ry
  cases hc
  exact⟨x,xs,at_,fi,ca,ws,aB,hx,ry,rfl⟩
theorem Qo(a b c:List Value):(⟨a⟩:Array Value)++⟨b⟩++⟨c⟩=⟨a++b++c⟩:=by simp
def mU(ps:List Nat)(v:Value)(Y:Cells):Option JS→Option JS
 |some ⟨.ops ops (i::todo) k,e,w,kn⟩=>match ops[i]? with
  |some p=>some ⟨.ops ops todo k,upd p.dst v e,.l Y::dE ps 0 w,kn⟩
  |none=>none
 |_=>none
def e9(n:Nat)(f:Oper→Env→Option β):Option JS→Option β
 |some ⟨.ops a b c,e,w,kn⟩=>dG n f (some ⟨.ops a b c,e,w,kn⟩)
 |_=>none
theorem dz{f:Oper→Env→Option β}{r:β}(h:e9 n f o=some r):∃ops i todo k e w kn p,o=some ⟨.ops ops (i::todo) k,e,w,kn⟩∧ops[i]?=some p∧az ops n e p.guard=true∧f p e=some r:=by
 unfold e9 at h
 split at h<;>try (cases h;done)
 rename_i ops todo k e w kn
 obtain⟨s,p,e',hs,hh,hf⟩:=rO h
 cases hs
 cases todo with
 |nil=>cases hh
 |cons i todo=>
  obtain⟨ho,rfl,hw⟩:=Px hh
  exact⟨ops,i,todo,k,e',w,kn,p,rfl,ho,hw rfl,hf⟩
def ann(ps lp:List Nat):Option JS→Option Cells
 |some s=>dY lp (some {s with rw:=dE ps 0 s.rw})
 |none=>none
theorem nS{ops:Array Oper}{k:List KI}{w:List Sg}{v:Value}{Y:Cells}(ho:ops[i]?=some p):mU ps v Y (some ⟨.ops ops (i::todo) k,e,w,kn⟩)=some ⟨.ops ops todo k,upd p.dst v e,.l Y::dE ps 0 w,kn⟩:=by
 simp only[mU,ho]
theorem ZK{own:Cells}(ps lp:List Nat)(B:Cells)(hf:∀aE,Sub X.ro aE→Knows aE B→eI X.P f vs aE own Φ)(hj:∀v Y,Φ v Y→J X (mU ps v Y o))(h1:e9 X.n (xE X.P X.n) o=some (f,vs):=by kernel_rfl)(h2:dY ps o=some own:=by kernel_rfl)(h3:ann ps lp o=some B:=by kernel_rfl):J X o:=by
 obtain⟨ops,i,todo,k,e,w,kn,p,rfl,ho,hw,hc⟩:=dz h1
 obtain⟨ff,x,xs,at_,fi,ca,ws,aB,hx,ry,rfl⟩:=qj hc
 intro bW
 rcases p with ⟨dst,op,ty,pos,dc,g⟩
 dsimp only at aB;subst aB
 have hp:=bH h2
 refine acr (own:=own) (B:=B) (Φ:=Φ) X.hC ho hw hx ff ry (Qo fi ws ca) hp (fun y hy=>(bH h3).mem_iff.2 (List.mem_append_left _ hy)) (fun aE hs hB=>hf aE hs hB) (fun v Y pU=>?_)
 have:=hj v Y pU
 simp only[mU,ho] at this
 have:=this bW
 simp only[JP,gv] at this
 exact this
theorem jc{own:Cells}(ps:List Nat)(hf:eI X.P f vs X.ro own Φ)(hj:∀v Y,Φ v Y→J X (mU ps v Y o))(h1:e9 X.n (xE X.P X.n) o=some (f,vs):=by kernel_rfl)(h2:dY ps o=some own:=by kernel_rfl):J X o:=by
 obtain⟨ops,i,todo,k,e,w,kn,p,rfl,ho,hw,hc⟩:=dz h1
 obtain⟨ff,x,xs,at_,fi,ca,ws,aB,hx,ry,rfl⟩:=qj hc
 intro bW
 rcases p with ⟨dst,op,ty,pos,dc,g⟩
 dsimp only at aB;subst aB
 have hp:=bH h2
 refine tC (fi:=⟨fi⟩) (ca:=⟨ca⟩) (ws:=fi++ws++ca) X.hC ho hw hx ff ry (Qo fi ws ca) (Fn.weaken X.hC (eI.aw0 (s:=⟨X.ro,den w⟩) hp hf)) (fun v' s' hr=>?_) (fun ch s' hr=>by obtain⟨_,_,e,_⟩:=hr;cases e) (fun s' hr=>by obtain⟨_,_,e,_⟩:=hr;cases e)
 obtain⟨v,Y,hv,pU,hle⟩:=hr
 cases hv
 have:=hj _ Y pU
 simp only[mU,ho] at this
 have:=this bW
 simp only[JP,gv] at this
 exact this.more X.hC hle
theorem jp{V:Value}(lp:List Nat)(B:Cells)(hf:∀aE,Sub X.ro aE→Knows aE B→dL X.P f vs aE V)(hj:J X (KJ B V o))(h1:dG X.n (xE X.P X.n) o=some (f,vs):=by kernel_rfl)(h3:dY lp o=some B:=by kernel_rfl):J X o:=by
 refine jGN h1 h3 (fun s p e ho hh hc=>?_) hj
 obtain⟨ff,x,xs,at_,fi,ca,ws,aB,hx,ry,rfl⟩:=qj hc
 rcases p with ⟨dst,op,ty,pos,dc,g⟩
 dsimp only at aB;subst aB
 refine⟨rfl,fun s0 FO uC ops i sA rest hw s' hs todo Q hk=>?_⟩
 have hez:Ext ⟨X.ro,B⟩ s':=fun b ob hb=>hs _ _ (hb.elim (fun h=>FO _ _ (.inl h)) fun h=>uC (b,ob) h)
 exact OD X.hC sA hw (bn hx) ff (wJ ry) (Qo fi ws ca) hez (fun aE h1=>hf aE (EK h1) fun y hy=>h1 _ _ (.inr hy)) hk
end
attribute [irreducible] e9 N0 IK aqI mU ann
def sI(P:Program)(f:FuncId):Func:=match P.funcs[f]? with
 |some fn=>fn
 |none=>default
abbrev RX(ro:Nat→Option Obj)(Φ:Value→Cells→Prop):Ending→St→Prop:=fun en s'=>∃v X,en= .returned v∧s'=⟨ro,X⟩∧Φ v X
def X0(P:Program)(hm:P.follows .mixedOrders=true)(f:FuncId)(ro:Nat→Option Obj)(R:Ending→St→Prop):Cx:=⟨P,CP P,eW,hm,f,none,(sI P f).ntmps,[],ro,qR P (sI P f) R⟩
def kJ(P:Program)(f:FuncId)(args:List Value)(own:List Sg)(kn:Cells):Option JS:=match P.funcs[f]? with
 |some fn=>match fn.body with
  |some c=>bif Nat.ble args.length fn.ntmps then some ⟨.code c [],fN 0 args,own,⟨kn,[]⟩⟩ else none
  |none=>none
 |none=>none
theorem azC{hm:P.follows .mixedOrders=true}{ro:Nat→Option Obj}(own:List Sg)(kn:Cells)(hk:Knows ro kn)(h:J (X0 P hm f ro R) (kJ P f args own kn)):Fn (CP P) P f ⟨args⟩ ⟨ro,den own⟩ R:=by
 unfold kJ at h
 split at h<;>try exact h.elim
 rename_i fn hf
 split at h<;>try exact h.elim
 rename_i c hc
 cases hl:Nat.ble args.length fn.ntmps with
 |false=>rw[hl] at h;exact h.elim
 |true=>
  rw[hl] at h
  have ui:sI P f=fn:=by simp only[sI,hf]
  have:=h hk
  simp only[JP,X0,KQ,ui] at this
  exact PU eW hf hc rfl hl this
theorem bI(hm:P.follows .mixedOrders=true){ro:Nat→Option Obj}{L:Cells}(own:List Sg)(kn:Cells)(hk:Knows ro kn)(h:J (X0 P hm f ro (RX ro Φ)) (kJ P f args own kn))(hL:den own=L:=by rfl):eI P f args ro L Φ:=by
 subst hL;exact azC own kn hk h
def Bc(P:Program)(n:Nat)(e:Env)(w:List Sg)(kn:Cells):List Nat→List ResultVar→Option (List Value×List (Nat×Nat))
 |_,[]=>some ([],[])
 |hs,.tmp t::rs=>match bu n e (.tmp t) with
  |some v=>match Bc P n e w kn hs rs with
   |some (vs,q)=>some (v::vs,q)
   |none=>none
  |none=>none
 |h::hs,.cell t T::rs=>match bu n e (.tmp t) with
  |some (.pointer (some ⟨b,off,none⟩))=>match AB w kn h with
   |some (b',l)=>match ldv P T l off with
    |some v=>match Bc P n e w kn hs rs with
     |some (vs,q)=>some (v::vs,(b',b)::q)
     |none=>none
    |none=>none
   |none=>none
  |_=>none
 | [],.cell _ _::_=>none
def jM(P:Program)(n:Nat)(f:FuncId)(hs:List Nat):Option JS→Option (Value×List (Nat×Nat))
 |some ⟨.fin _,e,w,kn⟩=>match Bc P n e w kn.c hs (sI P f).results.toList with
  |some (vs,q)=>some (ue vs,q)
  |none=>none
 |_=>none
def sG:Option (Value×List (Nat×Nat))→Option Value
 |some (v,_)=>some v
 |none=>none
def QX:Option (Value×List (Nat×Nat))→List Nat
 |some (_,q)=>Ty q
 |none=>[0]
def QW:Option (Value×List (Nat×Nat))→List Nat
 |some (_,q)=>Rs q
 |none=>[1]
theorem td{w:List Sg}{kn:Cells}(bW:Knows X.ro kn):∀ {hs:List Nat} {rs:List ResultVar} {vs:List Value} {q:List (Nat×Nat)},Bc X.P X.n e w kn hs rs=some (vs,q)→(∀p∈q,p.1=p.2)→DJ X.P ⟨X.ro,den w⟩ X.n e rs vs
 |_,[],vs,q,h,_=>by simp only[Bc,Option.some.injEq,Prod.mk.injEq] at h;obtain⟨rfl,rfl⟩:=h;exact .nil
 |hs,.tmp t::rs,vs,q,h,hq=>by
  simp only[Bc] at h
  split at h<;>try (cases h;done)
  rename_i v hv
  split at h<;>try (cases h;done)
  rename_i nV q' hr
  simp only[Option.some.injEq,Prod.mk.injEq] at h;obtain⟨rfl,rfl⟩:=h
  exact .tmp hv (td bW hr hq)
 | [],.cell _ _::_,vs,q,h,_=>by simp only[Bc] at h;cases h
 |h0::hs,.cell t T::rs,vs,q,h,hq=>by
  simp only[Bc] at h
  split at h<;>try (cases h;done)
  rename_i b off hv
  split at h<;>try (cases h;done)
  rename_i b' l hc
  split at h<;>try (cases h;done)
  rename_i v hld
  split at h<;>try (cases h;done)
  rename_i nV q' hr
  simp only[Option.some.injEq,Prod.mk.injEq] at h;obtain⟨rfl,rfl⟩:=h
  have hb:b'=b:=hq _ List.mem_cons_self
  subst hb
  obtain⟨t',fz,hh⟩:=yG (X:=X) bW hc
  have ih:=td bW hr fun p hp=>hq p (List.mem_cons_of_mem _ hp)
  unfold ldv at hld
  split at hld<;>try (cases hld;done)
  rename_i ti dR
  obtain⟨bE,tf⟩:=au dR
  cases ha:ti.agg with
  |true=>
   rw[ha] at hld tf;simp only[cond_true] at hld
   split at hld<;>try (cases hld;done)
   rename_i vs2 Dm
   cases hld
   exact .agg tf hv ⟨_,_,_,hh,Dm⟩ ih
  |false=>
   rw[ha] at hld tf;simp only[cond_false] at hld
   exact .cell tf hv ⟨_,_,_,hh,hld⟩ ih
def BV:Option JS→Bool
 |some ⟨.fin .ret,_,_,_⟩=>true
 |some ⟨.fin .normal,_,_,_⟩=>true
 |_=>false
theorem sL{o:Option JS}(h:BV o=true):∃ex e w kn,o=some ⟨.fin ex,e,w,kn⟩∧(ex= .ret∨ex= .normal):=by
 unfold BV at h
 split at h
 ·exact⟨_,_,_,_,rfl,.inl rfl⟩
 ·exact⟨_,_,_,_,rfl,.inr rfl⟩
 ·cases h
def acX:Option JS→Bool
 |some ⟨.ops ..,_,_,_⟩=>true
 |some ⟨.code ..,_,_,_⟩=>true
 |_=>false
structure QR(X:Cx)(R:Ending→St→Prop):Prop where
 q:X.Q=qR X.P (sI X.P X.fn) R
 d:X.D=[]
theorem q0{hm:P.follows .mixedOrders=true}{ro:Nat→Option Obj}:QR (X0 P hm f ro R) R:=⟨rfl,rfl⟩
theorem QR.a{ro:Nat→Option Obj}(h:QR X R):QR (X.at ro) R:=⟨h.q,h.d⟩
theorem bB{ro:Nat→Option Obj}:Knows ro []:=fun _ h=>by cases h
section
variable {X:Cx} {o:Option JS}
theorem aJ{oT:Nat→Option Obj}(hq:QR X R)(v:Value)(hs ps:List Nat)(Y:Cells)(fD:Sub oT X.ro)(hR:R (.returned v) ⟨oT,Y⟩)(h1:sG (jM X.P X.n X.fn hs o)=some v:=by kernel_rfl)(h2:QX (jM X.P X.n X.fn hs o)=QW (jM X.P X.n X.fn hs o):=by kernel_rfl)(h3:dY ps o=some Y:=by kernel_rfl)(h4:BV o=true:=by kernel_rfl):J X o:=by
 obtain⟨ex,e,w,kn,rfl,hex⟩:=sL h4
 simp only[jM] at h1 h2
 cases hr:Bc X.P X.n e w kn.c hs (sI X.P X.fn).results.toList with
 |none=>rw[hr] at h1;cases h1
 |some x=>
  rcases x with ⟨vs,q⟩
  simp only[hr,sG,Option.some.injEq,QX,QW] at h1 h2
  intro bW
  have rB:=td bW hr (lY h2)
  have hp:=bH h3
  show X.Q ex (A X.n e X.D) ⟨X.ro,den w⟩
  rw[hq.q,hq.d]
  exact N4 (s0:=⟨oT,Y⟩) hex rB h1 (dQ hp fD) hR
def wm(X:Cx)(K:Act→St→Prop)(ef:ι→Env)(wf:ι→List Sg)(Inv:ι→Prop)(μ:ι→Nat)(m:Nat):Prop:=
 ∀j,Inv j→μ j <m→∀(e:Env) (s:St),kF e (ef j)→(⟨X.ro,den (wf j)⟩:St).le s→K (A X.n e X.D) s
def xj:List Nat→List (Act→St→Prop)→Code→List KI→Option (Code×List KI)
 | [],_,c,k=>some (c,k)
 |0::p,Ks,.seq a b,k=>xj p Ks a (.seq b::k)
 |1::p,Ks,.seq _ b,k=>xj p Ks b k
 |2::p,K::Ks,.seq a _,k=>xj p Ks a (.next K::k)
 |_::p,Ks,.block id c,k=>xj p Ks c (.block id::k)
 |_::p,Ks,.scope c,k=>xj p Ks c k
 |0::p,Ks,.cond _ a _,k=>xj p Ks a k
 |_::p,Ks,.cond _ _ b,k=>xj p Ks b k
 |_::p,K::Ks,.loop c,k=>xj p Ks c (.next K::k)
 |_::p,Ks,.rangeFunc _ _ _ b,_=>xj p Ks b []
 |_,_,_,_=>none
def Ix(P:Program)(f:FuncId)(p:List Nat)(Ks:List (Act→St→Prop)):Option (Code×List KI):=match (sI P f).body with
 |some c=>xj p Ks c []
 |none=>none
def stC(e:Env)(w:List Sg):Option (Code×List KI)→Option JS
 |some (c,k)=>some ⟨.code c k,e,w,⟨[],[]⟩⟩
 |none=>none
def stW(P:Program)(f:FuncId)(p:List Nat)(Ks:List (Act→St→Prop))(e:Env)(w:List Sg):Option JS:=stC e w (Ix P f p Ks)
def xB:Option JS→Option (Code×List KI)
 |some ⟨.code c k,_,_,_⟩=>some (c,k)
 |_=>none
def lpB(K:Act→St→Prop):Option (Code×List KI)→Option (Code×List KI)
 |some (.loop c,k)=>some (c,.next K::k)
 |_=>none
theorem eG(p:List Nat)(Ks:List (Act→St→Prop))(ef:ι→Env)(wf:ι→List Sg)(Inv:ι→Prop)(μ:ι→Nat)(i0:ι)(h0:Inv i0)(ps:List Nat)(hb:∀i,Inv i→∀K,wm X K ef wf Inv μ (μ i)→∀rest,J X (stW X.P X.fn p (Ks++[K]) (ef i++rest) (wf i)))
 (h1:uf (oP (ef i0)) o=some (ef i0):=by kernel_rfl)(hd:∀i,ZI (oP (ef i)) (ef i)=some (ef i):=by intro _;kernel_rfl)(h2:qE ps o=some (wf i0):=by kernel_rfl)(hp:∀K,Ix X.P X.fn p (Ks++[K])=lpB K (xB o):=by intro _;kernel_rfl):J X o:=by
 have hT:∀i,wm X (fun _ _=>True) ef wf Inv μ (μ i):=fun _ _ _ _ _ _ _ _=>trivial
 have bad:∀(K:Act→St→Prop),lpB K (xB o)=none→(∀i,wm X K ef wf Inv μ (μ i))→J X o:=fun K h hK=>by
  have:=hb i0 h0 K (hK i0) []
  simp only[stW,hp,h,stC] at this
  exact this.elim
 cases o with
 |none=>exact bad _ rfl hT
 |some s=>
  rcases s with ⟨q,e,w,kn⟩
  cases q with
  |code c k=>
   cases c with
   |loop c=>
    intro bW
    refine aai X.hC ef (fun i=>⟨X.ro,den (wf i)⟩) Inv μ i0 h0 (kp (by rw[sr] at h1;exact h1)) (kp (hd i0)) (dQ (lF h2) (Sub.refl _)) fun i hi rest=>?_
    have:=hb i hi _ (fun j hj hm e s hc hle=>ajJ j hj hm hc (kp (hd j)) hle) rest
    simp only[stW,hp,xB,lpB,stC] at this
    exact this fun _ h=>(List.not_mem_nil h).elim
   |_=>exact bad _ rfl hT
  |_=>exact bad _ rfl hT
def X4:Option JS→Option (Act→St→Prop)
 |some ⟨.nxt K,_,_,_⟩=>some K
 |_=>none
theorem bO{K:Act→St→Prop}{ef:ι→Env}{wf:ι→List Sg}{Inv:ι→Prop}{μ:ι→Nat}{m:Nat}(hK:wm X1 K ef wf Inv μ m)(j:ι)(h:Inv j)(hm:μ j <m)(ps:List Nat)(hs:Sub X1.ro X.ro)
 (h0:X4 o=some K:=by kernel_rfl)(h1:uf (oP (ef j)) o=some (ef j):=by kernel_rfl)(h2:qE ps o=some (wf j):=by kernel_rfl)(hn:X1.n=X.n:=by rfl)(hD:X1.D=X.D:=by rfl):J X o:=by
 unfold X4 at h0
 split at h0<;>try (cases h0;done)
 rename_i K' e w kn
 cases h0
 intro _
 rw[sr] at h1
 have:=hK j h hm e ⟨X.ro,den w⟩ (kp h1) (dQ (lF h2) hs)
 rw[hn,hD] at this
 exact this
def gS:List (List Nat)→List Sg→Option (List Cells)
 | [],_=>some []
 |p::r,w=>match Oh p w with
  |some x=>match gS r w with
   |some y=>some (den x::y)
   |none=>none
  |none=>none
def gO(ps:List (List Nat)):Option JS→Option (List Cells)
 |some s=>bif Fi ps.flatten then gS ps s.rw else none
 |none=>none
def Xu:List Sg→List Cells
 | []=>[]
 |x::w=>den [x]::Xu w
theorem EP:∀(w:List Sg),(Xu w).flatten=den w
 | []=>rfl
 | .b i o::w=>by simp[Xu,iC,EP w];rfl
 | .l L::w=>by simp[Xu,gv,EP w];rfl
theorem U6:∀ {a b:List Nat} {w x y:List Sg},Oh a w=some x→Oh b w=some y→Oh (a++b) w=some (x++y)
 | [],b,w,x,y,h,h2=>by simp only[Oh,Option.some.injEq] at h;subst h;exact h2
 |i::a,b,w,x,y,h,h2=>by
  simp only[Oh] at h
  split at h<;>try (cases h;done)
  rename_i z hz
  split at h<;>try (cases h;done)
  rename_i r hr
  cases h
  simp only[List.cons_append,Oh,hz,U6 hr h2]
theorem aod:∀ {ps:List (List Nat)} {w:List Sg} {l:List Cells},gS ps w=some l→∃z,Oh ps.flatten w=some z∧den z=l.flatten
 | [],w,l,h=>by simp only[gS,Option.some.injEq] at h;subst h;exact⟨[],rfl,rfl⟩
 |p::r,w,l,h=>by
  simp only[gS] at h
  split at h<;>try (cases h;done)
  rename_i x hx
  split at h<;>try (cases h;done)
  rename_i y hy
  cases h
  obtain⟨z,h1,h2⟩:=aod hy
  exact⟨x++z,by simpa using U6 hx h1,by simp[ld,h2]⟩
theorem Lh{K:Act→St→Prop}{ef:ι→Env}{wf:ι→List Sg}{Inv:ι→Prop}{μ:ι→Nat}{m:Nat}(hK:wm X1 K ef wf Inv μ m)(j:ι)(h:Inv j)(hm:μ j <m)(ps:List (List Nat))(hs:Sub X1.ro X.ro)
 (h0:X4 o=some K:=by kernel_rfl)(h1:uf (oP (ef j)) o=some (ef j):=by kernel_rfl)(h2:gO ps o=some (Xu (wf j)):=by kernel_rfl)(hn:X1.n=X.n:=by rfl)(hD:X1.D=X.D:=by rfl):J X o:=by
 unfold X4 at h0
 split at h0<;>try (cases h0;done)
 rename_i K' e w kn
 cases h0
 intro _
 rw[sr] at h1
 have hp:(den w).Perm (den (wf j)++den (dE ps.flatten 0 w)):=by
  simp only[gO] at h2
  cases ho:Fi ps.flatten with
  |false=>rw[ho] at h2;cases h2
  |true=>
   rw[ho] at h2
   obtain⟨z,h3,h4⟩:=aod h2
   rw[EP] at h4
   rw[←h4]
   exact wC h3 ho
 have:=hK j h hm e ⟨X.ro,den w⟩ (kp h1) (dQ hp hs)
 rw[hn,hD] at this
 exact this
def aFL:Option (Code×List KI)→Option (Code×List KI)
 |some (_,.seq y::k)=>some (y,k)
 |_=>none
def auI(K:Act→St→Prop):Option JS→Option JS
 |some ⟨.code x (.seq _::k),e,w,kn⟩=>some ⟨.code x (.next K::k),e,w,kn⟩
 |_=>none
theorem Hs(p:List Nat)(Ks:List (Act→St→Prop))(ef:ι→Env)(wf:ι→List Sg)(Inv:ι→Prop)(hj:∀i,Inv i→∀rest,J X (stW X.P X.fn p Ks (ef i++rest) (wf i)))(h:∀K,wm X K ef wf Inv (fun _=>0) 1→J X (auI K o))(hd:∀i,ZI (oP (ef i)) (ef i)=some (ef i):=by intro _;kernel_rfl)(hp:Ix X.P X.fn p Ks=aFL (xB o):=by kernel_rfl):J X o:=by
 unfold auI at h
 split at h
 ·rename_i x y k e w kn
  intro bW
  refine h (fun a s=>Wp X.C X.fn X.aC y (KQ X k) a s) (fun j hI _ e s hc hle=>?_) bW
  obtain⟨r,hr⟩:=fX (n:=X.n) (D:=X.D) hc (kp (hd j))
  rw[hr]
  have:=hj j hI r
  simp only[stW,hp,xB,aFL,stC] at this
  exact(this fun _ h=>(List.not_mem_nil h).elim).more X.hC hle
 ·exact(h (fun _ _=>True) fun _ _ _ _ _ _ _=>trivial).elim
def expand:Cells→List Sg
 | []=>[]
 |x::l=> .b x.1 x.2::expand l
def TK:Nat→List Sg→List Sg
 |_,[]=>[]
 |0,.l L::w=>expand L++w
 |0,x::w=>x::w
 |i+1,x::w=>x::TK i w
theorem Un{w w':List Sg}{p:Pos}(h:den w'=den w)(hj:JP X kn e w' p):JP X kn e w p:=by
 cases p<;>simp only[JP,h] at hj ⊢ <;>exact hj
def aEX(i:Nat):Option JS→Option JS
 |some s=>some {s with rw:=TK i s.rw}
 |none=>none
def WM:List Sg→Cells
 | []=>[]
 | .b i o::w=>(i,o)::WM w
 | .l _::w=>WM w
theorem wQ:∀ {w:List Sg} {x:Nat×Obj},x∈WM w→x∈den w
 | .b i o::w,x,h=>by
  rw[iC]
  rcases List.mem_cons.1 h with rfl|h
  ·exact List.mem_cons_self
  ·exact List.mem_cons_of_mem _ (wQ h)
 | .l L::w,x,h=>by rw[gv];exact List.mem_append_right _ (wQ (w:=w) h)
def alw(ps:List Nat):Option JS→Option JS
 |some s=>match Oh ps s.rw with
  |some w=>some {s with rw:=dE ps 0 s.rw,kn:=⟨WM w++s.kn.c,s.kn.nd⟩}
  |none=>none
 |none=>none
theorem Hk{aK:Nat→Option Obj}:∀(k:List KI),KQ (X.at aK) k=KQ X k
 | []=>rfl
 | .seq _::k=>by simp only[KQ,Hk k];rfl
 | .block _::k=>by simp only[KQ,Hk k]
 | .next _::k=>by simp only[KQ,Hk k]
theorem jf(ps:List Nat)(L:Cells)(h:∀aK,Sub X.ro aK→Knows aK L→J (X.at aK) (alw ps o))(h2:dY ps o=some L:=by kernel_rfl)(hp:acX o=true:=by kernel_rfl):J X o:=by
 have hpk:∀ {s:JS},dY ps (some s)=some L→∃w,Oh ps s.rw=some w∧den w=L:=by
  intro s hs
  simp only[dY,qE] at hs
  cases hk:Fi ps with
  |false=>rw[hk] at hs;cases hs
  |true=>
   rw[hk] at hs;simp only[cond_true] at hs
   split at hs<;>try (cases hs;done)
   rename_i w hw
   cases hs
   exact⟨w,hw,rfl⟩
 unfold acX at hp
 split at hp
 ·rename_i ops todo k e w kn
  intro bW
  obtain⟨w1,hw1,rfl⟩:=hpk h2
  refine R9 X.hC (bH h2) fun aK hs hk=>?_
  have:=h aK hs hk
  simp only[alw,hw1] at this
  have:=this (fun x hx=>(List.mem_append.1 hx).elim (fun hx=>hk x (wQ hx)) fun hx=>hs _ _ (bW x hx))
  simp only[JP,Hk] at this
  exact this
 ·rename_i c k e w kn
  intro bW
  obtain⟨w1,hw1,rfl⟩:=hpk h2
  refine Xc X.hC (bH h2) fun aK hs hk=>?_
  have:=h aK hs hk
  simp only[alw,hw1] at this
  have:=this (fun x hx=>(List.mem_append.1 hx).elim (fun hx=>hk x (wQ hx)) fun hx=>hs _ _ (bW x hx))
  simp only[JP,Hk] at this
  exact this
 ·cases hp
def geO:Option JS→Option JS
 |some s=>some {s with rw:= .l []::s.rw}
 |none=>none
theorem oU(h:J X (geO o)):J X o:=by
 cases o with
 |none=>exact h
 |some s=>exact fun bW=>Un (by simp[gv]) (h bW)
def sgS:Nat→List Sg→List Sg→List Sg
 |_,_,[]=>[]
 |0,l,_::w=>l++w
 |i+1,l,x::w=>x::sgS i l w
theorem UQ{l:List Sg}:∀ {i:Nat} {w:List Sg} {x:Sg},x5 w i=some x→den [x]=den l→den (sgS i l w)=den w
 |_,[],_,h,_=>by cases h
 |0,y::w,x,h,hd=>by
  simp only[x5,Option.some.injEq] at h;subst h
  have:den (y::w)=den [y]++den w:=by rw[←ld];rfl
  rw[this,hd,←ld];rfl
 |i+1,y::w,x,h,hd=>by
  have:=UQ (w:=w) (i:=i) h hd
  cases y<;>simp[sgS,iC,gv,this]
def sgO(i:Nat)(l:List Sg):Option JS→Option JS
 |some s=>some {s with rw:=sgS i l s.rw}
 |none=>none
theorem jg(i:Nat)(l:List Sg)(h:J X (sgO i l o))(h2:dY [i] o=some (den l):=by kernel_rfl):J X o:=by
 cases o with
 |none=>exact h
 |some s=>
  have hn:∃x,x5 s.rw i=some x∧den [x]=den l:=by
   simp only[dY,qE,Fi,bk,Oh,Bool.not_false,Bool.true_and,cond_true] at h2
   cases hx:x5 s.rw i with
   |none=>rw[hx] at h2;cases h2
   |some x=>rw[hx] at h2;simp only[Option.some.injEq] at h2;exact⟨x,rfl,h2⟩
  obtain⟨x,hx,hd⟩:=hn
  exact fun bW=>Un (UQ hx hd) (h bW)
theorem jmw(i:Nat)(l:List Sg){L:Cells}(h:L=den l)(hj:J X (sgO i l o))(h2:dY [i] o=some L:=by kernel_rfl):J X o:=by
 subst h;exact jg i l hj h2
end
def Cx.wd(X:Cx)(D:List Deferred):Cx:={X with D:=D}
theorem Qw{D:List Deferred}:∀(k:List KI),KQ (X.wd D) k=KQ X k
 | []=>rfl
 | .seq _::k=>by simp only[KQ,Qw k];rfl
 | .block _::k=>by simp only[KQ,Qw k]
 | .next _::k=>by simp only[KQ,Qw k]
def Ej(X:Cx)(K:Act→St→Prop)(ef:ι→Env)(wf:ι→List Sg)(df:ι→List Deferred)(Inv:ι→Prop)(μ:ι→Nat)(m:Nat):Prop:=
 ∀j,Inv j→μ j <m→∀(e:Env) (s:St),kF e (ef j)→(⟨X.ro,den (wf j)⟩:St).le s→K (A X.n e (df j)) s
section
variable {X:Cx} {o:Option JS}
theorem aaj{C:Class}{fn:FuncId}{aC:Option Nat}{Q:Post}{env:Env}{s:St}(hC:∀main T,C main T→Closed X.P main T)(pe:ι→Env)(sf:ι→St)(df:ι→List Deferred)(Inv:ι→Prop)(μ:ι→Nat){c:Code}(i0:ι)(h0:Inv i0)(hc:kF env (pe i0))(hd:∀i,kF (pe i) (pe i))(hs:(sf i0).le s)
 (round:∀i,Inv i→∀rest,Wp C fn aC c (lP (fun a s=>∃j,Inv j∧μ j <μ i∧(∃e,kF e (pe j)∧a=A n e (df j))∧(sf j).le s) Q) (A n (pe i++rest) (df i)) (sf i)):Wp C fn aC (.loop c) Q (A n env (df i0)) s:=by
 obtain⟨r0,uK⟩:=fX (n:=n) (D:=df i0) hc (hd i0)
 rw[uK]
 intro main T hT b k cs h1 h2 h3 h4
 have key:∀m i rest s,μ i=m→Inv i→(sf i).le s→T (G (aM b (A n (pe i++rest) (df i)) (.code c:: .inLoop c::k)) cs) s:=by
  intro m
  induction m using Nat.strongRecOn with
  |_ m ih=>
   intro i rest s hm hI hle
   refine(hC main T hT).mono _ _ _ hle ?_
   refine round i hI rest main T hT b (.inLoop c::k) cs h1 h2 h3 fun e a' s' q=>?_
   cases e with
   |normal=>
    obtain⟨j,yz,cK,⟨e,he,rfl⟩,xe⟩:=q
    obtain⟨abv,hr⟩:=fX (n:=n) (D:=df j) he (hd j)
    rw[hr]
    exact(hC main T hT).go rfl rfl (g':=G (aM b _ (.code c:: .inLoop c::k)) cs) (fun w=>by simp[G,stepG,stepG.exec,aM]) (ih _ (hm▸cK) j abv s' rfl yz xe)
   |exit id=>exact(h4 _ _ _ q).push rfl (by simp)
   |ret=>exact(h4 _ _ _ q).push (x:= .inLoop c) rfl (by simp)
   |panic ch=>exact(h4 _ _ _ q).push (x:= .inLoop c) rfl (by simp)
   |goto l=>exact(h4 _ _ _ q).elim
   |outgrown=>exact(h4 _ _ _ q).elim
 exact(hC main T hT).go rfl rfl (g':=G (aM b (A n (pe i0++r0) (df i0)) (.code c:: .inLoop c::k)) cs) (fun w=>by simp[G,stepG,stepG.exec,aM]) (key _ i0 r0 s rfl h0 hs)
theorem azF(p:List Nat)(Ks:List (Act→St→Prop))(ef:ι→Env)(wf:ι→List Sg)(df:ι→List Deferred)(Inv:ι→Prop)(μ:ι→Nat)(i0:ι)(h0:Inv i0)(ps:List Nat)(hb:∀i,Inv i→∀K,Ej X K ef wf df Inv μ (μ i)→∀rest,J (X.wd (df i)) (stW X.P X.fn p (Ks++[K]) (ef i++rest) (wf i)))
 (h1:uf (oP (ef i0)) o=some (ef i0):=by kernel_rfl)(hd:∀i,ZI (oP (ef i)) (ef i)=some (ef i):=by intro _;kernel_rfl)(h2:qE ps o=some (wf i0):=by kernel_rfl)(hp:∀K,Ix X.P X.fn p (Ks++[K])=lpB K (xB o):=by intro _;kernel_rfl)(hD:X.D=df i0:=by rfl):J X o:=by
 have hT:∀i,Ej X (fun _ _=>True) ef wf df Inv μ (μ i):=fun _ _ _ _ _ _ _ _=>trivial
 have bad:∀(K:Act→St→Prop),lpB K (xB o)=none→(∀i,Ej X K ef wf df Inv μ (μ i))→J X o:=fun K h hK=>by
  have:=hb i0 h0 K (hK i0) []
  simp only[stW,hp,h,stC] at this
  exact this.elim
 cases o with
 |none=>exact bad _ rfl hT
 |some s=>
  rcases s with ⟨q,e,w,kn⟩
  cases q with
  |code c k=>
   cases c with
   |loop c=>
    intro bW
    show Wp X.C X.fn X.aC (.loop c) (KQ X k) (A X.n e X.D) ⟨X.ro,den w⟩
    rw[hD]
    refine aaj (X:=X) X.hC ef (fun i=>(⟨X.ro,den (wf i)⟩:St)) df Inv μ i0 h0 (kp (by rw[sr] at h1;exact h1)) (fun i=>kp (hd i)) (dQ (lF h2) (Sub.refl _)) fun i hi rest=>?_
    have:=hb i hi (fun a s=>∃j,Inv j∧μ j <μ i∧(∃e,kF e (ef j)∧a=A X.n e (df j))∧(⟨X.ro,den (wf j)⟩:St).le s) (fun j hj hm e s hc hle=>⟨j,hj,hm,⟨e,hc,rfl⟩,hle⟩) rest
    simp only[stW,hp,xB,lpB,stC] at this
    have:=this fun _ h=>(List.not_mem_nil h).elim
    simp only[JP,KQ,Qw] at this
    exact this
   |_=>exact bad _ rfl hT
  |_=>exact bad _ rfl hT
theorem jnD{K:Act→St→Prop}{ef:ι→Env}{wf:ι→List Sg}{df:ι→List Deferred}{Inv:ι→Prop}{μ:ι→Nat}{m:Nat}(hK:Ej X1 K ef wf df Inv μ m)(j:ι)(h:Inv j)(hm:μ j <m)(ps:List (List Nat))(hs:Sub X1.ro X.ro)
 (h0:X4 o=some K:=by kernel_rfl)(h1:uf (oP (ef j)) o=some (ef j):=by kernel_rfl)(h2:gO ps o=some (Xu (wf j)):=by kernel_rfl)(hn:X1.n=X.n:=by rfl)(hD:X.D=df j:=by rfl):J X o:=by
 have hK':wm (X1.wd (df j)) K ef wf (fun i=>i=j) μ m:=fun i hi hm e s hc hle=>by subst hi;exact hK _ h hm e s hc hle
 exact Lh hK' j rfl hm ps hs h0 h1 h2 hn hD.symm
end
attribute [irreducible] gO geO sI kJ auI stW xB Ix aEX alw sgO BV acX jM QX QW sG X4
section
variable {X:Cx} {o:Option JS}
def MD(n:Nat)(p:Oper)(e:Env):Option (BinOp×TypeId×Value×Value):=match p.op with
 | .binOp op T x y _=>match bu n e x with
  |some v=>match bu n e y with
   |some w=>some (op,T,v,w)
   |none=>none
  |none=>none
 |_=>none
theorem tQ{op:BinOp}{v w:Value}(h:MD n p e=some (op,T,v,w)):∃x y T',p.op= .binOp op T x y T'∧bu n e x=some v∧bu n e y=some w:=by
 unfold MD at h
 split at h<;>try (cases h;done)
 rename_i aB
 split at h<;>try (cases h;done)
 rename_i hx
 split at h<;>try (cases h;done)
 rename_i hy
 cases h
 exact⟨_,_,_,aB,hx,hy⟩
theorem jsa{a:ByteArray}(T:TypeId)(hb:(a.size:Int)+b.size≤9223372036854775807)(hj:J X (jW (.string (a++b)) o))(hv:dG X.n (MD X.n) o=some (.add,T,.string a,.string b):=by kernel_rfl):J X o:=by
 refine QG hv (fun s p e _ hf=>?_) hj
 obtain⟨x,y,T',aB,hx,hy⟩:=tQ hf
 rcases p with ⟨dst,op,ty,pos,dc,g⟩
 dsimp only at aB;subst aB
 exact fun s0 ops i sA rest hw s' hs todo Q hk=>aqC X.hC sA hw (bn hx) (bn hy) hb hk
theorem jrm{k:IntKind}{a b:Int}(T:TypeId)(hb:b≠0)(hj:J X (jW (.int k (a.tmod b)) o))(hv:dG X.n (MD X.n) o=some (.rem,T,.int k a,.int k b):=by kernel_rfl):J X o:=by
 refine QG hv (fun s p e _ hf=>?_) hj
 obtain⟨x,y,T',aB,hx,hy⟩:=tQ hf
 rcases p with ⟨dst,op,ty,pos,dc,g⟩
 dsimp only at aB;subst aB
 exact fun s0 ops i sA rest hw s' hs todo Q hk=>ayT X.hC sA hw (bn hx) (bn hy) hb hk
theorem jsr{k k':IntKind}{a b:Int}(T:TypeId)(hb:0≤b)(hj:J X (jW (.int k (aV k a b)) o))(hv:dG X.n (MD X.n) o=some (.shr,T,.int k a,.int k' b):=by kernel_rfl):J X o:=by
 refine QG hv (fun s p e _ hf=>?_) hj
 obtain⟨x,y,T',aB,hx,hy⟩:=tQ hf
 rcases p with ⟨dst,op,ty,pos,dc,g⟩
 dsimp only at aB;subst aB
 exact fun s0 ops i sA rest hw s' hs todo Q hk=>ayR X.hC sA hw (bn hx) (bn hy) hb hk
theorem jsh{k k':IntKind}{a b:Int}(T:TypeId)(hb:0≤b)(hj:J X (jW (.int k (dD k a b)) o))(hv:dG X.n (MD X.n) o=some (.shl,T,.int k a,.int k' b):=by kernel_rfl):J X o:=by
 refine QG hv (fun s p e _ hf=>?_) hj
 obtain⟨x,y,T',aB,hx,hy⟩:=tQ hf
 rcases p with ⟨dst,op,ty,pos,dc,g⟩
 dsimp only at aB;subst aB
 exact fun s0 ops i sA rest hw s' hs todo Q hk=>ayS X.hC sA hw (bn hx) (bn hy) hb hk
theorem jeq{m:List Value}{r:Bool}(hg:nT X.P T)(he:EqV X.P T (.agg ⟨l⟩) (.agg ⟨m⟩) r)(hj:J X (jW (.bool r) o))(hv:dG X.n (MD X.n) o=some (.eql,T,.agg ⟨l⟩,.agg ⟨m⟩):=by kernel_rfl):J X o:=by
 refine QG hv (fun s p e _ hf=>?_) hj
 obtain⟨x,y,T',aB,hx,hy⟩:=tQ hf
 rcases p with ⟨dst,op,ty,pos,dc,g⟩
 dsimp only at aB;subst aB
 exact fun s0 ops i sA rest hw s' hs todo Q hk=>ajE X.hC sA hw (bn hx) (bn hy) hg he hk
theorem jne{m:List Value}{r:Bool}(hg:nT X.P T)(he:EqV X.P T (.agg ⟨l⟩) (.agg ⟨m⟩) r)(hj:J X (jW (.bool !r) o))(hv:dG X.n (MD X.n) o=some (.neq,T,.agg ⟨l⟩,.agg ⟨m⟩):=by kernel_rfl):J X o:=by
 refine QG hv (fun s p e _ hf=>?_) hj
 obtain⟨x,y,T',aB,hx,hy⟩:=tQ hf
 rcases p with ⟨dst,op,ty,pos,dc,g⟩
 dsimp only at aB;subst aB
 exact fun s0 ops i sA rest hw s' hs todo Q hk=>ack X.hC sA hw (bn hx) (bn hy) hg he hk
def FJ(P:Program)(T:TypeId):Bool:=match ba P T with
 |some ⟨.slice _,_,_,_⟩=>true
 |_=>false
theorem FI(h:FJ P T=true):∃E sz bE z ag,TF P T (.slice E) sz bE z ag:=by
 unfold FJ at h
 split at h<;>try (cases h;done)
 rename_i dR
 obtain⟨bE,tf⟩:=au dR
 exact⟨_,_,_,_,_,tf⟩
theorem jsn{a:Option Addr}{l c:Nat}(T:TypeId)(hj:J X (jW (.bool a.isNone) o))(hv:dG X.n (MD X.n) o=some (.eql,T,.slice a l c,.slice none 0 0):=by kernel_rfl)(hT:FJ X.P T=true:=by kernel_rfl):J X o:=by
 refine QG hv (fun s p e _ hf=>?_) hj
 obtain⟨x,y,T',aB,hx,hy⟩:=tQ hf
 obtain⟨E,sz,bE,z,ag,tf⟩:=FI hT
 rcases p with ⟨dst,op,ty,pos,dc,g⟩
 dsimp only at aB;subst aB
 exact fun s0 ops i sA rest hw s' hs todo Q hk=>ajz X.hC sA hw tf (bn hx) (bn hy) hk
def Dc(n:Nat)(e:Env):Option Operand→Option (Option Int)
 |none=>some none
 |some x=>match bu n e x with
  |some (.int _ a)=>some (some a)
  |_=>none
def abb(P:Program)(n:Nat)(p:Oper)(e:Env):Option (ByteArray×Option Int×Option Int):=match p.op with
 | .slice T x y z none=>match ba P T with
  |some ⟨.string,_,_,_⟩=>match bu n e x with
   |some (.string b)=>match Dc n e y with
    |some lo=>match Dc n e z with
     |some hi=>some (b,lo,hi)
     |none=>none
    |none=>none
   |_=>none
  |_=>none
 |_=>none
def ai3(P:Program)(n:Nat)(p:Oper)(e:Env):Option (Value×Option Int×Option Int×Nat):=match p.op with
 | .slice T x y z none=>match ba P T with
  |some ⟨.slice E,_,_,_⟩=>match ba P E with
   |some te=>match bu n e x with
    |some v=>match Dc n e y with
     |some lo=>match Dc n e z with
      |some hi=>some (v,lo,hi,te.size)
      |none=>none
     |none=>none
    |none=>none
   |none=>none
  |_=>none
 |_=>none
theorem nu{x:Option Operand}{a:Int}(h:Dc n e x=some (some a)):∃y k,x=some y∧bu n e y=some (.int k a):=by
 unfold Dc at h
 split at h
 ·cases h
 ·split at h<;>try (cases h;done)
  rename_i hx
  cases h
  exact⟨_,_,rfl,hx⟩
theorem Br{x:Option Operand}(h:Dc n e x=some none):x=none:=by
 unfold Dc at h
 split at h
 ·rfl
 ·split at h<;>cases h
theorem Ka{hi:Option Int}(h:abb P n p e=some (b,lo,hi)):∃T x y z sz bE zz ag,p.op= .slice T x y z none∧TF P T .string sz bE zz ag∧bu n e x=some (.string b)∧Dc n e y=some lo∧Dc n e z=some hi:=by
 unfold abb at h
 split at h<;>try (cases h;done)
 rename_i aB
 split at h<;>try (cases h;done)
 rename_i dR
 obtain⟨bE,tf⟩:=au dR
 split at h<;>try (cases h;done)
 rename_i hx
 split at h<;>try (cases h;done)
 rename_i hy
 split at h<;>try (cases h;done)
 rename_i hz
 cases h
 exact⟨_,_,_,_,_,_,_,_,aB,tf,hx,hy,hz⟩
theorem UP{v:Value}{hi:Option Int}(h:ai3 P n p e=some (v,lo,hi,k)):∃T x y z E sz bE zz ag d AE z2 ag2,p.op= .slice T x y z none∧TF P T (.slice E) sz bE zz ag∧TF P E d k AE z2 ag2∧bu n e x=some v∧Dc n e y=some lo∧Dc n e z=some hi:=by
 unfold ai3 at h
 split at h<;>try (cases h;done)
 rename_i aB
 split at h<;>try (cases h;done)
 rename_i dR
 obtain⟨bE,tf⟩:=au dR
 split at h<;>try (cases h;done)
 rename_i te tH
 obtain⟨AE,qt⟩:=au tH
 split at h<;>try (cases h;done)
 rename_i hx
 split at h<;>try (cases h;done)
 rename_i hy
 split at h<;>try (cases h;done)
 rename_i hz
 cases h
 exact⟨_,_,_,_,_,_,_,_,_,_,_,_,_,aB,tf,qt,hx,hy,hz⟩
theorem jtB{lo:Int}(hl:0≤lo∧lo≤hi∧hi≤b.size)(hj:J X (jW (.string (b.extract lo.toNat hi.toNat)) o))(hv:dG X.n (abb X.P X.n) o=some (b,some lo,some hi):=by kernel_rfl):J X o:=by
 refine QG hv (fun s p e _ hf=>?_) hj
 obtain⟨T,x,y,z,sz,bE,zz,ag,aB,tf,hx,hy,hz⟩:=Ka hf
 obtain⟨y,k,rfl,FK⟩:=nu hy
 obtain⟨z,k',rfl,hz1⟩:=nu hz
 rcases p with ⟨dst,op,ty,pos,dc,g⟩
 dsimp only at aB;subst aB
 exact fun s0 ops i sA rest hw s' hs todo Q hk=>Sb X.hC sA hw tf (bn hx) (bn FK) (bn hz1) hl hk
theorem jtH(hl:0≤hi∧hi≤b.size)(hj:J X (jW (.string (b.extract 0 hi.toNat)) o))(hv:dG X.n (abb X.P X.n) o=some (b,none,some hi):=by kernel_rfl):J X o:=by
 refine QG hv (fun s p e _ hf=>?_) hj
 obtain⟨T,x,y,z,sz,bE,zz,ag,aB,tf,hx,hy,hz⟩:=Ka hf
 have hy:=Br hy;subst hy
 obtain⟨z,k',rfl,hz1⟩:=nu hz
 rcases p with ⟨dst,op,ty,pos,dc,g⟩
 dsimp only at aB;subst aB
 exact fun s0 ops i sA rest hw s' hs todo Q hk=>OA X.hC sA hw tf (bn hx) (bn hz1) hl hk
theorem jtL{lo:Int}(hl:0≤lo∧lo≤b.size)(hj:J X (jW (.string (b.extract lo.toNat b.size)) o))(hv:dG X.n (abb X.P X.n) o=some (b,some lo,none):=by kernel_rfl):J X o:=by
 refine QG hv (fun s p e _ hf=>?_) hj
 obtain⟨T,x,y,z,sz,bE,zz,ag,aB,tf,hx,hy,hz⟩:=Ka hf
 have hz:=Br hz;subst hz
 obtain⟨y,k,rfl,FK⟩:=nu hy
 rcases p with ⟨dst,op,ty,pos,dc,g⟩
 dsimp only at aB;subst aB
 exact fun s0 ops i sA rest hw s' hs todo Q hk=>Oz X.hC sA hw tf (bn hx) (bn FK) hl hk
theorem jcH{v:Value}{enc:α→List Value}{ps:List α}(hs:bL X.ro v sz enc ps)(hl:0≤hi∧hi≤ps.length)(hj:∀v',bL X.ro v' sz enc (ps.take hi.toNat)→J X (jW v' o))(hv:dG X.n (ai3 X.P X.n) o=some (v,none,some hi,sz):=by kernel_rfl):J X o:=by
 obtain⟨a,b,off,cap,rfl,h2,h3,h4⟩:=id hs
 have hp:=bL.part hs (l:=0) (h:=hi.toNat) (by omega) (by omega)
 rw[List.drop_zero] at hp
 refine QG hv (fun s p e _ hf=>?_) (hj _ hp)
 obtain⟨T,x,y,z,E,s1,bE,zz,ag,d,AE,z2,ag2,aB,tf,qt,hx,hy,hz⟩:=UP hf
 have hy:=Br hy;subst hy
 obtain⟨z,k',rfl,hz1⟩:=nu hz
 rcases p with ⟨dst,op,ty,pos,dc,g⟩
 dsimp only at aB;subst aB
 intro s0 ops i sA rest hw s' mT todo Q hk
 refine bR X.hC sA hw (by simp) ?_
 have hb:0≤hi∧hi≤(cap:Int):=by omega
 have gp:(0:Int)≤0∧(0:Int)≤(hi.toNat:Int):=by omega
 rw[←a8] at hk
 simp only[execOp,Option.map_some,Option.map_none,Instr.sliceAt,Instr.slice,aG (bn (rest:=rest) hx),aG (bn (rest:=rest) hz1),aa,bh tf,Instr.sliceBounds,Instr.sliceBound,asIntOf,af,hb,gp,and_self,if_true,cm qt]
 exact hk
theorem jcB{v:Value}{enc:α→List Value}{ps:List α}{lo:Int}(hs:bL X.ro v sz enc ps)(hl:0≤lo∧lo≤hi∧hi≤ps.length)(hj:∀v',bL X.ro v' sz enc ((ps.take hi.toNat).drop lo.toNat)→J X (jW v' o))(hv:dG X.n (ai3 X.P X.n) o=some (v,some lo,some hi,sz):=by kernel_rfl):J X o:=by
 obtain⟨a,b,off,cap,rfl,h2,h3,h4⟩:=id hs
 have hp:=bL.part hs (l:=lo.toNat) (h:=hi.toNat) (by omega) (by omega)
 refine QG hv (fun s p e _ hf=>?_) (hj _ hp)
 obtain⟨T,x,y,z,E,s1,bE,zz,ag,d,AE,z2,ag2,aB,tf,qt,hx,hy,hz⟩:=UP hf
 obtain⟨y,k,rfl,FK⟩:=nu hy
 obtain⟨z,k',rfl,hz1⟩:=nu hz
 rcases p with ⟨dst,op,ty,pos,dc,g⟩
 dsimp only at aB;subst aB
 intro s0 ops i sA rest hw s' mT todo Q hk
 refine bR X.hC sA hw (by simp) ?_
 have hb:0≤hi∧hi≤(cap:Int):=by omega
 have gp:0≤lo∧lo≤(hi.toNat:Int):=by omega
 rw[←a8] at hk
 simp only[execOp,Option.map_some,Option.map_none,Instr.sliceAt,Instr.slice,aG (bn (rest:=rest) hx),aG (bn (rest:=rest) FK),aG (bn (rest:=rest) hz1),aa,bh tf,Instr.sliceBounds,Instr.sliceBound,asIntOf,af,hb,gp,and_self,if_true,cm qt]
 exact hk
def lnV(P:Program)(n:Nat)(p:Oper)(e:Env):Option Value:=match p.op with
 | .call ⟨.builtin .len,⟨[x]⟩,⟨[T]⟩⟩=>bif FJ P T then bu n e x else none
 |_=>none
theorem D7{v:Value}{enc:α→List Value}{ps:List α}{L:Cells}(ky:aD v sz T2 enc ps L)(hj:J X (jW (.int .i64 ps.length) o))(hv:dG X.n (lnV X.P X.n) o=some v:=by kernel_rfl):J X o:=by
 refine QG hv (fun s p e _ hf=>?_) hj
 unfold lnV at hf
 split at hf<;>try (cases hf;done)
 rename_i x T aB
 cases hT:FJ X.P T with
 |false=>rw[hT] at hf;cases hf
 |true=>
  rw[hT] at hf;simp only[cond_true] at hf
  obtain⟨E,s1,bE,z,ag,tf⟩:=FI hT
  rcases p with ⟨dst,op,ty,pos,dc,g⟩
  dsimp only at aB;subst aB
  exact fun s0 ops i sA rest hw s' hs todo Q hk=>acm X.hC sA hw tf (bn hf) ky hk
def X5(ps:List Nat)(v:Value)(L':Cells):Option JS→Option JS:=mU ps v L'
theorem Vg{ops:Array Oper}{k:List KI}{w:List Sg}{v:Value}{L':Cells}(ho:ops[i]?=some p):X5 ps v L' (some ⟨.ops ops (i::todo) k,e,w,kn⟩)=some ⟨.ops ops todo k,upd p.dst v e,.l L'::dE ps 0 w,kn⟩:=by
 unfold X5
 simp only[nS ho]
def ai0(P:Program)(n:Nat)(p:Oper)(e:Env):Option (Addr×List Value×Nat):=match p.op with
 | .store T x y=>match ba P T with
  |some ti=>match bu n e x with
   |some (.pointer (some a))=>match bu n e y with
    |some v=>some (a,dZ v,ti.size)
    |none=>none
   |_=>none
  |none=>none
 |_=>none
theorem UN{a:Addr}(h:ai0 P n p e=some (a,l,sz)):∃T x y d bE z ag v,p.op= .store T x y∧TF P T d sz bE z ag∧bu n e x=some (.pointer (some a))∧bu n e y=some v∧v.cells=⟨l⟩:=by
 unfold ai0 at h
 split at h<;>try (cases h;done)
 rename_i aB
 split at h<;>try (cases h;done)
 rename_i ti dR
 obtain⟨bE,tf⟩:=au dR
 split at h<;>try (cases h;done)
 rename_i hx
 split at h<;>try (cases h;done)
 rename_i hy
 cases h
 exact⟨_,_,_,_,_,_,_,_,aB,tf,hx,hy,by rw[ma]⟩
theorem QF{v:Value}{enc:α→List Value}{ps:List α}{L:Cells}{b:Nat}{a:α}(i f:Nat)(c:List Value)(e:α)(ky:aD v sz E enc ps L)(hb:MQ v b)(hk:ps[k]?=some a) (he:enc e=dB (enc a) f c) (h1:c.all single=true) (hf:f+c.length≤sz) (hj:∀L',aD v sz E enc (ps.set k e) L'→J X (X5 [i] undef L' o)) (hv:e9 X.n (ai0 X.P X.n) o=some (⟨b,k*sz+f,none⟩,c,c.length):=by kernel_rfl) (h2:dY [i] o=some L:=by kernel_rfl):J X o:=by
 obtain⟨ops,i0,todo,kk,ev,w,kn,p,rfl,ho,hw,hc⟩:=dz hv
 obtain⟨T,x,y,d,bE,z,ag,u,aB,tf,hx,hy,hu⟩:=UN hc
 intro bW
 rcases p with ⟨dst,op,ty,pos,dc,g⟩
 dsimp only at aB;subst aB
 refine u3 X.hC (bH h2) ?_
 refine ayO X.hC ho hw tf hx hy hu rfl (List.all_eq_true.1 h1) ky hb hk he hf fun L' hL'=>?_
 have:=hj L' hL'
 rw[Vg ho] at this
 have:=this bW
 simp only[JP,gv] at this
 exact this
def apV(P:Program)(n:Nat)(p:Oper)(e:Env):Option (Value×Value×TypeId×Nat):=match p.op with
 | .call ⟨.builtin .append,⟨[x,y]⟩,⟨[T,U]⟩⟩=>match ba P T with
  |some ⟨.slice E,_,_,_⟩=>bif FJ P U then (match ba P E with
   |some te=>match P.info? E with
    |some ie=>bif Nat.beq te.zero.length te.size&&Nat.ble ie.bytes 65536 then (match bu n e x with
     |some v=>match bu n e y with
      |some w=>some (v,w,E,te.size)
      |none=>none
     |none=>none) else none
    |none=>none
   |none=>none) else none
  |_=>none
 |_=>none
theorem auX{v w:Value}(h:apV P n p e=some (v,w,E,sz)):∃x y T U s1 b1 z1 a1 E2 s2 b2 z2 a2 d bE z ag,p.op= .call ⟨.builtin .append,#[x,y],#[T,U]⟩∧TF P T (.slice E) s1 b1 z1 a1∧TF P U (.slice E2) s2 b2 z2 a2∧TF P E d sz bE z ag∧z.length=sz∧bE≤65536∧bu n e x=some v∧bu n e y=some w:=by
 unfold apV at h
 split at h<;>try (cases h;done)
 rename_i x y T U aB
 split at h<;>try (cases h;done)
 rename_i E' _ _ _ dR
 obtain⟨b1,tf1⟩:=au dR
 cases hU:FJ P U with
 |false=>rw[hU] at h;cases h
 |true=>
  rw[hU] at h;simp only[cond_true] at h
  obtain⟨E2,s2,b2,z2,a2,qt⟩:=FI hU
  split at h<;>try (cases h;done)
  rename_i te tH
  obtain⟨b3,tf3⟩:=au tH
  split at h<;>try (cases h;done)
  rename_i ie hie
  cases hb:(Nat.beq te.zero.length te.size&&Nat.ble ie.bytes 65536) with
  |false=>rw[hb] at h;cases h
  |true=>
   rw[hb] at h;simp only[cond_true] at h
   split at h<;>try (cases h;done)
   rename_i hx
   split at h<;>try (cases h;done)
   rename_i hy
   simp only[Option.some.injEq,Prod.mk.injEq] at h
   obtain⟨rfl,rfl,rfl,rfl⟩:=h
   simp only[Bool.and_eq_true,Nat.ble_eq] at hb
   obtain⟨i2,g1,_,g3,_⟩:=tf3.info
   rw[hie] at g1;cases g1
   exact⟨x,y,T,U,_,b1,_,_,E2,s2,b2,z2,a2,_,b3,_,_,aB,tf1,qt,tf3,Nat.eq_of_beq_eq_true hb.1,by omega,hx,hy⟩
theorem jk{v w:Value}{enc:α→List Value}{ps qs:List α}{L:Cells}(is lp:List Nat)(B:Cells)(ky:aD v sz E enc ps L)(Jr:∀s:St,Ext ⟨X.ro,[]⟩ s→(∀x∈B,s.has x.1 x.2)→Sl s w sz enc qs)(hq:∀p∈qs,∀c∈enc p,single c=true)(hb:ps.length+qs.length≤1048576)(hj:∀v' L',aD v' sz E enc (ps++qs) L'→J X (X5 is v' L' o))
 (hv:e9 X.n (apV X.P X.n) o=some (v,w,E,sz):=by kernel_rfl)(h2:dY is o=some L:=by kernel_rfl)(h3:dY lp o=some B:=by kernel_rfl):J X o:=by
 obtain⟨ops,i0,todo,kk,ev,w0,kn,p,rfl,ho,hw,hc⟩:=dz hv
 obtain⟨x,y,T,U,s1,b1,z1,a1,E2,s2,b2,z2,a2,d,bE,z,ag,aB,tf1,qt,tf3,hz,hby,hx,hy⟩:=auX hc
 intro bW
 rcases p with ⟨dst,op,ty,pos,dc,g⟩
 dsimp only at aB;subst aB
 have hp:=bH h2
 refine u3 X.hC hp ?_
 refine oap X.hC ho hw tf1 qt tf3 hz hx hy ky (Jr _ Mi fun u hu=>?_) hq ⟨hb,hby⟩ fun v' L' hL'=>?_
 ·rcases P7 (X:=X) h3 u hu with h|h
  ·exact .inl h
  ·exact .inr (hp.mem_iff.1 h)
 ·have:=hj v' L' hL'
  rw[Vg ho] at this
  have:=this bW
  simp only[JP,gv] at this
  exact this
theorem aNH{w:Value}(enc:α→List Value){qs:List α}(lp:List Nat)(B:Cells)(Jr:∀s:St,Ext ⟨X.ro,[]⟩ s→(∀x∈B,s.has x.1 x.2)→Sl s w sz enc qs)(hq:∀p∈qs,∀c∈enc p,single c=true)(hb:qs.length≤1048576)(hj:∀v' L',aD v' sz E enc qs L'→J X (X5 [] v' L' o))
 (hv:e9 X.n (apV X.P X.n) o=some (.slice none 0 0,w,E,sz):=by kernel_rfl)(h3:dY lp o=some B:=by kernel_rfl)(h2:dY [] o=some []:=by kernel_rfl):J X o:=
 jk (ps:=[]) [] lp B (aD.nil sz E enc) Jr hq (by simpa using hb) (fun v' L' h=>hj v' L' h) hv h2 h3
end
attribute [irreducible] X5
end Go.L
