/- Part 9 of the proof: a program logic, contracts, a theorem on goroutines. -/
import Derived.Test.YtjpghiajlddegaaGreatDoorL8
set_option maxRecDepth 100000
set_option linter.all false
namespace Go.L
open Go Go.Conc
variable {R:Ending→St→Prop} {Φ:Value→Cells→Prop} {P:Program} {El:(Nat→Option Obj)→Nat→List Value→Cells→Prop} {κ ι α:Type} {f:FuncId} {vs z l fi ca:List Value} {s s':St} {T:TypeId} {tm:Array Value} {todo tU:List Nat} {o1:Option JS} {sz bu off r i bl n p b dep N:Nat} {rest e:Env} {C:Class} {as bd:Code} {X:Cx} {ag main:Bool} {cs:List Frame} {fr:Cells}
section
variable {X:Cx} {o:Option JS}
def nxV(n:Nat)(p:Oper)(e:Env):Option Nat:=match p.op with
 | .next x true=>match ba n e x with
  |some (.pointer (some ⟨r,0,none⟩))=>some r
  |_=>none
 |_=>none
theorem abe{p:Oper}(h:nxV n p e=some r):∃x,p.op= .next x true∧ba n e x=some (.pointer (some ⟨r,0,none⟩)):=by
 unfold nxV at h
 split at h<;>try (cases h;done)
 rename_i ax
 split at h<;>try (cases h;done)
 rename_i hx
 cases h
 exact⟨_,ax,hx⟩
def QH(i:Nat)(v:Value)(b:Nat)(ob:Obj):Option JS→Option JS
 |some ⟨.ops ops (j::todo) k,e,w,kn⟩=>match ops[j]? with
  |some p=>some ⟨.ops ops todo k,upd p.dst v e,.b b ob::dj [i] 0 w,kn⟩
  |none=>none
 |_=>none
theorem jnA{b:ByteArray}{c:UInt8}(r i:Nat)(hp:b.data.toList[p]?=some c) (ha:c.toNat <128) (hj:J X (QH i (.tuple ⟨[.bool true,.int .i64 p,.int .i32 c.toNat]⟩) r (.stringIter b (p+1)) o))
 (hv:eR X.n (nxV X.n) o=some r:=by kernel_rfl) (hB:dN [i] o=some [(r,.stringIter b p)]:=by kernel_rfl):J X o:=by
 obtain⟨ops,i0,todo,kk,ev,w0,kn,q,rfl,ho,hw,hc⟩:=db hv
 obtain⟨x,ax,hx⟩:=abe hc
 intro bP
 rcases q with ⟨dst,op,ty,pos,cS,g⟩
 dsimp only at ax;subst ax
 refine u4 X.hC (bB hB) (aiy X.hC ho hw hx hp ha ?_)
 simp only[QH,ho] at hj
 have:=hj bP
 simp only[JP,ib] at this
 exact this
theorem jnZ{b:ByteArray}(r i:Nat)(hp:b.data.toList[p]?=none) (hj:J X (QH i (.tuple ⟨[.bool false]⟩) r (.stringIter b p) o))
 (hv:eR X.n (nxV X.n) o=some r:=by kernel_rfl) (hB:dN [i] o=some [(r,.stringIter b p)]:=by kernel_rfl):J X o:=by
 obtain⟨ops,i0,todo,kk,ev,w0,kn,q,rfl,ho,hw,hc⟩:=db hv
 obtain⟨x,ax,hx⟩:=abe hc
 intro bP
 rcases q with ⟨dst,op,ty,pos,cS,g⟩
 dsimp only at ax;subst ax
 refine u4 X.hC (bB hB) (aix X.hC ho hw hx hp ?_)
 simp only[QH,ho] at hj
 have:=hj bP
 simp only[JP,ib] at this
 exact this
theorem jcG{own:Cells}{Φ:Value→(Nat→Option Obj)→Cells→Prop}(ps:List Nat)(hf:FnG X.P f vs X.ro own Φ)(hj:∀v aK Y,Sub X.ro aK→Φ v aK Y→J (X.at aK) (mH ps v Y o))(h1:eR X.n (xK X.P X.n) o=some (f,vs):=by kernel_rfl)(h2:dN ps o=some own:=by kernel_rfl):J X o:=by
 obtain⟨ops,i,todo,k,e,w,kn,p,rfl,ho,hw,hc⟩:=db h1
 obtain⟨ff,x,xs,at_,fi,ca,ws,ax,hx,rq,rfl⟩:=qg hc
 intro bP
 rcases p with ⟨dst,op,ty,pos,cS,g⟩
 dsimp only at ax;subst ax
 have hp:=bB h2
 refine tE (fi:=⟨fi⟩) (ca:=⟨ca⟩) (ws:=fi++ws++ca) X.hC ho hw hx ff rq (PB fi ws ca) (Fn.weaken X.hC (FnG.use (s:=⟨X.ro,den w⟩) hp hf)) (fun v' s' hr=>?_) (fun ch s' hr=>by obtain⟨_,_,_,e,_⟩:=hr;cases e) (fun s' hr=>by obtain⟨_,_,_,e,_⟩:=hr;cases e)
 obtain⟨v,aK,Y,hv,hs,pR,hle⟩:=hr
 cases hv
 have:=hj _ aK Y hs pR
 rw[nG ho] at this
 have:=this (bP.up hs)
 simp only[JP,fY,GZ] at this
 exact this.more X.hC hle
def afa(n:Nat)(p:Oper)(e:Env):Option (FuncId×List Value):=match p.op with
 | .call ⟨.value (.func f),xs,_⟩=>match xq n e xs.toList with
  |some vs=>some (f,vs)
  |none=>none
 |_=>none
theorem La{p:Oper}(h:afa n p e=some (f,vs)):∃xs at_,p.op= .call ⟨.value (.func f),xs,at_⟩∧xq n e xs.toList=some vs:=by
 unfold afa at h
 split at h<;>try (cases h;done)
 rename_i ax
 split at h<;>try (cases h;done)
 rename_i hx
 cases h
 exact⟨_,_,ax,hx⟩
theorem jib{a:ByteArray}{b:Int}(ef:EF X.P f Extern.BytealgIndexByte.indexByte)(hj:J X (jN (.int .i64 (N4 a b.toNat.toUInt8)) o))(hv:du X.n (afa X.n) o=some (f,[.string a,.int .u8 b]):=by kernel_rfl):J X o:=by
 refine jGS hv (fun s p e _ hf=>?_) hj
 obtain⟨xs,at_,ax,hx⟩:=La hf
 rcases p with ⟨dst,op,ty,pos,cS,g⟩
 dsimp only at ax;subst ax
 exact⟨fun ops i su rest hw s' hs todo Q hk=>aa9 X.hC su hw ef (wK hx) hk,fun hk=>by cases hk⟩
theorem aMu{v:Value}(ef:EF X.P f Extern.AbiNoEscape.same)(hj:J X (jN v o))(hv:du X.n (afa X.n) o=some (f,[v]):=by kernel_rfl):J X o:=by
 refine jGS hv (fun s p e _ hf=>?_) hj
 obtain⟨xs,at_,ax,hx⟩:=La hf
 rcases p with ⟨dst,op,ty,pos,cS,g⟩
 dsimp only at ax;subst ax
 exact⟨fun ops i su rest hw s' hs todo Q hk=>aiw X.hC su hw ef (wK hx) hk,fun hk=>by cases hk⟩
def mmV(n:Nat)(p:Oper)(e:Env):Option (Bool×Value×Value):=match p.op with
 | .call ⟨.builtin .min,⟨[x,y]⟩,⟨[_,_]⟩⟩=>match ba n e x with
  |some v=>match ba n e y with
   |some w=>some (true,v,w)
   |none=>none
  |none=>none
 | .call ⟨.builtin .max,⟨[x,y]⟩,⟨[_,_]⟩⟩=>match ba n e x with
  |some v=>match ba n e y with
   |some w=>some (false,v,w)
   |none=>none
  |none=>none
 |_=>none
theorem jmn{k:IntKind}{a b:Int}(hj:J X (jN (.int k (min a b)) o))(hv:du X.n (mmV X.n) o=some (true,.int k a,.int k b):=by kernel_rfl):J X o:=by
 refine PU hv (fun s p e _ hf=>?_) hj
 unfold mmV at hf
 split at hf<;>try (cases hf;done)
 ·rename_i ax
  split at hf<;>try (cases hf;done)
  rename_i hx
  split at hf<;>try (cases hf;done)
  rename_i hy
  cases hf
  rcases p with ⟨dst,op,ty,pos,cS,g⟩
  dsimp only at ax;subst ax
  exact fun s0 ops i su rest hw s' hs todo Q hk=>ao8 X.hC su hw (aY hx) (aY hy) hk
 ·split at hf<;>try (cases hf;done)
  split at hf<;>cases hf
theorem jmx{k:IntKind}{a b:Int}(hj:J X (jN (.int k (max a b)) o))(hv:du X.n (mmV X.n) o=some (false,.int k a,.int k b):=by kernel_rfl):J X o:=by
 refine PU hv (fun s p e _ hf=>?_) hj
 unfold mmV at hf
 split at hf<;>try (cases hf;done)
 ·split at hf<;>try (cases hf;done)
  split at hf<;>cases hf
 ·rename_i ax
  split at hf<;>try (cases hf;done)
  rename_i hx
  split at hf<;>try (cases hf;done)
  rename_i hy
  cases hf
  rcases p with ⟨dst,op,ty,pos,cS,g⟩
  dsimp only at ax;subst ax
  exact fun s0 ops i su rest hw s' hs todo Q hk=>ao9 X.hC su hw (aY hx) (aY hy) hk
theorem jsx(i b off:Nat)(c l:List Value)(t:TypeId)(h1:∀v∈l,single v=true)(hb:Nat.ble (off+l.length) c.length=true)(hj:J X (QH i undef b (.cells ⟨de c off l⟩ t (0,0)) o))(hv:eR X.n (ahU X.P X.n) o=some (⟨b,off,none⟩,l,l.length):=by kernel_rfl)(h2:dN [i] o=some [(b,.cells ⟨c⟩ t (0,0))]:=by kernel_rfl):J X o:=by
 obtain⟨ops,i0,todo,kk,ev,w,kn,p,rfl,ho,hw,hc⟩:=db hv
 obtain⟨T,x,y,d,bu,z,ag,u,ax,tf,hx,hy,hu⟩:=TX hc
 intro bP
 rcases p with ⟨dst,op,ty,pos,cS,g⟩
 dsimp only at ax;subst ax
 refine u4 X.hC (bB h2) ?_
 refine ost X.hC ho hw tf hx hy hu rfl h1 (Nat.le_of_ble_eq_true hb) ?_
 simp only[QH,ho] at hj
 have:=hj bP
 simp only[JP,ib] at this
 exact this
def aiV(P:Program)(n:Nat)(p:Oper)(e:Env):Option (List Value×Int×Nat×Nat×Bool):=match p.op with
 | .index T x y=>match aV P T with
  |some ⟨.array len E,_,_,_⟩=>match aV P E with
   |some te=>match ba n e x with
    |some (.agg ⟨l⟩)=>match ba n e y with
     |some (.int _ ix)=>some (l,ix,len,te.size,te.agg)
     |_=>none
    |_=>none
   |none=>none
  |_=>none
 |_=>none
theorem jai{v:Value}(ix:Int)(len sz:Nat)(ag:Bool)(hi:0≤ix∧ix <len)(hp:Nr ag l (ix.toNat*sz) sz=some v)(hj:J X (jN v o))(hv:du X.n (aiV X.P X.n) o=some (l,ix,len,sz,ag):=by kernel_rfl):J X o:=by
 refine PU hv (fun s p e _ hf=>?_) hj
 unfold aiV at hf
 split at hf<;>try (cases hf;done)
 rename_i ax
 split at hf<;>try (cases hf;done)
 rename_i dI
 split at hf<;>try (cases hf;done)
 rename_i te tJ
 split at hf<;>try (cases hf;done)
 rename_i hx
 split at hf<;>try (cases hf;done)
 rename_i hy
 cases hf
 obtain⟨b1,tf⟩:=ar dI
 obtain⟨b2,qo⟩:=ar tJ
 rcases p with ⟨dst,op,ty,pos,cS,g⟩
 dsimp only at ax;subst ax
 exact fun s0 ops i su rest hw s' hs todo Q hk=>aba X.hC su hw tf qo (aY hx) (aY hy) hi hp hk
def Am(m:Nat)(e:Env):Option JS→Option JS
 |some ⟨.ops ops todo k,_,w,kn⟩=>some ⟨.ops ops (todo.drop m) k,e,w,kn⟩
 |_=>none
theorem jj(m:Nat)(e:Env)(hj:∀rest,J X (Am m (e++rest) o))(h:(∀o',Am 0 [] o'=Am m [] o→ug (oI e) o'=some e→J X o')→J X o)(hd:YO (oI e) e=some e:=by kernel_rfl):J X o:=by
 refine h fun o' h1 h2=>?_
 cases o' with
 |none=>simp[ug] at h2
 |some s'=>
  rcases s' with ⟨p',e',w',kn'⟩
  cases o with
  |none=>exact(hj []).elim
  |some s=>
   rcases s with ⟨p,e0,w,kn⟩
   cases p' with
   |ops baf ZK k'=>
    cases p with
    |ops ops todo k=>
     simp only[Am,Option.some.injEq,JS.mk.injEq,Pos.ops.injEq,List.drop_zero,true_and] at h1
     obtain⟨⟨rfl,rfl,rfl⟩,rfl,rfl⟩:=h1
     rw[sj] at h2
     obtain⟨r,hr⟩:=fP (n:=X.n) (D:=X.D) (j6 h2) (j6 hd)
     intro bP
     have:=hj r bP
     show ab _ _ _ _ _ _ (A X.n e' X.D) _
     rw[hr]
     exact this
    |_=>simp[Am] at h1
   |_=>cases p<;>simp[Am] at h1<;>exact(hj []).elim
end
attribute [irreducible] Am QH
section
variable {X:Cx} {o:Option JS}
def apr(i:Nat)(rest:Env)(todo:List Nat):Option JS→Option JS
 |some ⟨.Gr ops base Pl _ k,_,w,kn⟩=>some ⟨.ops ops (i::todo) k,bY ops base i Pl++rest,w,kn⟩
 |_=>none
def LK(X:Cx)(i:Nat)(o:Option JS)(rest:Env)(todo:List Nat):Prop:=match o with
 |some ⟨.Gr ops base Pl Sl k,_,w,kn⟩=>∀v s',(∀j u,(j,u)∈pending ops i Sl→rZ ops X.n base Pl j=false→(∀B,(j,B)∈kn.nd→Ext ⟨X.ro,[]⟩ s'→(∀x∈B,s'.has x.1 x.2)→eH X.C X.fn X.ay ops X.n X.D j u (bY ops base j Pl) s')→eH X.C X.fn X.ay ops X.n X.D j u (bY ops base j Pl) ⟨X.ro,den w⟩→eH X.C X.fn X.ay ops X.n X.D j u (bY ops base j Pl) s')→
  (PF X kn.nd ops base ((i,v)::Pl) (pending ops i Sl)→sP X.C X.fn X.ay ops X.n X.D base ((i,v)::Pl) (pending ops i Sl) (KQ X k) s')→ab X.C X.fn X.ay ops todo (KQ X k) (A X.n (upd (aO ops i) v (bY ops base i Pl++rest)) X.D) s'
 |_=>True
def UK(is:List Nat):Option JS→Bool
 |some ⟨.Gr ops _ Pl Sl _,_,_,_⟩=>fx ops&&((is.all fun i=>Nat.blt i ops.size&& !aX i (ai Pl))&&(nodupB (ai Pl)&&(oy ops (ai Pl)&&(fy (ai Sl) (ai Pl)&&(aa3 ops (ai Pl) is&& !is.isEmpty)))))
 |_=>false
def agi(X:Cx)(o:Option JS):List Nat→Prop
 | []=>True
 |i::is=>(∀rest todo,LK X i o rest todo→J X (apr i rest todo o))∧agi X o is
theorem m8(is:List Nat)(h:agi X o is)(hb:UK is o=true:=by kernel_rfl):J X o:=by
 unfold UK at hb
 split at hb<;>try (cases hb;done)
 rename_i ops base Pl Sl k e w kn
 simp only[Bool.and_eq_true,Bool.not_eq_true'] at hb
 obtain⟨h1,h2,h3,h4,h5,h6,h7⟩:=hb
 intro bP hpf
 refine Yw is h1 h2 h3 h4 h5 h6 ?_ h7
 clear h6 h7
 induction is with
 |nil=>trivial
 |cons i is ih=>
  simp only[List.all_cons,Bool.and_eq_true,Bool.not_eq_true'] at h2
  refine⟨fun rest todo hk=>h.1 rest todo (fun v s' hp ha=>?_) bP,ih h.2 h2.2⟩
  have iE:∀x,x∈pending ops i Sl→x∈Sl:=fun x hx=>(List.mem_filter.1 hx).1
  refine hk v s' (fun j u G8 bL=>?_) (ha ⟨fun j u G8 XB s0=>?_,fun j u B G8 hB s0 FE uB=>?_⟩)
  ·cases XB:rZ ops X.n base Pl j with
   |true=>exact hpf.1 j u (iE _ G8) XB s'
   |false=>exact hp j u G8 XB (fun B hB hx hb=>hpf.2 j u B (iE _ G8) hB s' hx hb) bL
  ·have Mn:j∈ai Sl:=aM.2 ⟨u,iE _ G8⟩
   have qm:i∉bh ops j:=fun hd=>by
    have h8:=bE.1 h5 j Mn
    have h9:=bE.1 (List.all_eq_true.1 h4 j h8) i hd
    rw[aG.2 h9] at h2;exact absurd h2.1.2 (by simp)
   rw[cK qm]
   exact hpf.1 j u (iE _ G8) (by simp only[rZ,cK qm] at XB;exact XB) s0
  ·have Mn:j∈ai Sl:=aM.2 ⟨u,iE _ G8⟩
   have qm:i∉bh ops j:=fun hd=>by
    have h8:=bE.1 h5 j Mn
    have h9:=bE.1 (List.all_eq_true.1 h4 j h8) i hd
    rw[aG.2 h9] at h2;exact absurd h2.1.2 (by simp)
   rw[cK qm]
   exact hpf.2 j u B (iE _ G8) hB s0 FE uB
theorem aN(i:Nat)(h:∀rest todo,LK X i o rest todo→J X (apr i rest todo o))(hb:UK [i] o=true:=by kernel_rfl):J X o:=m8 [i] ⟨h,trivial⟩ hb
def Tc(i:Nat):Option JS→Option JS→Option JS
 |some ⟨.Gr ops base Pl Sl k,e,_,kn⟩,some ⟨.ops _ _ _,e',w',kn'⟩=>some ⟨.Gr ops base ((i,match aO ops i with
  |some d=>(gF e' d).getD undef
  |none=>undef)::Pl) (pending ops i Sl) k,e,w',⟨kn'.c,kn.nd⟩⟩
 |_,_=>none
def bkL(i:Nat)(rest:Env)(todo:List Nat):Option JS→Option JS→Option JS
 |some ⟨.Gr ops base Pl _ k,_,_,_⟩,some ⟨_,e',w',kn'⟩=>some ⟨.ops ops todo k,upd (aO ops i) (match aO ops i with
  |some d=>(gF e' d).getD undef
  |none=>undef) (bY ops base i Pl++rest),w',kn'⟩
 |_,_=>none
theorem S8{o:Option JS}(h:bkL i rest todo o o1=o1)(h1:o1≠none):∃ops base Pl Sl k e w kn v w' kn',o=some ⟨.Gr ops base Pl Sl k,e,w,kn⟩∧o1=some ⟨.ops ops todo k,upd (aO ops i) v (bY ops base i Pl++rest),w',kn'⟩:=by
 unfold bkL at h
 split at h
 ·simp only[Option.some.injEq,JS.mk.injEq] at h
  obtain⟨rfl,h,_⟩:=h
  exact⟨_,_,_,_,_,_,_,_,_,_,_,rfl,by rw[h]⟩
 ·exact(h1 h.symm).elim
def rwO:Option JS→List Sg
 |some s=>s.rw
 |none=>[]
theorem bC(hK:LK X i o rest todo)(is:List Nat)(hj:J X (Tc i o o1))(hc:bkL i rest todo o o1=o1:=by kernel_rfl)(h2:qE is o1=some (rwO o):=by kernel_rfl):J X o1:=by
 by_cases dP:o1=none
 ·subst dP
  cases o with
  |none=>exact hj
  |some s=>rcases s with ⟨p,e,w,kn⟩;cases p<;>exact hj
 obtain⟨jP,base,Pl,Sl,k,e,w,kn,v,w',kn',rfl,rfl⟩:=S8 hc dP
 intro bP
 have hp:=lf h2
 have hv:(match aO jP i with
  |some d=>(gF (upd (aO jP i) v (bY jP base i Pl++rest)) d).getD undef
  |none=>undef)=v∨aO jP i=none:=by
  cases hd:aO jP i with
  |none=>exact .inr rfl
  |some d=>left;simp[upd,gF]
 have hj:=hj bP
 simp only[Tc,JP] at hj
 have key:=hK (match aO jP i with
  |some d=>(gF (upd (aO jP i) v (bY jP base i Pl++rest)) d).getD undef
  |none=>undef) ⟨X.ro,den w'⟩ (fun j u _ _ _ hs=>hs.ext fun b ob hb=>?_) hj
 ·show ab _ _ _ _ _ _ _ _
  rcases hv with hv|hv
  ·rw[hv] at key;exact key
  ·rw[hv] at key ⊢;exact key
 ·rcases hb with hb|hb
  ·exact .inl hb
  ·exact .inr (hp.mem_iff.2 (List.mem_append_left _ hb))
def aaR(i:Nat):Option JS→Bool
 |some ⟨.Gr ops _ _ Sl _,_,_,_⟩=>(pending ops i Sl).isEmpty
 |_=>false
theorem eO(hK:LK X i o rest todo)(hj:J X (Tc i o o1))(hc:bkL i rest todo o o1=o1:=by kernel_rfl)(h2:aaR i o=true:=by kernel_rfl):J X o1:=by
 by_cases dP:o1=none
 ·subst dP
  cases o with
  |none=>exact hj
  |some s=>rcases s with ⟨p,e,w,kn⟩;cases p<;>exact hj
 obtain⟨jP,base,Pl,Sl,k,e,w,kn,v,w',kn',rfl,rfl⟩:=S8 hc dP
 intro bP
 have hv:(match aO jP i with
  |some d=>(gF (upd (aO jP i) v (bY jP base i Pl++rest)) d).getD undef
  |none=>undef)=v∨aO jP i=none:=by
  cases hd:aO jP i with
  |none=>exact .inr rfl
  |some d=>left;simp[upd,gF]
 have hj:=hj bP
 simp only[Tc,JP] at hj
 have hpe:pending jP i Sl=[]:=by simpa [aaR] using h2
 have key:=hK (match aO jP i with
  |some d=>(gF (upd (aO jP i) v (bY jP base i Pl++rest)) d).getD undef
  |none=>undef) ⟨X.ro,den w'⟩ (fun j u G8=>by rw[hpe] at G8;cases G8) hj
 show ab _ _ _ _ _ _ _ _
 rcases hv with hv|hv
 ·rw[hv] at key;exact key
 ·rw[hv] at key ⊢;exact key
def ndG:List (Nat×Cells)→Nat→Option Cells
 | [],_=>none
 | (i,B)::l,j=>bif Nat.beq i j then some B else ndG l j
theorem Uz{j:Nat}{B:Cells}:∀ {l:List (Nat×Cells)},ndG l j=some B→(j,B)∈l
 | (i,C)::l,h=>by
  simp only[ndG] at h
  cases hb:Nat.beq i j with
  |true=>
   rw[hb] at h;simp only[cond_true,Option.some.injEq] at h;subst h
   have:=Nat.eq_of_beq_eq_true hb;subst this
   exact List.mem_cons_self
  |false=>rw[hb] at h;simp only[cond_false] at h;exact List.mem_cons_of_mem _ (Uz h)
structure Rk where
 a:List Value
 b:List Value
 c:List (Option Cells)
 d:List (Option Cells)
def aDU(ps:List Nat)(w:List Sg):Option Cells:=bif E7 ps then (match No ps w with
 |some x=>some (den x)
 |none=>none) else none
def rkL(P:Program)(n:Nat)(ops:Array Oper)(base:Env)(Pl:List (Nat×Value))(nd:List (Nat×Cells))(w:List Sg)(kn:Cells):List (List Nat)→List (Nat×Value)→Option Rk
 |_,[]=>some ⟨[],[],[],[]⟩
 |hs,(j,u)::r=>bif rZ ops n base Pl j then rkL P n ops base Pl nd w kn hs r else (match hs with
  |h::hs=>match ndG nd j with
   |some B=>match rkL P n ops base Pl nd w kn hs r with
    |some ⟨a,b,c,d⟩=>some ⟨a,b,aDU h w::c,some B::d⟩
    |none=>none
   |none=>match ops[j]? with
    |some p=>match vx ops n (bY ops base j Pl) p.guard with
     |some true=>match p.op with
      | .load T x=>match ba n (bY ops base j Pl) x with
       |some (.pointer (some ⟨b,off,none⟩))=>match As w kn (h.headD 0) with
        |some (b',l)=>match ldv P T l off with
         |some v=>match rkL P n ops base Pl nd w kn hs r with
          |some ⟨a1,b1,c,d⟩=>some ⟨v:: .int .i64 b'::a1,u:: .int .i64 b::b1,c,d⟩
          |none=>none
         |none=>none
        |none=>none
       |_=>none
      |_=>none
     |_=>none
    |none=>none
  | []=>none)
theorem JK{ops:Array Oper}{base:Env}{Pl:List (Nat×Value)}{nd:List (Nat×Cells)}{w:List Sg}{kn:Cells}(bP:Knows X.ro kn):∀ {l:List (Nat×Value)} {hs:List (List Nat)} {k:Rk},rkL X.P X.n ops base Pl nd w kn hs l=some k→k.a=k.b→k.c=k.d→∀j u,(j,u)∈l→rZ ops X.n base Pl j=false→
 (∀B,(j,B)∈nd→Ext ⟨X.ro,[]⟩ ⟨X.ro,den w⟩→(∀x∈B,(⟨X.ro,den w⟩:St).has x.1 x.2)→eH X.C X.fn X.ay ops X.n X.D j u (bY ops base j Pl) ⟨X.ro,den w⟩)→eH X.C X.fn X.ay ops X.n X.D j u (bY ops base j Pl) ⟨X.ro,den w⟩
 | [],_,_,_,_,_,j,u,h,_,_=>by cases h
 | (j0,u0)::r,hs,k,h,Ea,hcd,j,u,hm,hpj,lI=>by
  simp only[rkL] at h
  cases XB:rZ ops X.n base Pl j0 with
  |true=>
   rw[XB] at h;simp only[cond_true] at h
   rcases List.mem_cons.1 hm with h1|h1
   ·cases h1;rw[XB] at hpj;cases hpj
   ·exact JK bP h Ea hcd j u h1 hpj lI
  |false=>
   rw[XB] at h;simp only[cond_false] at h
   split at h<;>try (cases h;done)
   rename_i h0 bV
   split at h
   ·rename_i B hB
    split at h<;>try (cases h;done)
    rename_i a b c d hr
    cases h
    simp only[List.cons.injEq] at hcd
    rcases List.mem_cons.1 hm with h1|h1
    ·cases h1
     refine lI B (Uz hB) K0 fun x hx=> .inr ?_
     have hw:=hcd.1
     unfold aDU at hw
     cases ho:E7 h0 with
     |false=>rw[ho] at hw;cases hw
     |true=>
      rw[ho] at hw;simp only[cond_true] at hw
      split at hw<;>try (cases hw;done)
      rename_i y hy
      simp only[Option.some.injEq] at hw;subst hw
      exact(wC hy ho).mem_iff.2 (List.mem_append_left _ hx)
    ·exact JK bP hr Ea hcd.2 j u h1 hpj lI
   ·split at h<;>try (cases h;done)
    rename_i p hp
    have Dl:aO ops j0=p.dst:=by simp only[aO,hp,Option.bind_some]
    split at h<;>try (cases h;done)
    rename_i hg
    split at h<;>try (cases h;done)
    rename_i T x ax
    split at h<;>try (cases h;done)
    rename_i b0 off hx
    split at h<;>try (cases h;done)
    rename_i b' l hc
    split at h<;>try (cases h;done)
    rename_i v hv
    split at h<;>try (cases h;done)
    rename_i a1 b1 c d hr
    cases h
    simp only[List.cons.injEq,Value.int.injEq,true_and] at Ea
    obtain⟨rfl,hb,Ea⟩:=Ea
    have hb:b'=b0:=by omega
    subst hb
    rcases List.mem_cons.1 hm with h1|h1
    ·cases h1
     obtain⟨t,fz,hh⟩:=yB (X:=X) bP hc
     intro s1 hx1 rest todo Q hk
     rw[Dl] at hk
     exact lg X.hC hp rest (ng hg rest) (by rw[ax];rfl) (abN ax hx hh hv) hx1 hk
    ·exact JK bP hr Ea hcd j u h1 hpj lI
def rkO(P:Program)(n i:Nat)(hs:List (List Nat)):Option JS→Option JS→Option Rk
 |some ⟨.Gr ops base Pl Sl _,_,_,kn⟩,some s1=>rkL P n ops base Pl kn.nd s1.rw s1.kn.c hs (pending ops i Sl)
 |_,_=>none
def rkA:Option Rk→Option (List Value×List (Option Cells))
 |some k=>some (k.a,k.c)
 |none=>some ([],[])
def rkB:Option Rk→Option (List Value×List (Option Cells))
 |some k=>some (k.b,k.d)
 |none=>none
theorem iS(hK:LK X i o rest todo)(hs:List (List Nat))(hj:J X (Tc i o o1))(hc:bkL i rest todo o o1=o1:=by kernel_rfl)(h2:rkA (rkO X.P X.n i hs o o1)=rkB (rkO X.P X.n i hs o o1):=by kernel_rfl):J X o1:=by
 by_cases dP:o1=none
 ·subst dP
  cases o with
  |none=>exact hj
  |some s=>rcases s with ⟨p,e,w,kn⟩;cases p<;>exact hj
 obtain⟨jP,base,Pl,Sl,k,e,w,kn,v,w',kn',rfl,rfl⟩:=S8 hc dP
 intro bP
 have hv:(match aO jP i with
  |some d=>(gF (upd (aO jP i) v (bY jP base i Pl++rest)) d).getD undef
  |none=>undef)=v∨aO jP i=none:=by
  cases hd:aO jP i with
  |none=>exact .inr rfl
  |some d=>left;simp[upd,gF]
 have hj:=hj bP
 simp only[Tc,JP] at hj
 have bL:∀j u,(j,u)∈pending jP i Sl→rZ jP X.n base Pl j=false→(∀B,(j,B)∈kn.nd→Ext ⟨X.ro,[]⟩ ⟨X.ro,den w'⟩→(∀x∈B,(⟨X.ro,den w'⟩:St).has x.1 x.2)→eH X.C X.fn X.ay jP X.n X.D j u (bY jP base j Pl) ⟨X.ro,den w'⟩)→eH X.C X.fn X.ay jP X.n X.D j u (bY jP base j Pl) ⟨X.ro,den w'⟩:=by
  simp only[rkO] at h2
  cases hr:rkL X.P X.n jP base Pl kn.nd w' kn'.c hs (pending jP i Sl) with
  |none=>rw[hr] at h2;cases h2
  |some x=>
   rw[hr] at h2
   simp only[rkA,rkB,Option.some.injEq,Prod.mk.injEq] at h2
   exact JK bP hr h2.1 h2.2
 have key:=hK (match aO jP i with
  |some d=>(gF (upd (aO jP i) v (bY jP base i Pl++rest)) d).getD undef
  |none=>undef) ⟨X.ro,den w'⟩ (fun j u G8 XB hn _=>bL j u G8 XB hn) hj
 show ab _ _ _ _ _ _ _ _
 rcases hv with hv|hv
 ·rw[hv] at key;exact key
 ·rw[hv] at key ⊢;exact key
end
attribute [irreducible] rkO rkA rkB apr UK Tc bkL rwO aaR
abbrev RY(ro:Nat→Option Obj)(Φ:Value→Cells→Prop):Ending→St→Prop:=fun en s'=>∃v X,en= .returned v∧(⟨ro,X⟩:St).le s'∧Φ v X
theorem Round.mono{l:Nat}{R':Ending→St→Prop}(h:Round C l f tm as bd s R)(hr:∀e s,R e s→R' e s):Round C l f tm as bd s R':=
 fun main T hT c cs k1 k2=>h main T hT c cs (fun v s' hv=>k1 v s' (hr _ _ hv)) (fun ch s' hv=>k2 ch s' (hr _ _ hv))
theorem Round.weaken{C':Class}(hc:∀main T,C' main T→C main T){l:Nat}(h:Round C l f tm as bd s R):Round C' l f tm as bd s R:=
 fun main T hT=>h main T (hc main T hT)
theorem Round.frame{l:Nat}{s1:St}{B:Cells}{ro:Nat→Option Obj}(hf:Round (CP P) l f tm as bd s1 R)(hB:∀x∈B,x∈fr)(hc:YI fr B ro s1 s):
 Round (CP P) l f tm as bd s (fun en s'=>∃xU,R en xU∧YI fr B ro xU s'):=
 fun main T hT c cs k1 k2=>hf main _ (Ab hT hB ro) c cs (fun v xU hv _ s' sA=>k1 v s' ⟨xU,hv,sA⟩) (fun ch xU hv _ s' sA=>k2 ch s' ⟨xU,hv,sA⟩) rfl s hc
def Zf(r:Loop)(vs:List Value):Array Value:=(r.params.zip ⟨vs⟩).foldl (fun tmps (x:Tmp×Value)=>tmps.setIfInBounds x.1 x.2) r.tmps
def YX(P:Program)(bl:Nat)(vs:List Value)(ro:Nat→Option Obj)(own:Cells)(Φ:Value→Cells→Prop):Prop:=
 ∃r,(bl,.loop r)∈own∧vs.length=r.params.size∧Round (CP P) bl r.fn (Zf r vs) r.assign r.body ⟨ro,own⟩ (RY ro Φ)
theorem YX.use{ro:Nat→Option Obj}{own:Cells}(hy:YX P bl vs ro own Φ)(hs:Sub ro s.ro)(hp:s.rw.Perm (own++fr)){Q:Next→St→Prop}{E:Halt→St→Prop}
 (h:∀l f tm as bd,Round (CP P) l f tm as bd s (fun en s'=>∃v X,en= .returned v∧Φ v X∧(⟨s.ro,X++fr⟩:St).le s')→Q (.round l f tm as bd) s):bG P (Instr.yield bl ⟨vs⟩) s Q E:=by
 obtain⟨r,h1,h2,h3⟩:=hy
 simp only[Instr.yield,Instr.getLoop,aa]
 refine cq (o:= .loop r) (.inr (hp.mem_iff.2 (List.mem_append_left _ h1))) rfl rfl ?_
 have uz:¬(⟨vs⟩:Array Value).size≠r.params.size:=by simpa using h2
 simp only[ae,if_neg uz]
 refine h _ _ _ _ _ (Round.mono (Round.frame (fr:=fr) (B:=[]) (ro:=s.ro) (s:=s) h3 (fun _ h=>(by cases h)) ⟨hp,fun b o hb=> .inl (hs b o hb),Sub.refl _⟩) fun en s' Cs=>?_)
 obtain⟨xU,⟨v,X,rfl,⟨R,hR1,hR2⟩,pR⟩,hc⟩:=Cs
 refine⟨v,X,rfl,pR,R,?_,fun b o hb=> .inl (hc.keep b o hb)⟩
 refine hc.rw.trans ((hR1.append_right fr).trans ?_)
 simp only[List.append_assoc]
 exact List.Perm.append_left _ List.perm_append_comm
section
variable {X:Cx} {o:Option JS}
def anp(n:Nat)(p:Oper)(e:Env):Option (Nat×List Value):=match p.op with
 | .call ⟨.value x,xs,_⟩=>match ba n e x with
  |some (.func (.yield bl) ⟨[]⟩ ⟨[]⟩)=>match xq n e xs.toList with
   |some vs=>some (bl,vs)
   |none=>none
  |_=>none
 |_=>none
theorem jyc{oM:Nat→Option Obj}{own:Cells}(ps:List Nat)(hy:YX X.P bl vs oM own Φ)(fq:Sub oM X.ro)(hj:∀v Y,Φ v Y→J X (mH ps v Y o))(h1:eR X.n (anp X.n) o=some (bl,vs):=by kernel_rfl)(h2:dN ps o=some own:=by kernel_rfl):J X o:=by
 obtain⟨ops,i,todo,k,e,w,kn,p,rfl,ho,hw,hc⟩:=db h1
 intro bP
 unfold anp at hc
 split at hc<;>try (cases hc;done)
 rename_i x xs at_ ax
 split at hc<;>try (cases hc;done)
 rename_i bl' hx
 split at hc<;>try (cases hc;done)
 rename_i nI Dg
 cases hc
 rcases p with ⟨dst,op,ty,pos,cS,g⟩
 dsimp only at ax;subst ax
 have hp:=bB h2
 refine bJ X.hC ho hw (by simp) ?_
 have P7:xs.map (ev X.n e)=⟨vs⟩:=rF Dg
 simp only[execOp,resolve,aC hx,Deferred.ofValue,ae,P7]
 have hiv:(invoke (.fn (.yield bl) ⟨[]⟩) (⟨[]⟩++⟨vs⟩):Sem Next)=Instr.yield bl ⟨vs⟩:=by simp[invoke]
 rw[hiv]
 refine YX.use hy fq hp fun l f tm as bd hR=>?_
 show Round X.C l f tm as bd _ _
 refine Round.mono (Round.weaken X.hC hR) fun en s' Cs=>?_
 obtain⟨v,Y,rfl,pR,hle⟩:=Cs
 have:=hj v Y pR
 rw[nG ho] at this
 have:=this bP
 simp only[JP,fY] at this
 have:=this.more X.hC hle
 show ab _ _ _ _ _ _ _ _
 rw[aU]
 exact this
end
attribute [irreducible] anp
def mk:List Nat→Cells
 | []=>[]
 |b::r=>(b,.deferred (some []))::mk r
def aby(P:Program)(fn:Func)(R:Ending→St→Prop):Post
 | .normal,a,s| .ret,a,s=>∃tU rest,a.defers=tU.map dS∧s.rw.Perm (mk tU++rest)∧bG P (results fn a.tmps) ⟨s.ro,rest⟩ (fun v s'=>∃s0,s0.le s'∧R (.returned v) s0) (fun _ _=>False)
 |_,_,_=>False
section
variable {P:Program} {C:Class}
theorem yY(hC:∀main T,C main T→Closed P main T){T:Goroutine→St→Prop}(hT:C main T){rest:Cells}:∀(tU:List Nat) (fr:Frame) (s:St),fr.mode= .returning→fr.defers=tU.map dS→s.rw.Perm (mk tU++rest)→T (G {fr with defers:=[]} cs) ⟨s.ro,rest⟩→T (G fr cs) s
 | [],fr,s,_,hd,hp,h=>by
  have:fr={fr with defers:=[]}:=by rcases fr with ⟨a,b,c,d,e,f,g⟩;simp only[List.map_nil] at hd;subst hd;rfl
  rw[this]
  exact(hC main T hT).mono _ ⟨s.ro,rest⟩ _ ⟨[],by simpa [mk] using hp,fun b o hb=> .inl hb⟩ h
 |b::r,fr,s,hm,hd,hp,h=>by
  obtain⟨L,Rr,hs⟩:=List.append_of_mem (hp.mem_iff.2 (List.mem_append_left _ List.mem_cons_self))
  refine unwind_mark hC hT (.inl hm) (ds:=r.map dS) (by simpa using hd) hs ?_
  have PZ:(L++Rr).Perm (mk r++rest):=by
   rw[hs] at hp
   exact(List.perm_middle.symm.trans hp).cons_inv
  refine(hC main T hT).mono _ ⟨s.ro,L++Rr⟩ _ ⟨[(b,.deferred none)],?_,fun b o hb=> .inl hb⟩ (yY hC hT r _ _ hm rfl PZ h)
  exact List.perm_middle.trans (List.perm_append_singleton _ _).symm
theorem Jc(hC:∀main T,C main T→Closed P main T){fn:Func}{c:Code}{args:Array Value} 
 (hf:P.funcs[f]?=some fn) (hb:fn.body=some c) (h:Wp C f none c (aby P fn R) ⟨args++Array.replicate (fn.ntmps-args.size) undef,[]⟩ s):Fn C P f args s R:=by
 intro main T hT cl cs k1 k2
 let b:Frame:={(default:Frame) with fn:=f,kind:= .normal,roundOf:=none}
 have gL:Frame.enter P f args .normal=aH b ⟨args++Array.replicate (fn.ntmps-args.size) undef,[]⟩ [.code c]:=by
  simp[Frame.enter,aH,hf,hb,b]
 rw[gL]
 refine h main T hT b [] (cl::cs) rfl (by simp[b]) rfl fun e a' s' q=>?_
 have rz:∀(todo:List Item),(∃tU rest,a'.defers=tU.map dS∧s'.rw.Perm (mk tU++rest)∧bG P (results fn a'.tmps) ⟨s'.ro,rest⟩ (fun v s'=>∃s0,s0.le s'∧R (.returned v) s0) (fun _ _=>False))→T (G {aH b a' todo with mode:= .returning} (cl::cs)) s':=by
  intro todo ⟨tU,rest,hd,hp,hr⟩
  exact yY hC hT tU _ _ rfl hd hp (rX hC hT hf rfl rfl rfl rfl hr k1)
 cases e with
 |normal=>
  exact(hC main T hT).go rfl rfl (g':=G {aH b a' [] with mode:= .returning} (cl::cs)) (fun w=>by simp[G,stepG,stepG.exec,aH,b]) (rz _ q)
 |ret=>
  exact fun todo=>(hC main T hT).go rfl rfl (g':=G {aH b a' (.code .ret::todo) with mode:= .returning} (cl::cs)) (fun w=>by simp[G,stepG,stepG.exec,aH,b]) (rz _ q)
 |panic ch=>exact q.elim
 |exit id=>exact q.elim
 |goto l=>exact q.elim
 |outgrown=>exact q.elim
end
def XM(P:Program)(hm:P.follows .mixedOrders=true)(f:FuncId)(ro:Nat→Option Obj)(R:Ending→St→Prop):Cx:=⟨P,CP P,eL,hm,f,none,(sG P f).ntmps,[],ro,aby P (sG P f) R⟩
theorem ajk(hm:P.follows .mixedOrders=true){args:List Value}{ro:Nat→Option Obj}{L:Cells}(own:List Sg)(kn:Cells)(hk:Knows ro kn)(h:J (XM P hm f ro (RX ro Φ)) (ky P f args own kn))(hL:den own=L:=by rfl):eo P f args ro L Φ:=by
 subst hL
 unfold ky at h
 split at h<;>try exact h.elim
 rename_i fn hf
 split at h<;>try exact h.elim
 rename_i c hc
 cases hl:Nat.ble args.length fn.ntmps with
 |false=>rw[hl] at h;exact h.elim
 |true=>
  rw[hl] at h
  have uA:sG P f=fn:=by simp only[sG,hf]
  have:=h hk
  simp only[JP,XM,KQ,uA] at this
  refine Jc eL hf hc ?_
  have he:=kg args fn.ntmps (Nat.le_of_ble_eq_true hl)
  rw[←he] at this
  exact this
structure QM(X:Cx)(R:Ending→St→Prop)(tU:List Nat):Prop where
 q:X.Q=aby X.P (sG X.P X.fn) R
 d:X.D=tU.map dS
def Cx.dm(X:Cx)(bd:Nat):Cx:={X with D:=dS bd::X.D}
theorem qm0{hm:P.follows .mixedOrders=true}{ro:Nat→Option Obj}:QM (XM P hm f ro R) R []:=⟨rfl,rfl⟩
theorem QM.a{ro:Nat→Option Obj}(h:QM X R tU):QM (X.at ro) R tU:=⟨h.q,h.d⟩
theorem QM.m{bd:Nat}(h:QM X R tU):QM (X.dm bd) R (bd::tU):=⟨h.q,by simp[Cx.dm,h.d]⟩
theorem QM.w{aEa:List Nat}(h:QM X R tU):QM (X.wd (aEa.map dS)) R aEa:=⟨h.q,rfl⟩
def BR(pm:List Nat):Option JS→Option JS
 |some ⟨p,e,w,kn⟩=>some ⟨p,e,dj pm 0 w,kn⟩
 |none=>none
section
variable {X:Cx} {o:Option JS}
theorem jrM{oM:Nat→Option Obj}(hq:QM X (RX oM Φ) tU)(v:Value)(pm hs ps:List Nat)(Y:Cells)(fq:Sub oM X.ro)(hR:Φ v Y)(h0:dN pm o=some (mk tU):=by kernel_rfl)(h1:sD (jD X.P X.n X.fn hs (BR pm o))=some v:=by kernel_rfl)(h2:Qd (jD X.P X.n X.fn hs (BR pm o))=Qc (jD X.P X.n X.fn hs (BR pm o)):=by kernel_rfl)(h3:dN ps (BR pm o)=some Y:=by kernel_rfl)(h4:BK o=true:=by kernel_rfl):J X o:=by
 obtain⟨ex,e,w,kn,rfl,hex⟩:=sI h4
 simp only[BR,jD] at h1 h2 h3
 cases hr:A3 X.P X.n e (dj pm 0 w) kn.c hs (sG X.P X.fn).results.toList with
 |none=>simp only[hr,sD] at h1;cases h1
 |some x=>
  rcases x with ⟨vs,q⟩
  simp only[hr,sD,Option.some.injEq,Qd,Qc] at h1 h2
  intro bP
  have rz:=tj bP hr (lJ h2)
  have hp:=bB h3
  have G5:=M9 (s0:=⟨oM,Y⟩) (R:=RX oM Φ) hex rz h1 (dH hp fq) ⟨v,Y,rfl,rfl,hR⟩
  have ht:bG X.P (results (sG X.P X.fn) (A X.n e X.D).tmps) ⟨X.ro,den (dj pm 0 w)⟩ (fun v s'=>∃s0,s0.le s'∧RX oM Φ (.returned v) s0) (fun _ _=>False):=by
   rcases hex with rfl|rfl<;>exact G5.2
  show X.Q ex (A X.n e X.D) ⟨X.ro,den w⟩
  rw[hq.q]
  have hm:∃tU rest,(A X.n e X.D).defers=tU.map dS∧(den w).Perm (mk tU++rest)∧bG X.P (results (sG X.P X.fn) (A X.n e X.D).tmps) ⟨X.ro,rest⟩ (fun v s'=>∃s0,s0.le s'∧RX oM Φ (.returned v) s0) (fun _ _=>False):=⟨tU,_,hq.d,bB h0,ht⟩
  rcases hex with rfl|rfl<;>exact hm
end
attribute [irreducible] BR
def upQ(Q:Post):Post:=fun e a s=>∃s0,s0.le s∧Q e a s0
theorem jA.more{T:Goroutine→St→Prop}(hT:Closed P main T){b:Frame}{k:List Item}(hl:s.le s'):∀ {e:Exit} {a:Act},jA T b k cs e a s→jA T b k cs e a s'
 | .normal,_,h=>hT.mono _ _ _ hl h
 | .exit id,a,h=>by
  simp only[jA] at h ⊢
  cases hk:exitTo id k with
  |some k'=>rw[hk] at h;exact hT.mono _ _ _ hl h
  |none=>rw[hk] at h;exact fun todo ht=>hT.mono _ _ _ hl (h todo ht)
 | .ret,_,h=>fun todo=>hT.mono _ _ _ hl (h todo)
 | .panic _,_,h=>fun todo=>hT.mono _ _ _ hl (h todo)
 | .goto _,_,h=>h.elim
 | .outgrown,_,h=>h.elim
theorem avc(hC:∀main T,C main T→Closed P main T){fn:FuncId}{ay:Option Nat}{c:Code}{Q:Post}{a:Act}(h:Wp C fn ay c (upQ Q) a s):Wp C fn ay c Q a s:=
 fun main T hT b k cs h1 h2 h3 h4=>h main T hT b k cs h1 h2 h3 fun _ _ _ ⟨_,hl,hq⟩=>jA.more (hC _ _ hT) hl (h4 _ _ _ hq)
def ItX(P:Program)(g:FuncId)(fi ca:List Value)(ro:Nat→Option Obj)(own:Cells)(N:Nat)(El:(Nat→Option Obj)→Nat→List Value→Cells→Prop)(Ψ:Cells→Prop):Prop:=
 ∀(bl:Nat) (aA:Nat→Option Obj) (Inv:Nat→Cells→Prop) (Stop:Cells→Prop),Sub ro aA→
  (∀k vs LL B lB,k <N→El lB k vs LL→Inv k B→Sub aA lB→YX P bl vs lB (LL++B) (fun r B'=>(r= .bool true∧Inv (k+1) B')∨(r= .bool false∧Stop B')))→
  ∀B,Inv 0 B→eo P g (fi++[.func (.yield bl) #[] #[]]++ca) aA (own++B) (fun _ Y=>∃Z B',Y=Z++B'∧Ψ Z∧(Inv N B'∨Stop B'))
theorem Round.more(hC:∀main T,C main T→Closed P main T){l:Nat}(hl:s.le s')(h:Round C l f tm as bd s R):Round C l f tm as bd s' R:=
 fun main T hT c cs k1 k2=>(hC _ _ hT).mono _ _ _ hl (h main T hT c cs k1 k2)
def rfV(P:Program)(n:Nat):Option JS→Option (FuncId×List Value×List Value×Nat)
 |some ⟨.code (.rangeFunc x ps _ _) _,e,_,_⟩=>match ba n e x with
  |some (.func (.func g) ⟨fi⟩ ⟨ca⟩)=>bif AR P g then some (g,fi,ca,ps.size) else none
  |_=>none
 |_=>none
def lpO(X:Cx)(bd:Nat):Option JS→Loop
 |some ⟨.code (.rangeFunc _ ps a b) _,e,_,_⟩=>gX X.fn (A X.n e X.D).tmps ps a b bd
 |_=>gX X.fn #[] #[] .ret .ret bd
def aD6:Option JS→Code
 |some ⟨.code (.rangeFunc _ _ _ b) _,_,_,_⟩=>b
 |_=> .ret
def M3:List Tmp→List Value→Env→Env
 |t::ts,v::vs,e=>M3 ts vs (upd (some t) v e)
 |_,_,e=>e
theorem M1{D:List Deferred}:∀(ts:List Tmp) (vs:List Value) (e:Env),(ts.zip vs).foldl (fun(tm:Array Value) (x:Tmp×Value)=>tm.setIfInBounds x.1 x.2) (A n e D).tmps=(A n (M3 ts vs e) D).tmps
 | [],_,_=>rfl
 |_::_,[],_=>rfl
 |t::ts,v::vs,e=>by
  have:=aU n e D (some t) v
  simp only[Act.put] at this
  simp only[List.zip_cons_cons,List.foldl_cons,M3]
  rw[←M1 ts vs,←this]
def rdO(X:Cx)(bl bd:Nat)(vs:List Value)(w:List Sg)(o:Option JS):Option JS:=match o with
 |some ⟨.code (.rangeFunc _ ps a _) _,e,_,kn⟩=>some ⟨.code a [],M3 ps.toList vs e,.b bl (.loop (lpO X bd o))::w,⟨kn.c,[]⟩⟩
 |_=>none
def afO(jump:Option Code)(bd:Nat)(Z:Cells)(wi:List Sg)(is:List Nat):Option JS→Option JS
 |some ⟨.code _ k,e,w,kn⟩=>match jump with
  |none=>some ⟨Nm k,e,.b bd (.deferred (some [])):: .l Z::(wi++dj is 0 w),⟨kn.c,[]⟩⟩
  |some .ret=>some ⟨.fin .ret,e,.b bd (.deferred (some [])):: .l Z::(wi++dj is 0 w),⟨kn.c,[]⟩⟩
  |some (.exit id)=>match Ah id k with
   |some p=>some ⟨p,e,.b bd (.deferred (some [])):: .l Z::(wi++dj is 0 w),⟨kn.c,[]⟩⟩
   |none=>none
  |_=>none
 |_=>none
def anq(bl:Nat)(Lp:Loop)(wf:ι→List Sg)(Inv:Nat→ι→Prop)(Sp:Code→ι→Prop)(k:Nat):Value→Cells→Prop:=fun r B=>
 (r= .bool true∧∃j,Inv (k+1) j∧B=(bl,.loop Lp)::den (wf j))∨(r= .bool false∧∃jump j,Sp jump j∧B=(bl,.loop {Lp with state:= .done,pending:=some jump})::den (wf j))
def Cx.rd(X:Cx)(bl:Nat)(ro:Nat→Option Obj)(Φ:Value→Cells→Prop)(body:Code):Cx:=⟨X.P,CP X.P,eL,X.hm,X.fn,some bl,X.n,[],ro,GQ (CP X.P) (RY ro Φ) bl X.fn body⟩
def Cx.re(X:Cx)(bl:Nat)(ro:Nat→Option Obj)(Φ:Value→Cells→Prop):Cx:=⟨X.P,CP X.P,eL,X.hm,X.fn,some bl,X.n,[],ro,A2 (RY ro Φ) bl⟩
theorem Jq{bd:Nat}:∀(k:List KI),KQ (X.dm bd) k=KQ X k
 | []=>rfl
 | .seq _::k=>by simp only[KQ,Jq k];rfl
 | .block _::k=>by simp only[KQ,Jq k]
 | .next _::k=>by simp only[KQ,Jq k]
theorem Ix(Z W R:List α)(x y:α):((Z++x::W)++y::R).Perm (x::y::(Z++(W++R))):=by
 refine List.perm_middle.trans ?_
 rw[List.append_assoc,List.cons_append]
 exact(List.Perm.cons y List.perm_middle).trans (List.Perm.swap _ _ _)
section
variable {X:Cx} {o:Option JS}
theorem jrf{g:FuncId}{np:Nat}{Ψ:Cells→Prop}(ow:List Sg)(hit:ItX X.P g fi ca X.ro (den ow) N El Ψ)(YV:∀ro k vs LL,El ro k vs LL→vs.length=np)
 (wf:ι→List Sg)(Inv:Nat→ι→Prop)(Sp:Code→ι→Prop)(i0:ι)(h0:Inv 0 i0)(is:List Nat)
 (hb:∀bl bd k vs LL i lB,k <N→El lB k vs LL→Inv k i→Sub X.ro lB→J (X.rd bl lB (anq bl (lpO X bd o) wf Inv Sp k) (aD6 o)) (rdO X bl bd vs (wf i++[.l LL]) o))
 (hN:∀bd i Z,Inv N i→Ψ Z→J (X.dm bd) (afO none bd Z (wf i) is o))(hS:∀bd i Z jump,Sp jump i→Ψ Z→J (X.dm bd) (afO (some jump) bd Z (wf i) is o))
 (h1:rfV X.P X.n o=some (g,fi,ca,np):=by kernel_rfl)(h2:qE is o=some (ow++wf i0):=by kernel_rfl)(hf:(X.P.funcs[X.fn]?).isSome=true:=by kernel_rfl) (hr:X.ay=none:=by rfl):J X o:=by
 unfold rfV at h1
 split at h1<;>try (cases h1;done)
 rename_i x params assign body k e w kn
 split at h1<;>try (cases h1;done)
 rename_i g' SQ yC hx
 cases FW:AR X.P g' with
 |false=>rw[FW] at h1;cases h1
 |true=>
  rw[FW] at h1
  simp only[cond_true,Option.some.injEq,Prod.mk.injEq] at h1
  obtain⟨rfl,rfl,rfl,hnp⟩:=h1
  have ff:=kG FW
  intro bP
  have hp:=lf h2
  rw[kV] at hp
  obtain⟨fn',uA⟩:=Option.isSome_iff_exists.1 hf
  show Wp X.C X.fn X.ay (.rangeFunc x params assign body) (KQ X k) (A X.n e X.D) ⟨X.ro,den w⟩
  rw[hr]
  refine avc X.hC (yT X.hC (fi:=⟨SQ⟩) (ca:=⟨yC⟩) (by rw[dW];exact aC hx) ff fun bd bl _ _=>?_)
  rw[PB]
  have hy:=hit bl X.ro (fun k B=>∃i,Inv k i∧B=(bl,.loop (gX X.fn (A X.n e X.D).tmps params assign body bd))::den (wf i))
   (fun B=>∃jump i,Sp jump i∧B=(bl,.loop {gX X.fn (A X.n e X.D).tmps params assign body bd with state:= .done,pending:=some jump})::den (wf i)) (Sub.refl _) (fun k vs LL B lB hk hv hi hs=>?_) _ ⟨i0,h0,rfl⟩
  rotate_left
  ·obtain⟨i,hi,rfl⟩:=hi
   refine⟨gX X.fn (A X.n e X.D).tmps params assign body bd,List.mem_append_right _ List.mem_cons_self,(YV _ _ _ _ hv).trans hnp.symm,Round.more eL (s:=⟨lB,((bl,.loop (gX X.fn (A X.n e X.D).tmps params assign body bd))::den (wf i))++LL⟩) ⟨[],by rw[List.append_nil];exact List.perm_append_comm,fun b o hb=> .inl hb⟩ (Cd eL uA ?_)⟩
   have:=hb bl bd k vs LL i lB hk hv hi hs fun y hy=>hs _ _ (bP y hy)
   have KO:den (.b bl (.loop (gX X.fn (A X.n e X.D).tmps params assign body bd))::(wf i++[.l LL]))=((bl,.loop (gX X.fn (A X.n e X.D).tmps params assign body bd))::den (wf i))++LL:=by rw[ib,kV];rfl
   rw[←KO]
   have hyt:Zf (gX X.fn (A X.n e X.D).tmps params assign body bd) vs=(A X.n (M3 params.toList vs e) X.D).tmps:=by
    rw[←M1]
    simp only[Zf,gX]
    rw[←Array.foldl_toList,Array.toList_zip]
   rw[hyt]
   exact this
  ·refine Fn.weaken X.hC (Fn.mono (Fn.frame (fr:=(bd,.deferred (some []))::den (dj is 0 w)) (B:=[]) (ro:=X.ro) hy (fun _ h=>(by cases h)) ⟨?_,fun b o hb=> .inl hb,Sub.refl _⟩) fun en s' Cs=>?_)
   ·refine List.Perm.trans (.cons _ (.cons _ ?_)) (Ix _ _ _ _ _).symm
    rw[←List.append_assoc]
    exact hp
   ·obtain⟨xU,⟨v,Y,rfl,rfl,Z,B',rfl,hΨ,hI⟩,hc⟩:=Cs
    have hc1:s'.rw.Perm ((Z++B')++(bd,.deferred (some []))::den (dj is 0 w)):=hc.rw
    have key:∀(r0:Loop) (i:ι),B'=(bl,.loop r0)::den (wf i)→∃L Rr,s'.rw=L++(bl,.loop r0)::Rr∧∀r1,(⟨X.ro,den (.b bd (.deferred (some [])):: .l Z::(wf i++dj is 0 w))⟩:St).le ⟨s'.ro,L++(bl,.loop r1)::Rr⟩:=by
     intro r0 i hB
     subst hB
     have hc2:=hc1.trans (Ix _ _ _ _ _)
     obtain⟨L,Rr,hs⟩:=List.append_of_mem (hc2.mem_iff.2 List.mem_cons_self)
     refine⟨L,Rr,hs,fun r1=>dH (J:=[(bl,.loop r1)]) ?_ hc.keep⟩
     rw[hs] at hc2
     have hc3:=(List.perm_middle.symm.trans hc2).cons_inv
     rw[ib,fY,kV]
     exact List.perm_middle.trans ((List.Perm.cons _ hc3).trans (List.perm_append_singleton _ _).symm)
    rcases hI with ⟨i,hi,hB⟩| ⟨jump,i,hi,hB⟩
    ·obtain⟨L,Rr,hs,hle⟩:=key _ i hB
     refine⟨L,_,Rr,hs,by simp[gX],?_⟩
     refine⟨_,hle _,?_⟩
     have:=hN bd i Z hi hΨ bP
     rw[←Jq (bd:=bd)]
     exact tv (X:=X.dm bd) (kn:=⟨kn.c,[]⟩) this
    ·obtain⟨L,Rr,hs,hle⟩:=key _ i hB
     refine⟨L,_,Rr,hs,by simp,?_⟩
     have:=hS bd i Z jump hi hΨ
     cases jump with
     |ret=>
      refine⟨_,hle _,?_⟩
      rw[←Jq (bd:=bd)]
      exact za (X:=X.dm bd) (this bP) k
     |exit id=>
      simp only[afO] at this
      cases hk:Ah id k with
      |none=>rw[hk] at this;exact this.elim
      |some p=>
       rw[hk] at this
       refine⟨_,hle _,?_⟩
       rw[←Jq (bd:=bd)]
       exact vI (X:=X.dm bd) (kn:=⟨kn.c,[]⟩) hk (this bP)
     |_=>exact this.elim
end
theorem axV{bd:Nat}{o:Option JS}:(lpO X bd o).state= .ready∧(lpO X bd o).pending=none:=by
 unfold lpO
 split<;>exact⟨rfl,rfl⟩
attribute [irreducible] rfV lpO aD6 rdO afO
def bgO(body:Code):Option JS→Option (JS×Nat)
 |some ⟨.fin .normal,e,.b b (.loop r)::w,kn⟩=>match r.state with
  | .ready=>some (⟨.code body [],e,.b b (.loop {r with state:= .busy})::w,kn⟩,b)
  |_=>none
 |_=>none
def Dr:Option (JS×Nat)→Option JS
 |some (s,_)=>some s
 |none=>none
def QC:Option (JS×Nat)→Option Nat
 |some (_,b)=>some b
 |none=>none
def N2:Option JS→Option (Option Code)
 |some ⟨.fin .normal,_,_,_⟩=>some none
 |some ⟨.fin .ret,_,_,_⟩=>some (some .ret)
 |some ⟨.fin (.exit id),_,_,_⟩=>some (some (.exit id))
 |_=>none
structure QY(X:Cx)(bl:Nat)(ro:Nat→Option Obj)(Φ:Value→Cells→Prop):Prop where
 q:X.Q=A2 (RY ro Φ) bl
theorem WQ{ro:Nat→Option Obj}:QY (X.re bl ro Φ) bl ro Φ:=⟨rfl⟩
section
variable {X:Cx} {o:Option JS} {bl:Nat} {ro:Nat→Option Obj}
theorem jbg{body:Code}(h:J (X.re bl ro Φ) (Dr (bgO body o)))(h1:QC (bgO body o)=some bl:=by kernel_rfl):J (X.rd bl ro Φ body) o:=by
 unfold bgO at h h1
 split at h<;>try exact h.elim
 rename_i e b r w kn
 split at h<;>try exact h.elim
 rename_i bL
 simp only[bL,QC,Option.some.injEq] at h1
 subst h1
 simp only[Dr] at h
 intro bP
 have hw:=h bP
 simp only[JP,Cx.rd,GQ,B3]
 refine⟨[],r,den w,by rw[ib];rfl,bL,?_⟩
 simp only[JP,ib] at hw
 exact hw
theorem jyR{Lp:Loop}{jump:Option Code}{Y:Cells}(hq:QY X bl ro Φ)(fq:Sub ro X.ro)(ps:List Nat)(pR:Φ (.bool jump.isNone) ((bl,.loop {Lp with state:=if jump.isNone then .ready else .done,pending:=jump})::Y))(h1:dN ps o=some ((bl,.loop {Lp with state:= .busy})::Y):=by kernel_rfl)(h2:N2 o=some jump:=by kernel_rfl):J X o:=by
 have main:∀s w kn e,o=some ⟨s,e,w,kn⟩→SX (RY ro Φ) bl jump ⟨X.ro,den w⟩:=by
  intro s w kn e ho
  subst ho
  have hp:=bB h1
  obtain⟨L,Rr,hs⟩:=List.append_of_mem (hp.mem_iff.2 (List.mem_append_left _ List.mem_cons_self))
  refine⟨L,_,Rr,hs,_,_,rfl,?_,pR⟩
  have mG:den w=L++(bl,.loop {Lp with state:= .busy})::Rr:=hs
  have hp':(den w).Perm (((bl,.loop {Lp with state:= .busy})::Y)++den (dj ps 0 w)):=hp
  rw[mG] at hp'
  have PZ:=(List.perm_middle.symm.trans hp').cons_inv
  exact dH (J:=den (dj ps 0 w)) (List.perm_middle.trans (.cons _ PZ)) fq
 unfold N2 at h2
 split at h2<;>try (cases h2;done)
 ·rename_i e w kn;cases h2;intro _;show X.Q .normal _ _;rw[hq.q];exact main _ _ _ _ rfl
 ·rename_i e w kn;cases h2;intro _;show X.Q .ret _ _;rw[hq.q];exact main _ _ _ _ rfl
 ·rename_i id e w kn;cases h2;intro _;show X.Q (.exit id) _ _;rw[hq.q];exact main _ _ _ _ rfl
theorem jyn{Lp:Loop}{wf:ι→List Sg}{Inv:Nat→ι→Prop}{Sp:Code→ι→Prop}{k:Nat}(hq:QY X bl ro (anq bl Lp wf Inv Sp k))(fq:Sub ro X.ro)(j:ι)(h:Inv (k+1) j)(ps:List Nat)(hl:Lp.state= .ready∧Lp.pending=none:=by exact axV)(h1:dN ps o=some ((bl,.loop {Lp with state:= .busy})::den (wf j)):=by kernel_rfl)(h2:N2 o=some none:=by kernel_rfl):J X o:=
 jyR hq fq ps (.inl ⟨rfl,j,h,by rcases Lp with ⟨a,b,c,d,e,f,g,i⟩;obtain⟨h1,h2⟩:=hl;dsimp only at h1 h2;subst h1 h2;rfl⟩) h1 h2
theorem jys{Lp:Loop}{wf:ι→List Sg}{Inv:Nat→ι→Prop}{Sp:Code→ι→Prop}{k:Nat}(hq:QY X bl ro (anq bl Lp wf Inv Sp k))(fq:Sub ro X.ro)(jump:Code)(j:ι)(h:Sp jump j)(ps:List Nat)(h1:dN ps o=some ((bl,.loop {Lp with state:= .busy})::den (wf j)):=by kernel_rfl)(h2:N2 o=some (some jump):=by kernel_rfl):J X o:=
 jyR hq fq ps (.inr ⟨rfl,jump,j,h,rfl⟩) h1 h2
end
attribute [irreducible] bgO Dr QC N2
def rH[DecidableEq κ](k:κ):List (κ×Value)→Nat→Option (Nat×Value)
 | [],_=>none
 |x::l,i=>if k=x.1 then some (i,x.2) else rH k l (i+1)
def lkM[DecidableEq κ](k:κ)(F:List (κ×Value)):Option Value:=(rH k F 0).map (·.2)
def td(k:κ)(v:Value):List (κ×Value)→Nat→List (κ×Value)
 | [],_=>[]
 |_::l,0=>(k,v)::l
 |x::l,i+1=>x::td k v l i
def lO[DecidableEq κ](k:κ)(v:Value)(F:List (κ×Value)):List (κ×Value):=match rH k F 0 with
 |some (i,_)=>td k v F i
 |none=>F++[(k,v)]
structure PJ(P:Program)(T:TypeId){κ:Type}[DecidableEq κ](kv:κ→Value):Prop where
 chk:∀(b:Bool) (k:κ) {α:Type} {K:Unit→Sem α} {s:St} {Q:α→St→Prop} {E:Halt→St→Prop},bG P (K ()) s Q E→bG P (Instr.checkKey b 10000 T (kv k) >>= K) s Q E
 find:∀(k:κ) (es:List MapEntry) (F:List (κ×Value)),es.map (fun e=>(e.key,e.val))=F.map (fun x=>(kv x.1,x.2))→∀ {α:Type} {K:Option (Nat×Value)→Sem α} {s:St} {Q:α→St→Prop} {E:Halt→St→Prop},bG P (K (rH k F 0)) s Q E→bG P (Instr.findKey T (kv k) es >>= K) s Q E
 stay:∀k,Instr.sameBits 10000 (kv k) (kv k)=true
theorem p7[DecidableEq κ]{k:κ}:∀ {F:List (κ×Value)} {i j:Nat} {v:Value},rH k F i=some (j,v)→i≤j∧F[j-i]?=some (k,v)
 | [],_,_,_,h=>by cases h
 |x::l,i,j,v,h=>by
  simp only[rH] at h
  split at h
  ·rename_i hk
   cases h
   exact⟨Nat.le_refl _,by simp[hk]⟩
  ·obtain⟨h1,h2⟩:=p7 h
   refine⟨by omega,?_⟩
   rw[show j-i=(j-(i+1))+1 by omega,List.getElem?_cons_succ];exact h2
theorem LJ(a b:ByteArray):(a==b)=decide (a=b):=by
 have h:(a==b)=(a.data==b.data):=by cases a;cases b;rfl
 rw[h,Bool.eq_iff_iff]
 cases a;cases b
 simp
theorem Cy(a:ByteArray):∀(es:List MapEntry) (F:List (ByteArray×Value)) (i:Nat),es.map (fun e=>(e.key,e.val))=F.map (fun x=>(Value.string x.1,x.2))→Instr.findNow .string (.string a) es i=some (rH a F i)
 | [],[],_,_=>rfl
 | [],_::_,_,h=>by simp at h
 |_::_,[],_,h=>by simp at h
 |e::es,x::F,i,h=>by
  simp only[List.map_cons,List.cons.injEq,Prod.mk.injEq] at h
  obtain⟨⟨h1,h2⟩,h3⟩:=h
  simp only[Instr.findNow,h1,Instr.sameNow,rH,LJ]
  by_cases hk:a=x.1
  ·simp[hk,h2]
  ·simp only[hk,decide_false,if_false]
   exact Cy a es F (i+1) h3
def CkD(P:Program)(dep:Nat)(T:TypeId)(v:Value):Prop:=∀(b:Bool) {α:Type} {K:Unit→Sem α} {s:St} {Q:α→St→Prop} {E:Halt→St→Prop},bG P (Instr.checkKey b dep T v >>= K) s Q E=bG P (K ()) s Q E
theorem aDX(tf:TF P T .string sz bu z ag)(a:ByteArray):CkD P (dep+1) T (.string a):=by
 intro b α K s Q E
 simp only[Instr.checkKey,aa,aW tf,ae]
theorem apz(tf:TF P T .string sz bu z ag):PJ P T (fun(a:ByteArray)=>Value.string a) where
 chk b k α K s Q E h:=by rw[aDX (dep:=9999) tf k b];exact h
 find k es F he α K s Q E h:=by
  simp only[Instr.findKey,aa,aW tf,Cy k es F 0 he,ae]
  exact h
 stay k:=by simp[Instr.sameBits,LJ]
def acm(P:Program)(T:TypeId):Bool:=match aV P T with
 |some ⟨.string,_,_,_⟩=>true
 |_=>false
theorem UR(h:acm P T=true):PJ P T (fun(a:ByteArray)=>Value.string a):=by
 unfold acm at h
 split at h
 ·rename_i dI
  obtain⟨bu,tf⟩:=ar dI
  exact apz tf
 ·cases h
theorem ItX.up{g:FuncId}{ro aK:Nat→Option Obj}{own:Cells}{Ψ:Cells→Prop}(h:ItX P g fi ca ro own N El Ψ)(hs:Sub ro aK):ItX P g fi ca aK own N El Ψ:=
 fun bl aA Inv Stop h1=>h bl aA Inv Stop (hs.trans h1)
def YE(P:Program)(bl:Nat)(ro:Nat→Option Obj)(N:Nat)(El:(Nat→Option Obj)→Nat→List Value→Cells→Prop)(Inv:Nat→Cells→Prop)(Stop:Cells→Prop):Prop:=
 ∀k vs LL B lB,k <N→El lB k vs LL→Inv k B→Sub ro lB→YX P bl vs lB (LL++B) (fun r B'=>(r= .bool true∧Inv (k+1) B')∨(r= .bool false∧Stop B'))
theorem YE.up{ro aK:Nat→Option Obj}{Inv:Nat→Cells→Prop}{Stop:Cells→Prop}(h:YE P bl ro N El Inv Stop)(hs:Sub ro aK):YE P bl aK N El Inv Stop:=
 fun k vs LL B lB h1 h2 h3 h4=>h k vs LL B lB h1 h2 h3 (hs.trans h4)
def Part(L:List α)(p:Nat)(m:List α):Prop:=∃a b,L=a++m++b∧a.length=p
theorem Part.get{L m:List α}{x:α}(h:Part L p m)(hx:m[i]?=some x):p+i <L.length∧L[p+i]?=some x:=by
 obtain⟨a,b,rfl,rfl⟩:=h
 have hi:=(List.getElem?_eq_some_iff.1 hx).1
 have:(a++m++b)[a.length+i]?=some x:=by
  rw[List.append_assoc,List.getElem?_append_right (by omega),List.getElem?_append_left (by omega),show a.length+i-a.length=i by omega];exact hx
 exact⟨(List.getElem?_eq_some_iff.1 this).1,this⟩
theorem Part.flat{β:Type}{L:List β}{G:α→List β}{l a b:List α}{s:α}(h:Part L p (l.flatMap G))(hl:l=a++[s]++b):Part L (p+(a.flatMap G).length) (G s):=by
 obtain⟨u,v,rfl,rfl⟩:=h
 subst hl
 exact⟨u++a.flatMap G,b.flatMap G++v,by simp[List.flatMap_append],by simp⟩
theorem MO[DecidableEq κ]{kv:κ→Value}(he:∀a b,YH P 10000 T (kv a) (kv b) (decide (a=b)))(k:κ):∀(es:List MapEntry) (F:List (κ×Value)) (i:Nat),es.map (fun e=>(e.key,e.val))=F.map (fun x=>(kv x.1,x.2))→∀ {α:Type} {K:Option (Nat×Value)→Sem α} {s:St} {Q:α→St→Prop} {E:Halt→St→Prop},bG P (K (rH k F i)) s Q E→bG P (Instr.findAsking T (kv k) es i >>= K) s Q E
 | [],[],_,_,_,_,_,_,_,h=>h
 | [],_::_,_,h,_,_,_,_,_,_=>by simp at h
 |_::_,[],_,h,_,_,_,_,_,_=>by simp at h
 |e::es,x::F,i,h,α,K,s,Q,E,hK=>by
  simp only[List.map_cons,List.cons.injEq,Prod.mk.injEq] at h
  obtain⟨⟨h1,h2⟩,h3⟩:=h
  simp only[Instr.findAsking,aa,h1,Op.equal]
  rw[show Op.maxDepth=10000 from rfl,he k x.1]
  simp only[rH] at hK
  by_cases hk:k=x.1
  ·rw[if_pos hk] at hK
   simp only[hk,decide_true,if_true,ae,h2]
   exact hK
  ·rw[if_neg hk] at hK
   simp only[hk,decide_false,Bool.false_eq_true,if_false]
   exact MO he k es F (i+1) h3 hK
theorem Gy{k:IntKind}(tf:TF P T (.int k) sz bu z ag)(a:Int):CkD P (dep+1) T (.int k a):=by
 intro b α K s Q E
 simp only[Instr.checkKey,aa,aW tf,ae]
inductive AG(P:Program)(dep:Nat)(l:List Value):List Field→Prop
 |nil:AG P dep l []
 |cons {f:Field} {fs:List Field} {v:Value} (hn:f.name≠ "_") (hv:GY P f.type l f.offset v) (he:CkD P dep f.type v) (ht:AG P dep l fs):AG P dep l (f::fs)
theorem Ps{fields:Array Field}(tf:TF P T (.struct fields) sz bu z true)(hf:AG P dep l fields.toList):CkD P (dep+1) T (.agg ⟨l⟩):=by
 intro b α K s Q E
 simp only[Instr.checkKey,aa,aW tf]
 rw[←Array.forIn_toList]
 generalize fields.toList=fl at hf
 clear tf
 induction hf with
 |nil=>simp only[List.forIn_nil,ae,aa]
 | @cons f fs v hn hv he ht ih=>
  simp only[List.forIn_cons,hn,ne_eq,not_false_eq_true,if_true,aa]
  rw[hv]
  simp only[aa]
  rw[he]
  simp only[ae]
  exact ih
theorem abX[DecidableEq κ]{kv:κ→Value}{d:TypeDesc}(tf:TF P T d sz bu z ag)(hl:∀k,∃l,kv k= .agg l)(hc:∀k,CkD P 10000 T (kv k))(he:∀a b,YH P 10000 T (kv a) (kv b) (decide (a=b)))(hs:∀k,Instr.sameBits 10000 (kv k) (kv k)=true):PJ P T kv where
 chk b k α K s Q E h:=by rw[hc k b];exact h
 find k es F hm α K s Q E h:=by
  simp only[Instr.findKey,aa,aW tf]
  cases es with
  |nil=>
   cases F with
   |nil=>exact h
   |cons x F=>simp at hm
  |cons e es=>
   have:Instr.findNow d (kv k) (e::es) 0=none:=by
    cases F with
    |nil=>simp at hm
    |cons x F=>
     simp only[List.map_cons,List.cons.injEq,Prod.mk.injEq] at hm
     obtain⟨l,Cr⟩:=hl k
     obtain⟨l2,qt⟩:=hl x.1
     simp only[Instr.findNow,hm.1.1,Cr,qt]
     cases d<;>rfl
   rw[this]
   exact MO he k _ F 0 hm h
 stay:=hs
def sO(kv:κ→Value)(F:List (κ×Value))(es:Array MapEntry)(ck:Nat):Prop:=
 es.toList.map (fun e=>(e.key,e.val))=F.map (fun x=>(kv x.1,x.2))∧(es.toList.map (·.born)).Nodup∧∀e∈es.toList,e.born <ck
def jH(r:Nat)(kv:κ→Value)(F:List (κ×Value))(L:Cells):Prop:=∃es ck,L=[(r,.map es ck)]∧sO kv F es ck
def agn(s:St)(r:Nat)(kv:κ→Value)(F:List (κ×Value)):Prop:=∃es ck,s.has r (.map es ck)∧sO kv F es ck
theorem jH.has{kv:κ→Value}{F:List (κ×Value)}{L:Cells}(h:jH r kv F L)(hs:∀x∈L,s.has x.1 x.2):agn s r kv F:=by
 obtain⟨es,ck,rfl,hm⟩:=h
 exact⟨es,ck,hs _ List.mem_cons_self,hm⟩
theorem agn.ext{kv:κ→Value}{F:List (κ×Value)}(h:agn s r kv F)(hs:Ext s s'):agn s' r kv F:=by
 obtain⟨es,ck,h1,h2⟩:=h
 exact⟨es,ck,hs _ _ h1,h2⟩
theorem jH.nil(r:Nat)(kv:κ→Value):jH r kv [] [(r,.map #[] 0)]:=⟨#[],0,rfl,rfl,List.nodup_nil,fun _ h=>(by cases h)⟩
section
variable {X:Cx} {o:Option JS}
def NU[DecidableEq κ](z:Value)(ok:Bool)(k:κ)(F:List (κ×Value)):Value:=match lkM k F with
 |some v=>bif ok then .tuple ⟨[v,.bool true]⟩ else v
 |none=>bif ok then .tuple ⟨[z,.bool false]⟩ else z
def luV(P:Program)(n:Nat)(p:Oper)(e:Env):Option (TypeId×Value×Value×Value×Bool):=match p.op with
 | .lookup T x y ok=>match aV P T with
  |some ⟨.map K E,_,_,_⟩=>match aV P E with
   |some te=>match ba n e x with
    |some m=>match ba n e y with
     |some k=>some (K,m,k,Mt te.zero te.agg,ok)
     |none=>none
    |none=>none
   |none=>none
  |_=>none
 |_=>none
theorem jlu[DecidableEq κ]{kv:κ→Value}{F:List (κ×Value)}{K:TypeId}(k:κ)(z:Value)(ok:Bool)(ps:List Nat)(B:Cells)(hk:PJ X.P K kv)(hm:∀s:St,Ext ⟨X.ro,[]⟩ s→(∀x∈B,s.has x.1 x.2)→agn s r kv F)(hj:J X (J7 B (NU z ok k F) o))
 (hv:du X.n (luV X.P X.n) o=some (K,.map (some r),kv k,z,ok):=by kernel_rfl)(hB:dN ps o=some B:=by kernel_rfl):J X o:=by
 refine jGN hv hB (fun s p e ho hh hf=>?_) hj
 subst ho
 unfold luV at hf
 split at hf<;>try (cases hf;done)
 rename_i T x y ok' ax
 split at hf<;>try (cases hf;done)
 rename_i K' E' _ _ _ dI
 split at hf<;>try (cases hf;done)
 rename_i te tJ
 split at hf<;>try (cases hf;done)
 rename_i m hx
 split at hf<;>try (cases hf;done)
 rename_i k' hy
 simp only[Option.some.injEq,Prod.mk.injEq] at hf
 obtain⟨rfl,rfl,rfl,rfl,rfl⟩:=hf
 obtain⟨bu,tf⟩:=ar dI
 obtain⟨Av,qo⟩:=ar tJ
 refine⟨by rw[ax];rfl,fun s0 FE uB ops i ho rest hwt s' hs todo Q jh=>lg X.hC ho rest hwt (by rw[ax];rfl) ?_ hs jh⟩
 intro s1 bV f hf K2 E2 hK
 obtain⟨es,ck,iP,BC⟩:=(hm s0 FE uB).ext bV
 simp only[execOp,ax,hf _ _ hx,hf _ _ hy,Instr.lookup,aa,aW tf]
 refine cq iP rfl rfl ?_
 simp only[ae,aa]
 refine hk.chk _ _ ?_
 simp only[aa]
 refine hk.find k _ F BC.1 ?_
 simp only[NU,lkM] at hK
 cases xo:rH k F 0 with
 |none=>
  rw[xo] at hK
  simp only[aa,jK qo,ae]
  cases ok'<;>exact hK
 |some u=>
  obtain⟨i,v⟩:=u
  rw[xo] at hK
  simp only[ae]
  cases ok'<;>exact hK
def api(p:Oper):Option Unit:=match p.op with
 | .makeMap _ none=>some ()
 |_=>none
theorem jmk(kv:κ→Value)(hj:∀r L,jH r kv [] L→J X (mH [] (.map (some r)) L o))(hv:eR X.n (fun p _=>api p) o=some ():=by kernel_rfl):J X o:=by
 obtain⟨ops,i,todo,k,e,w,kn,p,rfl,ho,hw,hc⟩:=db hv
 intro bP
 unfold api at hc
 split at hc<;>try (cases hc;done)
 rename_i T ax
 rcases p with ⟨dst,op,ty,pos,cS,g⟩
 dsimp only at ax;subst ax
 refine bJ X.hC ho hw (by simp) ?_
 simp only[execOp,Instr.makeMap,Option.map_none,aa,nJ,ae]
 intro b hb
 have:=hj b _ (jH.nil b kv)
 rw[nG ho] at this
 have:=this bP
 simp only[JP,fY,wM] at this
 show ab _ _ _ _ _ _ _ _
 rw[aU]
 exact this
def muV(P:Program)(n:Nat)(p:Oper)(e:Env):Option (TypeId×Value×Value×Value):=match p.op with
 | .mapUpdate T x y z| .insert T x y z=>match aV P T with
  |some ⟨.map K _,_,_,_⟩=>match ba n e x with
   |some m=>match ba n e y with
    |some k=>match ba n e z with
     |some v=>some (K,m,k,v)
     |none=>none
    |none=>none
   |none=>none
  |_=>none
 |_=>none
theorem DN(k:κ)(v:Value):∀(F:List (κ×Value)) (i:Nat),td k v F i=F.set i (k,v)
 | [],_=>rfl
 |_::_,0=>rfl
 |x::l,i+1=>by simp only[td,DN k v l i,List.set_cons_succ]
theorem Fi{kv:κ→Value}{k:κ}{v:Value}:∀(es:List MapEntry) (F:List (κ×Value)) (i:Nat),es.map (fun e=>(e.key,e.val))=F.map (fun x=>(kv x.1,x.2))→(es.modify i fun e=>{e with key:=kv k,val:=v}).map (fun e=>(e.key,e.val))=(td k v F i).map (fun x=>(kv x.1,x.2))
 | [],[],_,_=>by simp[td]
 | [],_::_,_,h=>by simp at h
 |_::_,[],_,h=>by simp at h
 |e::es,x::F,0,h=>by
  simp only[List.map_cons,List.cons.injEq] at h
  simp[td,h.2]
 |e::es,x::F,i+1,h=>by
  simp only[List.map_cons,List.cons.injEq] at h
  simp[td,h.1,Fi es F i h.2]
theorem vX{kx v:Value}:∀(es:List MapEntry) (i:Nat),(es.modify i fun e=>{e with key:=kx,val:=v}).map (·.born)=es.map (·.born)
 | [],i=>by simp
 |e::es,0=>by simp
 |e::es,i+1=>by simp[vX es i]
theorem jmu[DecidableEq κ]{kv:κ→Value}{F:List (κ×Value)}{K:TypeId}{L:Cells}(i:Nat)(k:κ)(v:Value)(hk:PJ X.P K kv)(hm:jH r kv F L)(hj:∀L',jH r kv (lO k v F) L'→J X (mH [i] undef L' o))
 (hv:eR X.n (muV X.P X.n) o=some (K,.map (some r),kv k,v):=by kernel_rfl)(hB:dN [i] o=some L:=by kernel_rfl):J X o:=by
 obtain⟨ops,i0,todo,kk,e,w,kn,p,rfl,ho,hw,hc⟩:=db hv
 intro bP
 rcases p with ⟨dst,op,ty,pos,cS,g⟩
 have main:∀T x y z,(op= .mapUpdate T x y z∨op= .insert T x y z)→muV X.P X.n ⟨dst,.mapUpdate T x y z,ty,pos,cS,g⟩ e=some (K,.map (some r),kv k,v)→ab X.C X.fn X.ay ops (i0::todo) (KQ X kk) (A X.n e X.D) ⟨X.ro,den w⟩:=by
  intro T x y z heq hc
  simp only[muV] at hc
  split at hc<;>try (cases hc;done)
  rename_i K' E' _ _ _ dI
  split at hc<;>try (cases hc;done)
  rename_i m hx
  split at hc<;>try (cases hc;done)
  rename_i k' hy
  split at hc<;>try (cases hc;done)
  rename_i v' hz
  simp only[Option.some.injEq,Prod.mk.injEq] at hc
  obtain⟨rfl,rfl,rfl,rfl⟩:=hc
  obtain⟨bu,tf⟩:=ar dI
  have hp:=bB hB
  obtain⟨es,ck,rfl,BC⟩:=hm
  obtain⟨L1,R1,bV⟩:=List.append_of_mem (hp.mem_iff.2 (List.mem_append_left _ List.mem_cons_self))
  have hle:∀L',jH r kv (lO k v' F) [(r,L')]→ab X.C X.fn X.ay ops todo (KQ X kk) (A X.n (upd dst undef e) X.D) ⟨X.ro,L1++(r,L')::R1⟩:=by
   intro L' hL
   have:=hj _ hL
   rw[nG ho] at this
   have:=this bP
   simp only[JP,fY] at this
   refine this.more X.hC (dH (J:=[]) ?_ (Sub.refl _))
   have hp':(den w).Perm ([(r,.map es ck)]++den (dj [i] 0 w)):=hp
   have aNy:den w=L1++(r,.map es ck)::R1:=bV
   rw[aNy] at hp'
   have PZ:=(List.perm_middle.symm.trans hp').cons_inv
   rw[List.append_nil]
   exact List.perm_middle.trans (List.Perm.cons _ PZ)
  have iP:(⟨X.ro,den w⟩:St).has r (.map es ck):= .inr (by show _∈den w;rw[show den w=_ from bV];exact e9)
  refine bJ X.hC ho hw (by rcases heq with rfl|rfl<;>simp) ?_
  have hex:∀f:Operand→Value,execOp f ⟨dst,op,ty,pos,cS,g⟩=(do Instr.mapUpdate T (f x) (f y) (f z);pure .skip:Sem Next):=by
   intro f;rcases heq with rfl|rfl<;>simp only[execOp]
  rw[hex,aC hx,aC hy,aC hz]
  simp only[Instr.mapUpdate,aa,aW tf]
  refine cq iP rfl rfl ?_
  simp only[aa]
  refine hk.chk _ _ ?_
  simp only[aa]
  refine hk.find k _ F BC.1 ?_
  have fin:∀ob,jH r kv (lO k v' F) [(r,ob)]→upon X.C X.P X.ay dst (A X.n e X.D) (fun a' s'=>ab X.C X.fn X.ay ops todo (KQ X kk) a' s') (KQ X kk) .skip ⟨X.ro,L1++(r,ob)::R1⟩:=by
   intro ob hL
   show ab _ _ _ _ _ _ _ _
   have:=hle ob hL
   rw[←aU] at this
   exact this
  cases xo:rH k F 0 with
  |some u=>
   obtain⟨j,u⟩:=u
   have P6:=p7 xo
   simp only[Nat.sub_zero] at P6
   have aOv:((es[j]?).map (·.key)).getD (kv k)=kv k:=by
    have h1:(es.toList.map (fun e=>(e.key,e.val)))[j]?=some (kv k,u):=by rw[BC.1];simp[P6.2]
    simp only[List.getElem?_map,Array.getElem?_toList] at h1
    cases he:es[j]? with
    |none=>rfl
    |some e1=>rw[he] at h1;simp at h1;simp[h1.1]
   simp only[aa,Instr.keyThatStays,aOv,hk.stay,if_true,ae]
   refine dX rfl bV rfl ?_
   refine fin _ ⟨_,_,rfl,?_,?_,?_⟩
   ·simp only[Array.toList_modify,lO,xo]
    exact Fi _ _ _ BC.1
   ·simp only[Array.toList_modify,vX];exact BC.2.1
   ·intro e1 h1
    have:e1.born∈((es.toList.modify j fun e=>{e with key:=kv k,val:=v'}).map (·.born)):=List.mem_map_of_mem (by simpa using h1)
    rw[vX] at this
    obtain⟨e2,h3,h4⟩:=List.mem_map.1 this
    rw[←h4];exact BC.2.2 e2 h3
  |none=>
   refine dX rfl bV rfl ?_
   refine fin _ ⟨_,_,rfl,?_,?_,?_⟩
   ·simp only[Array.toList_push,List.map_append,lO,xo,BC.1];rfl
   ·simp only[Array.toList_push,List.map_append,List.map_cons,List.map_nil]
    refine List.nodup_append.2 ⟨BC.2.1,by simp,?_⟩
    intro a ha b hb
    obtain⟨e2,h3,rfl⟩:=List.mem_map.1 ha
    have:=BC.2.2 e2 h3
    simp only[List.mem_singleton] at hb
    omega
   ·intro e1 h1
    simp only[Array.toList_push,List.mem_append,List.mem_singleton] at h1
    rcases h1 with h1|rfl
    ·have:=BC.2.2 e1 h1;omega
    ·exact Nat.lt_succ_self _
 have hc2:=hc
 unfold muV at hc
 split at hc<;>try (cases hc;done)
 ·rename_i T x y z ax
  dsimp only at ax
  exact main T x y z (.inl ax) (by rw[←hc2,ax])
 ·rename_i T x y z ax
  dsimp only at ax
  refine main T x y z (.inr ax) ?_
  rw[←hc2,ax];rfl
end
attribute [irreducible] luV api muV
section
variable {X:Cx} {o:Option JS}
def Jn(P:Program)(n:Nat)(p:Oper)(e:Env):Option (FuncId×List Value):=match p.op with
 | .call ⟨.invoke x name,xs,_⟩=>match ba n e x with
  |some (.iface t v)=>match bk P (method (P.types.size+Made.depth) t v name) with
   |some (f,r)=>match xq n e xs.toList with
    |some vs=>bif AR P f then some (f,r::vs) else none
    |none=>none
   |none=>none
  |_=>none
 |_=>none
theorem afW{p:Oper}(h:Jn P n p e=some (f,vs)):FF P f∧∃x name xs at_ t v r ws,p.op= .call ⟨.invoke x name,xs,at_⟩∧ba n e x=some (.iface t v)∧bk P (method (P.types.size+Made.depth) t v name)=some (f,r)∧xq n e xs.toList=some ws∧vs=r::ws:=by
 unfold Jn at h
 split at h<;>try (cases h;done)
 rename_i x name xs at_ ax
 split at h<;>try (cases h;done)
 rename_i t v hx
 split at h<;>try (cases h;done)
 rename_i f0 r hm
 split at h<;>try (cases h;done)
 rename_i ws rq
 cases hb:AR P f0 with
 |false=>rw[hb] at h;cases h
 |true=>
  rw[hb] at h
  simp only[cond_true,Option.some.injEq,Prod.mk.injEq] at h
  obtain⟨rfl,rfl⟩:=h
  exact⟨kG hb,x,name,xs,at_,t,v,r,ws,ax,hx,hm,rq,rfl⟩
theorem jpI{V:Value}(hf:∀aA,Sub X.ro aA→dz X.P f vs aA V)(hj:J X (J7 [] V o))(h1:du X.n (Jn X.P X.n) o=some (f,vs):=by kernel_rfl)(h3:dN [] o=some []:=by kernel_rfl):J X o:=by
 refine jGN h1 h3 (fun s p e ho hh hc=>?_) hj
 obtain⟨ff,x,name,xs,at_,t,v,r,ws,ax,hx,hm,rq,rfl⟩:=afW hc
 rcases p with ⟨dst,op,ty,pos,cS,g⟩
 dsimp only at ax;subst ax
 refine⟨rfl,fun s0 FE uB ops i su rest hw s' hs todo Q hk=>?_⟩
 refine bJ X.hC su hw (by simp) ?_
 have e1:=aC (aY (rest:=rest) hx)
 have e2:xs.map (ev X.n (e++rest))=⟨ws⟩:=rF (wK rq)
 simp only[execOp,resolve,e1,e2,ae]
 have hex:((#[Value.iface t v]++(⟨ws⟩:Array Value)).extract 1 (#[Value.iface t v]++(⟨ws⟩:Array Value)).size)=⟨ws⟩:=by simp
 have h0:(#[Value.iface t v]++(⟨ws⟩:Array Value))[0]?=some (.iface t v):=by simp
 simp only[invoke,h0,hex,callMethod,aa,eI]
 refine aT hm ?_
 have mj:(#[r]++⟨ws⟩:Array Value)=⟨r::ws⟩:=by simp
 rw[mj]
 refine jL ff ?_
 have hu:=(dz.use (s:=⟨X.ro,[]⟩) (sz:=s') (fun b o hb=>hs _ _ (FE _ _ hb)) (fun aA h1=>hf aA fun b ob hb=>h1 b ob (.inl hb))).weaken X.hC
 refine Fn.mono hu fun en s1 Cs=>?_
 obtain⟨rfl,hle⟩:=Cs
 show ab _ _ _ _ _ _ _ _
 rw[aU]
 exact hk.more X.hC hle
theorem jS{β:Type}{f:Oper→Env→Option β}{r:β}(ps:List Nat)(B:Cells)(hv:eR X.n f o=some r)(hB:dN ps o=some B)
 (hy:∀p e,f p e=some r→(∀c,p.op≠ .defer c)∧∀(R:Cells) (Q:Next→St→Prop) (E:Halt→St→Prop),(∀v L',Φ v L'→Q (.value v) ⟨X.ro,L'++R⟩)→bG X.P (execOp (ev X.n e) p) ⟨X.ro,B++R⟩ Q E)
 (hj:∀v L',Φ v L'→J X (mH ps v L' o)):J X o:=by
 obtain⟨ops,i,todo,k,e,w,kn,p,rfl,ho,hw,hc⟩:=db hv
 intro bP
 have hp:=bB hB
 obtain⟨hd,ht⟩:=hy p e hc
 have:ab X.C X.fn X.ay ops (i::todo) (KQ X k) (A X.n e X.D) ⟨X.ro,B++den (dj ps 0 w)⟩:=by
  refine bJ X.hC ho hw hd ?_
  refine ht _ _ _ fun v L' pR=>?_
  have:=hj v L' pR
  rw[nG ho] at this
  have:=this bP
  simp only[JP,fY] at this
  show ab _ _ _ _ _ _ _ _
  rw[aU]
  exact this
 have hle:(⟨X.ro,B++den (dj ps 0 w)⟩:St).le ⟨X.ro,den w⟩:=⟨[],by rw[List.append_nil];exact hp,fun b o hb=> .inl hb⟩
 exact this.more X.hC hle
end
attribute [irreducible] Jn
section
variable {X:Cx} {o:Option JS}
def iaA(P:Program)(n:Nat)(p:Oper)(e:Env):Option (Nat×Nat×Int×Nat×Nat):=match p.op with
 | .indexAddr T x y=>match aV P T with
  |some ⟨.array len E,_,_,_⟩=>match aV P E with
   |some te=>match ba n e x with
    |some (.pointer (some ⟨b,off,none⟩))=>match ba n e y with
     |some (.int _ ix)=>some (b,off,ix,len,te.size)
     |_=>none
    |_=>none
   |none=>none
  |_=>none
 |_=>none
theorem IS{len:Nat}(ix:Int)(hi:0≤ix∧ix <len)(hj:J X (jN (.pointer (some ⟨b,off+ix.toNat*sz,none⟩)) o))(hv:du X.n (iaA X.P X.n) o=some (b,off,ix,len,sz):=by kernel_rfl):J X o:=by
 refine jG hv (fun s p e ho hh hf=>?_) hj
 unfold iaA at hf
 split at hf<;>try (cases hf;done)
 rename_i T x y ax
 split at hf<;>try (cases hf;done)
 rename_i ax0 E _ _ _ dI
 split at hf<;>try (cases hf;done)
 rename_i te tJ
 split at hf<;>try (cases hf;done)
 rename_i b' ao4 hx
 split at hf<;>try (cases hf;done)
 rename_i ik ix' hy
 simp only[Option.some.injEq,Prod.mk.injEq] at hf
 obtain⟨rfl,rfl,rfl,rfl,rfl⟩:=hf
 obtain⟨bu,tf⟩:=ar dI
 obtain⟨Av,qo⟩:=ar tJ
 have key:∀s,Yields X.P X.n e p s (.pointer (some ⟨b',ao4+ix'.toNat*te.size,none⟩)):=by
  intro s s' mG f hf K E hK
  simp only[execOp,ax,Instr.indexAt,Instr.sureAddr,hf _ _ hx,hf _ _ hy,asIntOf,aa,ae,aW tf,hi,and_self,if_true,bW qo,dG]
  exact hK
 exact⟨by rw[ax];rfl,fun _=>key _,fun _=>key⟩
def saV(P:Program)(n:Nat)(p:Oper)(e:Env):Option (Nat×Nat×Int×Nat):=match p.op with
 | .slice T x none (some z) none=>match aV P T with
  |some ⟨.array len E,_,_,_⟩=>match aV P E with
   |some _=>match ba n e x with
    |some (.pointer (some ⟨b,off,none⟩))=>match ba n e z with
     |some (.int _ ix)=>some (b,off,ix,len)
     |_=>none
    |_=>none
   |none=>none
  |_=>none
 |_=>none
theorem jah{len:Nat}(hi:Int)(hl:0≤hi∧hi≤len)(hj:J X (jN (.slice (some ⟨b,off,none⟩) hi.toNat len) o))(hv:du X.n (saV X.P X.n) o=some (b,off,hi,len):=by kernel_rfl):J X o:=by
 refine jG hv (fun s p e ho hh hf=>?_) hj
 unfold saV at hf
 split at hf<;>try (cases hf;done)
 rename_i T x z ax
 split at hf<;>try (cases hf;done)
 rename_i ax0 E _ _ _ dI
 split at hf<;>try (cases hf;done)
 rename_i te tJ
 split at hf<;>try (cases hf;done)
 rename_i b' ao4 hx
 split at hf<;>try (cases hf;done)
 rename_i ik ix' hy
 simp only[Option.some.injEq,Prod.mk.injEq] at hf
 obtain⟨rfl,rfl,rfl,rfl⟩:=hf
 obtain⟨bu,tf⟩:=ar dI
 obtain⟨Av,qo⟩:=ar tJ
 have key:∀s,Yields X.P X.n e p s (.slice (some ⟨b',ao4,none⟩) ix'.toNat ax0):=by
  intro s s' mG f hf K E hK
  simp only[execOp,ax,Option.map_some,Option.map_none,Instr.sliceAt,Instr.sliceBounds,Instr.sliceBound,Instr.sureAddr,hf _ _ hx,hf _ _ hy,asIntOf,aa,ae,aW tf,Option.isSome_none,Bool.false_eq_true,if_false,hl,and_self,if_true,bW qo,Nat.zero_mul,dG,Nat.add_zero,ite_self,Nat.sub_zero]
  exact hK
 exact⟨by rw[ax];rfl,fun _=>key _,fun _=>key⟩
end
theorem rY{t:TypeId}{fz:Nat×Nat}{v:Value}(h:s.has b (.cells ⟨l⟩ t fz))(hv:nth l off=some v):cg s b off 1 [v]:=
 ⟨_,_,_,h,by rw[rj] at hv;simp[iv (show off+1≤l.length by have:=(List.getElem?_eq_some_iff.1 hv).1;omega),List.drop_eq_getElem_cons (List.getElem?_eq_some_iff.1 hv).1,(List.getElem?_eq_some_iff.1 hv).2]⟩
theorem aay{o m:Nat}{v:Value}(h:cg s b o m l)(hv:nth l off=some v):cg s b (o+off) 1 [v]:=
 h.part off 1 (by rw[rj] at hv;simp[iv (show off+1≤l.length by have:=(List.getElem?_eq_some_iff.1 hv).1;omega),List.drop_eq_getElem_cons (List.getElem?_eq_some_iff.1 hv).1,(List.getElem?_eq_some_iff.1 hv).2])
end Go.L
