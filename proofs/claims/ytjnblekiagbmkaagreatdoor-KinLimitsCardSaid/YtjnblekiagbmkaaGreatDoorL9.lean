/- Part 9 of the proof: a program logic, contracts, a theorem on goroutines. -/
import Derived.Test.YtjnblekiagbmkaaGreatDoorL8
set_option maxRecDepth 100000
set_option linter.all false
namespace Go.L
open Go Go.Conc
variable {R:Ending→St→Prop} {Φ:Value→Cells→Prop} {P:Program} {El:(Nat→Option Obj)→Nat→List Value→Cells→Prop} {κ ι α:Type} {f:FuncId} {vs z l fi ca:List Value} {s s':St} {T:TypeId} {tm:Array Value} {todo ui:List Nat} {o1:Option JS} {sz bu off r i bl n p b dep N:Nat} {rest e:Env} {C:Class} {as bd:Code} {X:Cx} {ag main:Bool} {cs:List Frame} {fr:Cells}
section
variable {X:Cx} {o:Option JS}
def nxV(n:Nat)(p:Oper)(e:Env):Option Nat:=match p.op with
 | .next x true=>match a8 n e x with
  |some (.pointer (some ⟨r,0,none⟩))=>some r
  |_=>none
 |_=>none
theorem abA{p:Oper}(h:nxV n p e=some r):∃x,p.op= .next x true∧a8 n e x=some (.pointer (some ⟨r,0,none⟩)):=by
 unfold nxV at h
 split at h<;>try (cases h;done)
 rename_i aw
 split at h<;>try (cases h;done)
 rename_i hx
 cases h
 exact⟨_,aw,hx⟩
def QV(i:Nat)(v:Value)(b:Nat)(ob:Obj):Option JS→Option JS
 |some ⟨.ops ops (j::todo) k,e,w,kn⟩=>match ops[j]? with
  |some p=>some ⟨.ops ops todo k,upd p.dst v e,.b b ob::dA [i] 0 w,kn⟩
  |none=>none
 |_=>none
theorem jnA{b:ByteArray}{c:UInt8}(r i:Nat)(hp:b.data.toList[p]?=some c) (ha:c.toNat <128) (hj:J X (QV i (.tuple ⟨[.bool true,.int .i64 p,.int .i32 c.toNat]⟩) r (.stringIter b (p+1)) o))
 (hv:e9 X.n (nxV X.n) o=some r:=by kernel_rfl) (hB:dY [i] o=some [(r,.stringIter b p)]:=by kernel_rfl):J X o:=by
 obtain⟨ops,i0,todo,kk,ev,w0,kn,q,rfl,ho,hw,hc⟩:=dc hv
 obtain⟨x,aw,hx⟩:=abA hc
 intro bO
 rcases q with ⟨dst,op,ty,pos,cT,g⟩
 dsimp only at aw;subst aw
 refine vv X.hC (bB hB) (aiQ X.hC ho hw hx hp ha ?_)
 simp only[QV,ho] at hj
 have:=hj bO
 simp only[JP,iJ] at this
 exact this
theorem jnZ{b:ByteArray}(r i:Nat)(hp:b.data.toList[p]?=none) (hj:J X (QV i (.tuple ⟨[.bool false]⟩) r (.stringIter b p) o))
 (hv:e9 X.n (nxV X.n) o=some r:=by kernel_rfl) (hB:dY [i] o=some [(r,.stringIter b p)]:=by kernel_rfl):J X o:=by
 obtain⟨ops,i0,todo,kk,ev,w0,kn,q,rfl,ho,hw,hc⟩:=dc hv
 obtain⟨x,aw,hx⟩:=abA hc
 intro bO
 rcases q with ⟨dst,op,ty,pos,cT,g⟩
 dsimp only at aw;subst aw
 refine vv X.hC (bB hB) (aiP X.hC ho hw hx hp ?_)
 simp only[QV,ho] at hj
 have:=hj bO
 simp only[JP,iJ] at this
 exact this
theorem jcG{own:Cells}{Φ:Value→(Nat→Option Obj)→Cells→Prop}(ps:List Nat)(hf:FnG X.P f vs X.ro own Φ)(hj:∀v aL Y,Sub X.ro aL→Φ v aL Y→J (X.at aL) (mZ ps v Y o))(h1:e9 X.n (xU X.P X.n) o=some (f,vs):=by kernel_rfl)(h2:dY ps o=some own:=by kernel_rfl):J X o:=by
 obtain⟨ops,i,todo,k,e,w,kn,p,rfl,ho,hw,hc⟩:=dc h1
 obtain⟨ff,x,xs,at_,fi,ca,ws,aw,hx,rJ,rfl⟩:=qo hc
 intro bO
 rcases p with ⟨dst,op,ty,pos,cT,g⟩
 dsimp only at aw;subst aw
 have hp:=bB h2
 refine tR (fi:=⟨fi⟩) (ca:=⟨ca⟩) (ws:=fi++ws++ca) X.hC ho hw hx ff rJ (PS fi ws ca) (Fn.weaken X.hC (FnG.use (s:=⟨X.ro,den w⟩) hp hf)) (fun v' s' hr=>?_) (fun ch s' hr=>by obtain⟨_,_,_,e,_⟩:=hr;cases e) (fun s' hr=>by obtain⟨_,_,_,e,_⟩:=hr;cases e)
 obtain⟨v,aL,Y,hv,hs,p6,hle⟩:=hr
 cases hv
 have:=hj _ aL Y hs p6
 rw[nW ho] at this
 have:=this (bO.up hs)
 simp only[JP,gI,GY] at this
 exact this.more X.hC hle
def afx(n:Nat)(p:Oper)(e:Env):Option (FuncId×List Value):=match p.op with
 | .call ⟨.value (.func f),xs,_⟩=>match xD n e xs.toList with
  |some vs=>some (f,vs)
  |none=>none
 |_=>none
theorem Lr{p:Oper}(h:afx n p e=some (f,vs)):∃xs at_,p.op= .call ⟨.value (.func f),xs,at_⟩∧xD n e xs.toList=some vs:=by
 unfold afx at h
 split at h<;>try (cases h;done)
 rename_i aw
 split at h<;>try (cases h;done)
 rename_i hx
 cases h
 exact⟨_,_,aw,hx⟩
theorem jib{a:ByteArray}{b:Int}(ef:EF X.P f Extern.BytealgIndexByte.indexByte)(hj:J X (ko (.int .i64 (Oj a b.toNat.toUInt8)) o))(hv:dF X.n (afx X.n) o=some (f,[.string a,.int .u8 b]):=by kernel_rfl):J X o:=by
 refine jGS hv (fun s p e _ hf=>?_) hj
 obtain⟨xs,at_,aw,hx⟩:=Lr hf
 rcases p with ⟨dst,op,ty,pos,cT,g⟩
 dsimp only at aw;subst aw
 exact⟨fun ops i sP rest hw s' hs todo Q hk=>abv X.hC sP hw ef (wZ hx) hk,fun hk=>by cases hk⟩
theorem aNd{v:Value}(ef:EF X.P f Extern.AbiNoEscape.same)(hj:J X (ko v o))(hv:dF X.n (afx X.n) o=some (f,[v]):=by kernel_rfl):J X o:=by
 refine jGS hv (fun s p e _ hf=>?_) hj
 obtain⟨xs,at_,aw,hx⟩:=Lr hf
 rcases p with ⟨dst,op,ty,pos,cT,g⟩
 dsimp only at aw;subst aw
 exact⟨fun ops i sP rest hw s' hs todo Q hk=>aiO X.hC sP hw ef (wZ hx) hk,fun hk=>by cases hk⟩
def mmV(n:Nat)(p:Oper)(e:Env):Option (Bool×Value×Value):=match p.op with
 | .call ⟨.builtin .min,⟨[x,y]⟩,⟨[_,_]⟩⟩=>match a8 n e x with
  |some v=>match a8 n e y with
   |some w=>some (true,v,w)
   |none=>none
  |none=>none
 | .call ⟨.builtin .max,⟨[x,y]⟩,⟨[_,_]⟩⟩=>match a8 n e x with
  |some v=>match a8 n e y with
   |some w=>some (false,v,w)
   |none=>none
  |none=>none
 |_=>none
theorem jmn{k:IntKind}{a b:Int}(hj:J X (ko (.int k (min a b)) o))(hv:dF X.n (mmV X.n) o=some (true,.int k a,.int k b):=by kernel_rfl):J X o:=by
 refine P8 hv (fun s p e _ hf=>?_) hj
 unfold mmV at hf
 split at hf<;>try (cases hf;done)
 ·rename_i aw
  split at hf<;>try (cases hf;done)
  rename_i hx
  split at hf<;>try (cases hf;done)
  rename_i hy
  cases hf
  rcases p with ⟨dst,op,ty,pos,cT,g⟩
  dsimp only at aw;subst aw
  exact fun s0 ops i sP rest hw s' hs todo Q hk=>apD X.hC sP hw (aY hx) (aY hy) hk
 ·split at hf<;>try (cases hf;done)
  split at hf<;>cases hf
theorem jmx{k:IntKind}{a b:Int}(hj:J X (ko (.int k (max a b)) o))(hv:dF X.n (mmV X.n) o=some (false,.int k a,.int k b):=by kernel_rfl):J X o:=by
 refine P8 hv (fun s p e _ hf=>?_) hj
 unfold mmV at hf
 split at hf<;>try (cases hf;done)
 ·split at hf<;>try (cases hf;done)
  split at hf<;>cases hf
 ·rename_i aw
  split at hf<;>try (cases hf;done)
  rename_i hx
  split at hf<;>try (cases hf;done)
  rename_i hy
  cases hf
  rcases p with ⟨dst,op,ty,pos,cT,g⟩
  dsimp only at aw;subst aw
  exact fun s0 ops i sP rest hw s' hs todo Q hk=>apE X.hC sP hw (aY hx) (aY hy) hk
theorem xH(i b off:Nat)(c l:List Value)(t:TypeId)(h1:∀v∈l,single v=true)(hb:Nat.ble (off+l.length) c.length=true)(hj:J X (QV i undef b (.cells ⟨dz c off l⟩ t (0,0)) o))(hv:e9 X.n (aic X.P X.n) o=some (⟨b,off,none⟩,l,l.length):=by kernel_rfl)(h2:dY [i] o=some [(b,.cells ⟨c⟩ t (0,0))]:=by kernel_rfl):J X o:=by
 obtain⟨ops,i0,todo,kk,ev,w,kn,p,rfl,ho,hw,hc⟩:=dc hv
 obtain⟨T,x,y,d,bu,z,ag,u,aw,tf,hx,hy,hu⟩:=T9 hc
 intro bO
 rcases p with ⟨dst,op,ty,pos,cT,g⟩
 dsimp only at aw;subst aw
 refine vv X.hC (bB h2) ?_
 refine ost X.hC ho hw tf hx hy hu rfl h1 (Nat.le_of_ble_eq_true hb) ?_
 simp only[QV,ho] at hj
 have:=hj bO
 simp only[JP,iJ] at this
 exact this
def aiV(P:Program)(n:Nat)(p:Oper)(e:Env):Option (List Value×Int×Nat×Nat×Bool):=match p.op with
 | .index T x y=>match aV P T with
  |some ⟨.array len E,_,_,_⟩=>match aV P E with
   |some te=>match a8 n e x with
    |some (.agg ⟨l⟩)=>match a8 n e y with
     |some (.int _ ix)=>some (l,ix,len,te.size,te.agg)
     |_=>none
    |_=>none
   |none=>none
  |_=>none
 |_=>none
theorem jai{v:Value}(ix:Int)(len sz:Nat)(ag:Bool)(hi:0≤ix∧ix <len)(hp:NF ag l (ix.toNat*sz) sz=some v)(hj:J X (ko v o))(hv:dF X.n (aiV X.P X.n) o=some (l,ix,len,sz,ag):=by kernel_rfl):J X o:=by
 refine P8 hv (fun s p e _ hf=>?_) hj
 unfold aiV at hf
 split at hf<;>try (cases hf;done)
 rename_i aw
 split at hf<;>try (cases hf;done)
 rename_i dQ
 split at hf<;>try (cases hf;done)
 rename_i te tW
 split at hf<;>try (cases hf;done)
 rename_i hx
 split at hf<;>try (cases hf;done)
 rename_i hy
 cases hf
 obtain⟨b1,tf⟩:=an dQ
 obtain⟨b2,qz⟩:=an tW
 rcases p with ⟨dst,op,ty,pos,cT,g⟩
 dsimp only at aw;subst aw
 exact fun s0 ops i sP rest hw s' hs todo Q hk=>abw X.hC sP hw tf qz (aY hx) (aY hy) hi hp hk
def Ar(m:Nat)(e:Env):Option JS→Option JS
 |some ⟨.ops ops todo k,_,w,kn⟩=>some ⟨.ops ops (todo.drop m) k,e,w,kn⟩
 |_=>none
theorem jj(m:Nat)(e:Env)(hj:∀rest,J X (Ar m (e++rest) o))(h:(∀o',Ar 0 [] o'=Ar m [] o→uz (oU e) o'=some e→J X o')→J X o)(hd:Y1 (oU e) e=some e:=by kernel_rfl):J X o:=by
 refine h fun o' h1 h2=>?_
 cases o' with
 |none=>simp[uz] at h2
 |some s'=>
  rcases s' with ⟨p',e',w',kn'⟩
  cases o with
  |none=>exact(hj []).elim
  |some s=>
   rcases s with ⟨p,e0,w,kn⟩
   cases p' with
   |ops ba3 Z0 k'=>
    cases p with
    |ops ops todo k=>
     simp only[Ar,Option.some.injEq,JS.mk.injEq,Pos.ops.injEq,List.drop_zero,true_and] at h1
     obtain⟨⟨rfl,rfl,rfl⟩,rfl,rfl⟩:=h1
     rw[sM] at h2
     obtain⟨r,hr⟩:=gx (n:=X.n) (D:=X.D) (kJ h2) (kJ hd)
     intro bO
     have:=hj r bO
     show ab _ _ _ _ _ _ (A X.n e' X.D) _
     rw[hr]
     exact this
    |_=>simp[Ar] at h1
   |_=>cases p<;>simp[Ar] at h1<;>exact(hj []).elim
end
attribute [irreducible] Ar QV
section
variable {X:Cx} {o:Option JS}
def apW(i:Nat)(rest:Env)(todo:List Nat):Option JS→Option JS
 |some ⟨.Gq ops base Pl _ k,_,w,kn⟩=>some ⟨.ops ops (i::todo) k,bX ops base i Pl++rest,w,kn⟩
 |_=>none
def LK(X:Cx)(i:Nat)(o:Option JS)(rest:Env)(todo:List Nat):Prop:=match o with
 |some ⟨.Gq ops base Pl Sl k,_,w,kn⟩=>∀v s',(∀j u,(j,u)∈pending ops i Sl→sD ops X.n base Pl j=false→(∀B,(j,B)∈kn.nd→Ext ⟨X.ro,[]⟩ s'→(∀x∈B,s'.has x.1 x.2)→eS X.C X.fn X.ax ops X.n X.D j u (bX ops base j Pl) s')→eS X.C X.fn X.ax ops X.n X.D j u (bX ops base j Pl) ⟨X.ro,den w⟩→eS X.C X.fn X.ax ops X.n X.D j u (bX ops base j Pl) s')→
  (PF X kn.nd ops base ((i,v)::Pl) (pending ops i Sl)→th X.C X.fn X.ax ops X.n X.D base ((i,v)::Pl) (pending ops i Sl) (KQ X k) s')→ab X.C X.fn X.ax ops todo (KQ X k) (A X.n (upd (aO ops i) v (bX ops base i Pl++rest)) X.D) s'
 |_=>True
def UR(is:List Nat):Option JS→Bool
 |some ⟨.Gq ops _ Pl Sl _,_,_,_⟩=>fQ ops&&((is.all fun i=>Nat.blt i ops.size&& !aX i (ai Pl))&&(nodupB (ai Pl)&&(oL ops (ai Pl)&&(fR (ai Sl) (ai Pl)&&(abo ops (ai Pl) is&& !is.isEmpty)))))
 |_=>false
def agF(X:Cx)(o:Option JS):List Nat→Prop
 | []=>True
 |i::is=>(∀rest todo,LK X i o rest todo→J X (apW i rest todo o))∧agF X o is
theorem lD(is:List Nat)(h:agF X o is)(hb:UR is o=true:=by kernel_rfl):J X o:=by
 unfold UR at hb
 split at hb<;>try (cases hb;done)
 rename_i ops base Pl Sl k e w kn
 simp only[Bool.and_eq_true,Bool.not_eq_true'] at hb
 obtain⟨h1,h2,h3,h4,h5,h6,h7⟩:=hb
 intro bO hpf
 refine YH is h1 h2 h3 h4 h5 h6 ?_ h7
 clear h6 h7
 induction is with
 |nil=>trivial
 |cons i is ih=>
  simp only[List.all_cons,Bool.and_eq_true,Bool.not_eq_true'] at h2
  refine⟨fun rest todo hk=>h.1 rest todo (fun v s' hp ha=>?_) bO,ih h.2 h2.2⟩
  have iX:∀x,x∈pending ops i Sl→x∈Sl:=fun x hx=>(List.mem_filter.1 hx).1
  refine hk v s' (fun j u G8 bM=>?_) (ha ⟨fun j u G8 XN s0=>?_,fun j u B G8 hB s0 FD uQ=>?_⟩)
  ·cases XN:sD ops X.n base Pl j with
   |true=>exact hpf.1 j u (iX _ G8) XN s'
   |false=>exact hp j u G8 XN (fun B hB hx hb=>hpf.2 j u B (iX _ G8) hB s' hx hb) bM
  ·have MA:j∈ai Sl:=aN.2 ⟨u,iX _ G8⟩
   have qy:i∉ba ops j:=fun hd=>by
    have h8:=bE.1 h5 j MA
    have h9:=bE.1 (List.all_eq_true.1 h4 j h8) i hd
    rw[aG.2 h9] at h2;exact absurd h2.1.2 (by simp)
   rw[cJ qy]
   exact hpf.1 j u (iX _ G8) (by simp only[sD,cJ qy] at XN;exact XN) s0
  ·have MA:j∈ai Sl:=aN.2 ⟨u,iX _ G8⟩
   have qy:i∉ba ops j:=fun hd=>by
    have h8:=bE.1 h5 j MA
    have h9:=bE.1 (List.all_eq_true.1 h4 j h8) i hd
    rw[aG.2 h9] at h2;exact absurd h2.1.2 (by simp)
   rw[cJ qy]
   exact hpf.2 j u B (iX _ G8) hB s0 FD uQ
theorem aH(i:Nat)(h:∀rest todo,LK X i o rest todo→J X (apW i rest todo o))(hb:UR [i] o=true:=by kernel_rfl):J X o:=lD [i] ⟨h,trivial⟩ hb
def To(i:Nat):Option JS→Option JS→Option JS
 |some ⟨.Gq ops base Pl Sl k,e,_,kn⟩,some ⟨.ops _ _ _,e',w',kn'⟩=>some ⟨.Gq ops base ((i,match aO ops i with
  |some d=>(ib e' d).getD undef
  |none=>undef)::Pl) (pending ops i Sl) k,e,w',⟨kn'.c,kn.nd⟩⟩
 |_,_=>none
def bkL(i:Nat)(rest:Env)(todo:List Nat):Option JS→Option JS→Option JS
 |some ⟨.Gq ops base Pl _ k,_,_,_⟩,some ⟨_,e',w',kn'⟩=>some ⟨.ops ops todo k,upd (aO ops i) (match aO ops i with
  |some d=>(ib e' d).getD undef
  |none=>undef) (bX ops base i Pl++rest),w',kn'⟩
 |_,_=>none
theorem Tk{o:Option JS}(h:bkL i rest todo o o1=o1)(h1:o1≠none):∃ops base Pl Sl k e w kn v w' kn',o=some ⟨.Gq ops base Pl Sl k,e,w,kn⟩∧o1=some ⟨.ops ops todo k,upd (aO ops i) v (bX ops base i Pl++rest),w',kn'⟩:=by
 unfold bkL at h
 split at h
 ·simp only[Option.some.injEq,JS.mk.injEq] at h
  obtain⟨rfl,h,_⟩:=h
  exact⟨_,_,_,_,_,_,_,_,_,_,_,rfl,by rw[h]⟩
 ·exact(h1 h.symm).elim
def rwO:Option JS→List Sg
 |some s=>s.rw
 |none=>[]
theorem bw(hK:LK X i o rest todo)(is:List Nat)(hj:J X (To i o o1))(hc:bkL i rest todo o o1=o1:=by kernel_rfl)(h2:qP is o1=some (rwO o):=by kernel_rfl):J X o1:=by
 by_cases ee:o1=none
 ·subst ee
  cases o with
  |none=>exact hj
  |some s=>rcases s with ⟨p,e,w,kn⟩;cases p<;>exact hj
 obtain⟨ku,base,Pl,Sl,k,e,w,kn,v,w',kn',rfl,rfl⟩:=Tk hc ee
 intro bO
 have hp:=lM h2
 have hv:(match aO ku i with
  |some d=>(ib (upd (aO ku i) v (bX ku base i Pl++rest)) d).getD undef
  |none=>undef)=v∨aO ku i=none:=by
  cases hd:aO ku i with
  |none=>exact .inr rfl
  |some d=>left;simp[upd,ib]
 have hj:=hj bO
 simp only[To,JP] at hj
 have key:=hK (match aO ku i with
  |some d=>(ib (upd (aO ku i) v (bX ku base i Pl++rest)) d).getD undef
  |none=>undef) ⟨X.ro,den w'⟩ (fun j u _ _ _ hs=>hs.ext fun b ob hb=>?_) hj
 ·show ab _ _ _ _ _ _ _ _
  rcases hv with hv|hv
  ·rw[hv] at key;exact key
  ·rw[hv] at key ⊢;exact key
 ·rcases hb with hb|hb
  ·exact .inl hb
  ·exact .inr (hp.mem_iff.2 (List.mem_append_left _ hb))
def abc(i:Nat):Option JS→Bool
 |some ⟨.Gq ops _ _ Sl _,_,_,_⟩=>(pending ops i Sl).isEmpty
 |_=>false
theorem cM(hK:LK X i o rest todo)(hj:J X (To i o o1))(hc:bkL i rest todo o o1=o1:=by kernel_rfl)(h2:abc i o=true:=by kernel_rfl):J X o1:=by
 by_cases ee:o1=none
 ·subst ee
  cases o with
  |none=>exact hj
  |some s=>rcases s with ⟨p,e,w,kn⟩;cases p<;>exact hj
 obtain⟨ku,base,Pl,Sl,k,e,w,kn,v,w',kn',rfl,rfl⟩:=Tk hc ee
 intro bO
 have hv:(match aO ku i with
  |some d=>(ib (upd (aO ku i) v (bX ku base i Pl++rest)) d).getD undef
  |none=>undef)=v∨aO ku i=none:=by
  cases hd:aO ku i with
  |none=>exact .inr rfl
  |some d=>left;simp[upd,ib]
 have hj:=hj bO
 simp only[To,JP] at hj
 have hpe:pending ku i Sl=[]:=by simpa [abc] using h2
 have key:=hK (match aO ku i with
  |some d=>(ib (upd (aO ku i) v (bX ku base i Pl++rest)) d).getD undef
  |none=>undef) ⟨X.ro,den w'⟩ (fun j u G8=>by rw[hpe] at G8;cases G8) hj
 show ab _ _ _ _ _ _ _ _
 rcases hv with hv|hv
 ·rw[hv] at key;exact key
 ·rw[hv] at key ⊢;exact key
def ndG:List (Nat×Cells)→Nat→Option Cells
 | [],_=>none
 | (i,B)::l,j=>bif Nat.beq i j then some B else ndG l j
theorem UF{j:Nat}{B:Cells}:∀ {l:List (Nat×Cells)},ndG l j=some B→(j,B)∈l
 | (i,C)::l,h=>by
  simp only[ndG] at h
  cases hb:Nat.beq i j with
  |true=>
   rw[hb] at h;simp only[cond_true,Option.some.injEq] at h;subst h
   have:=Nat.eq_of_beq_eq_true hb;subst this
   exact List.mem_cons_self
  |false=>rw[hb] at h;simp only[cond_false] at h;exact List.mem_cons_of_mem _ (UF h)
structure Rk where
 a:List Value
 b:List Value
 c:List (Option Cells)
 d:List (Option Cells)
def aEB(ps:List Nat)(w:List Sg):Option Cells:=bif E7 ps then (match NB ps w with
 |some x=>some (den x)
 |none=>none) else none
def rkL(P:Program)(n:Nat)(ops:Array Oper)(base:Env)(Pl:List (Nat×Value))(nd:List (Nat×Cells))(w:List Sg)(kn:Cells):List (List Nat)→List (Nat×Value)→Option Rk
 |_,[]=>some ⟨[],[],[],[]⟩
 |hs,(j,u)::r=>bif sD ops n base Pl j then rkL P n ops base Pl nd w kn hs r else (match hs with
  |h::hs=>match ndG nd j with
   |some B=>match rkL P n ops base Pl nd w kn hs r with
    |some ⟨a,b,c,d⟩=>some ⟨a,b,aEB h w::c,some B::d⟩
    |none=>none
   |none=>match ops[j]? with
    |some p=>match vW ops n (bX ops base j Pl) p.guard with
     |some true=>match p.op with
      | .load T x=>match a8 n (bX ops base j Pl) x with
       |some (.pointer (some ⟨b,off,none⟩))=>match Aw w kn (h.headD 0) with
        |some (b',l)=>match ldv P T l off with
         |some v=>match rkL P n ops base Pl nd w kn hs r with
          |some ⟨a1,b1,c,d⟩=>some ⟨v:: .int .i64 b'::a1,u:: .int .i64 b::b1,c,d⟩
          |none=>none
         |none=>none
        |none=>none
       |_=>none
      |_=>none
     |_=>none
    |none=>none
  | []=>none)
theorem JQ{ops:Array Oper}{base:Env}{Pl:List (Nat×Value)}{nd:List (Nat×Cells)}{w:List Sg}{kn:Cells}(bO:Knows X.ro kn):∀ {l:List (Nat×Value)} {hs:List (List Nat)} {k:Rk},rkL X.P X.n ops base Pl nd w kn hs l=some k→k.a=k.b→k.c=k.d→∀j u,(j,u)∈l→sD ops X.n base Pl j=false→
 (∀B,(j,B)∈nd→Ext ⟨X.ro,[]⟩ ⟨X.ro,den w⟩→(∀x∈B,(⟨X.ro,den w⟩:St).has x.1 x.2)→eS X.C X.fn X.ax ops X.n X.D j u (bX ops base j Pl) ⟨X.ro,den w⟩)→eS X.C X.fn X.ax ops X.n X.D j u (bX ops base j Pl) ⟨X.ro,den w⟩
 | [],_,_,_,_,_,j,u,h,_,_=>by cases h
 | (j0,u0)::r,hs,k,h,Eb,hcd,j,u,hm,hpj,ma=>by
  simp only[rkL] at h
  cases XN:sD ops X.n base Pl j0 with
  |true=>
   rw[XN] at h;simp only[cond_true] at h
   rcases List.mem_cons.1 hm with h1|h1
   ·cases h1;rw[XN] at hpj;cases hpj
   ·exact JQ bO h Eb hcd j u h1 hpj ma
  |false=>
   rw[XN] at h;simp only[cond_false] at h
   split at h<;>try (cases h;done)
   rename_i h0 bW
   split at h
   ·rename_i B hB
    split at h<;>try (cases h;done)
    rename_i a b c d hr
    cases h
    simp only[List.cons.injEq] at hcd
    rcases List.mem_cons.1 hm with h1|h1
    ·cases h1
     refine ma B (UF hB) Lq fun x hx=> .inr ?_
     have hw:=hcd.1
     unfold aEB at hw
     cases ho:E7 h0 with
     |false=>rw[ho] at hw;cases hw
     |true=>
      rw[ho] at hw;simp only[cond_true] at hw
      split at hw<;>try (cases hw;done)
      rename_i y hy
      simp only[Option.some.injEq] at hw;subst hw
      exact(wR hy ho).mem_iff.2 (List.mem_append_left _ hx)
    ·exact JQ bO hr Eb hcd.2 j u h1 hpj ma
   ·split at h<;>try (cases h;done)
    rename_i p hp
    have Dr:aO ops j0=p.dst:=by simp only[aO,hp,Option.bind_some]
    split at h<;>try (cases h;done)
    rename_i hg
    split at h<;>try (cases h;done)
    rename_i T x aw
    split at h<;>try (cases h;done)
    rename_i b0 off hx
    split at h<;>try (cases h;done)
    rename_i b' l hc
    split at h<;>try (cases h;done)
    rename_i v hv
    split at h<;>try (cases h;done)
    rename_i a1 b1 c d hr
    cases h
    simp only[List.cons.injEq,Value.int.injEq,true_and] at Eb
    obtain⟨rfl,hb,Eb⟩:=Eb
    have hb:b'=b0:=by omega
    subst hb
    rcases List.mem_cons.1 hm with h1|h1
    ·cases h1
     obtain⟨t,fz,hh⟩:=yL (X:=X) bO hc
     intro s1 hx1 rest todo Q hk
     rw[Dr] at hk
     exact lN X.hC hp rest (nF hg rest) (by rw[aw];rfl) (ab6 aw hx hh hv) hx1 hk
    ·exact JQ bO hr Eb hcd j u h1 hpj ma
def rkO(P:Program)(n i:Nat)(hs:List (List Nat)):Option JS→Option JS→Option Rk
 |some ⟨.Gq ops base Pl Sl _,_,_,kn⟩,some s1=>rkL P n ops base Pl kn.nd s1.rw s1.kn.c hs (pending ops i Sl)
 |_,_=>none
def rkA:Option Rk→Option (List Value×List (Option Cells))
 |some k=>some (k.a,k.c)
 |none=>some ([],[])
def rkB:Option Rk→Option (List Value×List (Option Cells))
 |some k=>some (k.b,k.d)
 |none=>none
theorem iM(hK:LK X i o rest todo)(hs:List (List Nat))(hj:J X (To i o o1))(hc:bkL i rest todo o o1=o1:=by kernel_rfl)(h2:rkA (rkO X.P X.n i hs o o1)=rkB (rkO X.P X.n i hs o o1):=by kernel_rfl):J X o1:=by
 by_cases ee:o1=none
 ·subst ee
  cases o with
  |none=>exact hj
  |some s=>rcases s with ⟨p,e,w,kn⟩;cases p<;>exact hj
 obtain⟨ku,base,Pl,Sl,k,e,w,kn,v,w',kn',rfl,rfl⟩:=Tk hc ee
 intro bO
 have hv:(match aO ku i with
  |some d=>(ib (upd (aO ku i) v (bX ku base i Pl++rest)) d).getD undef
  |none=>undef)=v∨aO ku i=none:=by
  cases hd:aO ku i with
  |none=>exact .inr rfl
  |some d=>left;simp[upd,ib]
 have hj:=hj bO
 simp only[To,JP] at hj
 have bM:∀j u,(j,u)∈pending ku i Sl→sD ku X.n base Pl j=false→(∀B,(j,B)∈kn.nd→Ext ⟨X.ro,[]⟩ ⟨X.ro,den w'⟩→(∀x∈B,(⟨X.ro,den w'⟩:St).has x.1 x.2)→eS X.C X.fn X.ax ku X.n X.D j u (bX ku base j Pl) ⟨X.ro,den w'⟩)→eS X.C X.fn X.ax ku X.n X.D j u (bX ku base j Pl) ⟨X.ro,den w'⟩:=by
  simp only[rkO] at h2
  cases hr:rkL X.P X.n ku base Pl kn.nd w' kn'.c hs (pending ku i Sl) with
  |none=>rw[hr] at h2;cases h2
  |some x=>
   rw[hr] at h2
   simp only[rkA,rkB,Option.some.injEq,Prod.mk.injEq] at h2
   exact JQ bO hr h2.1 h2.2
 have key:=hK (match aO ku i with
  |some d=>(ib (upd (aO ku i) v (bX ku base i Pl++rest)) d).getD undef
  |none=>undef) ⟨X.ro,den w'⟩ (fun j u G8 XN hn _=>bM j u G8 XN hn) hj
 show ab _ _ _ _ _ _ _ _
 rcases hv with hv|hv
 ·rw[hv] at key;exact key
 ·rw[hv] at key ⊢;exact key
end
attribute [irreducible] rkO rkA rkB apW UR To bkL rwO abc
abbrev RY(ro:Nat→Option Obj)(Φ:Value→Cells→Prop):Ending→St→Prop:=fun en s'=>∃v X,en= .returned v∧(⟨ro,X⟩:St).le s'∧Φ v X
theorem Round.mono{l:Nat}{R':Ending→St→Prop}(h:Round C l f tm as bd s R)(hr:∀e s,R e s→R' e s):Round C l f tm as bd s R':=
 fun main T hT c cs k1 k2=>h main T hT c cs (fun v s' hv=>k1 v s' (hr _ _ hv)) (fun ch s' hv=>k2 ch s' (hr _ _ hv))
theorem Round.weaken{C':Class}(hc:∀main T,C' main T→C main T){l:Nat}(h:Round C l f tm as bd s R):Round C' l f tm as bd s R:=
 fun main T hT=>h main T (hc main T hT)
theorem Round.frame{l:Nat}{s1:St}{B:Cells}{ro:Nat→Option Obj}(hf:Round (CP P) l f tm as bd s1 R)(hB:∀x∈B,x∈fr)(hc:YR fr B ro s1 s):
 Round (CP P) l f tm as bd s (fun en s'=>∃yc,R en yc∧YR fr B ro yc s'):=
 fun main T hT c cs k1 k2=>hf main _ (Ag hT hB ro) c cs (fun v yc hv _ s' sS=>k1 v s' ⟨yc,hv,sS⟩) (fun ch yc hv _ s' sS=>k2 ch s' ⟨yc,hv,sS⟩) rfl s hc
def Zw(r:Loop)(vs:List Value):Array Value:=(r.params.zip ⟨vs⟩).foldl (fun tmps (x:Tmp×Value)=>tmps.setIfInBounds x.1 x.2) r.tmps
def YX(P:Program)(bl:Nat)(vs:List Value)(ro:Nat→Option Obj)(own:Cells)(Φ:Value→Cells→Prop):Prop:=
 ∃r,(bl,.loop r)∈own∧vs.length=r.params.size∧Round (CP P) bl r.fn (Zw r vs) r.assign r.body ⟨ro,own⟩ (RY ro Φ)
theorem YX.use{ro:Nat→Option Obj}{own:Cells}(hy:YX P bl vs ro own Φ)(hs:Sub ro s.ro)(hp:s.rw.Perm (own++fr)){Q:Next→St→Prop}{E:Halt→St→Prop}
 (h:∀l f tm as bd,Round (CP P) l f tm as bd s (fun en s'=>∃v X,en= .returned v∧Φ v X∧(⟨s.ro,X++fr⟩:St).le s')→Q (.round l f tm as bd) s):bH P (Instr.yield bl ⟨vs⟩) s Q E:=by
 obtain⟨r,h1,h2,h3⟩:=hy
 simp only[Instr.yield,Instr.getLoop,aa]
 refine cq (o:= .loop r) (.inr (hp.mem_iff.2 (List.mem_append_left _ h1))) rfl rfl ?_
 have uM:¬(⟨vs⟩:Array Value).size≠r.params.size:=by simpa using h2
 simp only[ae,if_neg uM]
 refine h _ _ _ _ _ (Round.mono (Round.frame (fr:=fr) (B:=[]) (ro:=s.ro) (s:=s) h3 (fun _ h=>(by cases h)) ⟨hp,fun b o hb=> .inl (hs b o hb),Sub.refl _⟩) fun en s' CG=>?_)
 obtain⟨yc,⟨v,X,rfl,⟨R,hR1,hR2⟩,p6⟩,hc⟩:=CG
 refine⟨v,X,rfl,p6,R,?_,fun b o hb=> .inl (hc.keep b o hb)⟩
 refine hc.rw.trans ((hR1.append_right fr).trans ?_)
 simp only[List.append_assoc]
 exact List.Perm.append_left _ List.perm_append_comm
section
variable {X:Cx} {o:Option JS}
def anU(n:Nat)(p:Oper)(e:Env):Option (Nat×List Value):=match p.op with
 | .call ⟨.value x,xs,_⟩=>match a8 n e x with
  |some (.func (.yield bl) ⟨[]⟩ ⟨[]⟩)=>match xD n e xs.toList with
   |some vs=>some (bl,vs)
   |none=>none
  |_=>none
 |_=>none
theorem jyc{oZ:Nat→Option Obj}{own:Cells}(ps:List Nat)(hy:YX X.P bl vs oZ own Φ)(fM:Sub oZ X.ro)(hj:∀v Y,Φ v Y→J X (mZ ps v Y o))(h1:e9 X.n (anU X.n) o=some (bl,vs):=by kernel_rfl)(h2:dY ps o=some own:=by kernel_rfl):J X o:=by
 obtain⟨ops,i,todo,k,e,w,kn,p,rfl,ho,hw,hc⟩:=dc h1
 intro bO
 unfold anU at hc
 split at hc<;>try (cases hc;done)
 rename_i x xs at_ aw
 split at hc<;>try (cases hc;done)
 rename_i bl' hx
 split at hc<;>try (cases hc;done)
 rename_i nY Dl
 cases hc
 rcases p with ⟨dst,op,ty,pos,cT,g⟩
 dsimp only at aw;subst aw
 have hp:=bB h2
 refine bL X.hC ho hw (by simp) ?_
 have Qi:xs.map (ev X.n e)=⟨vs⟩:=rR Dl
 simp only[execOp,resolve,aC hx,Deferred.ofValue,ae,Qi]
 have hiv:(invoke (.fn (.yield bl) ⟨[]⟩) (⟨[]⟩++⟨vs⟩):Sem Next)=Instr.yield bl ⟨vs⟩:=by simp[invoke]
 rw[hiv]
 refine YX.use hy fM hp fun l f tm as bd hR=>?_
 show Round X.C l f tm as bd _ _
 refine Round.mono (Round.weaken X.hC hR) fun en s' CG=>?_
 obtain⟨v,Y,rfl,p6,hle⟩:=CG
 have:=hj v Y p6
 rw[nW ho] at this
 have:=this bO
 simp only[JP,gI] at this
 have:=this.more X.hC hle
 show ab _ _ _ _ _ _ _ _
 rw[aU]
 exact this
end
attribute [irreducible] anU
def mk:List Nat→Cells
 | []=>[]
 |b::r=>(b,.deferred (some []))::mk r
def abS(P:Program)(fn:Func)(R:Ending→St→Prop):Post
 | .normal,a,s| .ret,a,s=>∃ui rest,a.defers=ui.map ek∧s.rw.Perm (mk ui++rest)∧bH P (results fn a.tmps) ⟨s.ro,rest⟩ (fun v s'=>∃s0,s0.le s'∧R (.returned v) s0) (fun _ _=>False)
 |_,_,_=>False
section
variable {P:Program} {C:Class}
theorem zb(hC:∀main T,C main T→Closed P main T){T:Goroutine→St→Prop}(hT:C main T){rest:Cells}:∀(ui:List Nat) (fr:Frame) (s:St),fr.mode= .returning→fr.defers=ui.map ek→s.rw.Perm (mk ui++rest)→T (G {fr with defers:=[]} cs) ⟨s.ro,rest⟩→T (G fr cs) s
 | [],fr,s,_,hd,hp,h=>by
  have:fr={fr with defers:=[]}:=by rcases fr with ⟨a,b,c,d,e,f,g⟩;simp only[List.map_nil] at hd;subst hd;rfl
  rw[this]
  exact(hC main T hT).mono _ ⟨s.ro,rest⟩ _ ⟨[],by simpa [mk] using hp,fun b o hb=> .inl hb⟩ h
 |b::r,fr,s,hm,hd,hp,h=>by
  obtain⟨L,Rr,hs⟩:=List.append_of_mem (hp.mem_iff.2 (List.mem_append_left _ List.mem_cons_self))
  refine unwind_mark hC hT (.inl hm) (ds:=r.map ek) (by simpa using hd) hs ?_
  have Qc:(L++Rr).Perm (mk r++rest):=by
   rw[hs] at hp
   exact(List.perm_middle.symm.trans hp).cons_inv
  refine(hC main T hT).mono _ ⟨s.ro,L++Rr⟩ _ ⟨[(b,.deferred none)],?_,fun b o hb=> .inl hb⟩ (zb hC hT r _ _ hm rfl Qc h)
  exact List.perm_middle.trans (List.perm_append_singleton _ _).symm
theorem Jh(hC:∀main T,C main T→Closed P main T){fn:Func}{c:Code}{args:Array Value} 
 (hf:P.funcs[f]?=some fn) (hb:fn.body=some c) (h:Wp C f none c (abS P fn R) ⟨args++Array.replicate (fn.ntmps-args.size) undef,[]⟩ s):Fn C P f args s R:=by
 intro main T hT cl cs k1 k2
 let b:Frame:={(default:Frame) with fn:=f,kind:= .normal,roundOf:=none}
 have iu:Frame.enter P f args .normal=aI b ⟨args++Array.replicate (fn.ntmps-args.size) undef,[]⟩ [.code c]:=by
  simp[Frame.enter,aI,hf,hb,b]
 rw[iu]
 refine h main T hT b [] (cl::cs) rfl (by simp[b]) rfl fun e a' s' q=>?_
 have rM:∀(todo:List Item),(∃ui rest,a'.defers=ui.map ek∧s'.rw.Perm (mk ui++rest)∧bH P (results fn a'.tmps) ⟨s'.ro,rest⟩ (fun v s'=>∃s0,s0.le s'∧R (.returned v) s0) (fun _ _=>False))→T (G {aI b a' todo with mode:= .returning} (cl::cs)) s':=by
  intro todo ⟨ui,rest,hd,hp,hr⟩
  exact zb hC hT ui _ _ rfl hd hp (sB hC hT hf rfl rfl rfl rfl hr k1)
 cases e with
 |normal=>
  exact(hC main T hT).go rfl rfl (g':=G {aI b a' [] with mode:= .returning} (cl::cs)) (fun w=>by simp[G,stepG,stepG.exec,aI,b]) (rM _ q)
 |ret=>
  exact fun todo=>(hC main T hT).go rfl rfl (g':=G {aI b a' (.code .ret::todo) with mode:= .returning} (cl::cs)) (fun w=>by simp[G,stepG,stepG.exec,aI,b]) (rM _ q)
 |panic ch=>exact q.elim
 |exit id=>exact q.elim
 |goto l=>exact q.elim
 |outgrown=>exact q.elim
end
def XM(P:Program)(hm:P.follows .mixedOrders=true)(f:FuncId)(ro:Nat→Option Obj)(R:Ending→St→Prop):Cx:=⟨P,CP P,eW,hm,f,none,(sW P f).ntmps,[],ro,abS P (sW P f) R⟩
theorem ajA(hm:P.follows .mixedOrders=true){args:List Value}{ro:Nat→Option Obj}{L:Cells}(own:List Sg)(kn:Cells)(hk:Knows ro kn)(h:J (XM P hm f ro (RX ro Φ)) (kS P f args own kn))(hL:den own=L:=by rfl):eG P f args ro L Φ:=by
 subst hL
 unfold kS at h
 split at h<;>try exact h.elim
 rename_i fn hf
 split at h<;>try exact h.elim
 rename_i c hc
 cases hl:Nat.ble args.length fn.ntmps with
 |false=>rw[hl] at h;exact h.elim
 |true=>
  rw[hl] at h
  have uO:sW P f=fn:=by simp only[sW,hf]
  have:=h hk
  simp only[JP,XM,KQ,uO] at this
  refine Jh eW hf hc ?_
  have he:=kN args fn.ntmps (Nat.le_of_ble_eq_true hl)
  rw[←he] at this
  exact this
structure QM(X:Cx)(R:Ending→St→Prop)(ui:List Nat):Prop where
 q:X.Q=abS X.P (sW X.P X.fn) R
 d:X.D=ui.map ek
def Cx.dm(X:Cx)(bd:Nat):Cx:={X with D:=ek bd::X.D}
theorem qm0{hm:P.follows .mixedOrders=true}{ro:Nat→Option Obj}:QM (XM P hm f ro R) R []:=⟨rfl,rfl⟩
theorem QM.a{ro:Nat→Option Obj}(h:QM X R ui):QM (X.at ro) R ui:=⟨h.q,h.d⟩
theorem QM.m{bd:Nat}(h:QM X R ui):QM (X.dm bd) R (bd::ui):=⟨h.q,by simp[Cx.dm,h.d]⟩
theorem QM.w{aER:List Nat}(h:QM X R ui):QM (X.wd (aER.map ek)) R aER:=⟨h.q,rfl⟩
def BZ(pm:List Nat):Option JS→Option JS
 |some ⟨p,e,w,kn⟩=>some ⟨p,e,dA pm 0 w,kn⟩
 |none=>none
section
variable {X:Cx} {o:Option JS}
theorem jrM{oZ:Nat→Option Obj}(hq:QM X (RX oZ Φ) ui)(v:Value)(pm hs ps:List Nat)(Y:Cells)(fM:Sub oZ X.ro)(hR:Φ v Y)(h0:dY pm o=some (mk ui):=by kernel_rfl)(h1:sU (jY X.P X.n X.fn hs (BZ pm o))=some v:=by kernel_rfl)(h2:Qn (jY X.P X.n X.fn hs (BZ pm o))=Qm (jY X.P X.n X.fn hs (BZ pm o)):=by kernel_rfl)(h3:dY ps (BZ pm o)=some Y:=by kernel_rfl)(h4:BS o=true:=by kernel_rfl):J X o:=by
 obtain⟨ex,e,w,kn,rfl,hex⟩:=sY h4
 simp only[BZ,jY] at h1 h2 h3
 cases hr:Bb X.P X.n e (dA pm 0 w) kn.c hs (sW X.P X.fn).results.toList with
 |none=>simp only[hr,sU] at h1;cases h1
 |some x=>
  rcases x with ⟨vs,q⟩
  simp only[hr,sU,Option.some.injEq,Qn,Qm] at h1 h2
  intro bO
  have rM:=tF bO hr (mb h2)
  have hp:=bB h3
  have G5:=Nn (s0:=⟨oZ,Y⟩) (R:=RX oZ Φ) hex rM h1 (dP hp fM) ⟨v,Y,rfl,rfl,hR⟩
  have ht:bH X.P (results (sW X.P X.fn) (A X.n e X.D).tmps) ⟨X.ro,den (dA pm 0 w)⟩ (fun v s'=>∃s0,s0.le s'∧RX oZ Φ (.returned v) s0) (fun _ _=>False):=by
   rcases hex with rfl|rfl<;>exact G5.2
  show X.Q ex (A X.n e X.D) ⟨X.ro,den w⟩
  rw[hq.q]
  have hm:∃ui rest,(A X.n e X.D).defers=ui.map ek∧(den w).Perm (mk ui++rest)∧bH X.P (results (sW X.P X.fn) (A X.n e X.D).tmps) ⟨X.ro,rest⟩ (fun v s'=>∃s0,s0.le s'∧RX oZ Φ (.returned v) s0) (fun _ _=>False):=⟨ui,_,hq.d,bB h0,ht⟩
  rcases hex with rfl|rfl<;>exact hm
end
attribute [irreducible] BZ
def upQ(Q:Post):Post:=fun e a s=>∃s0,s0.le s∧Q e a s0
theorem jU.more{T:Goroutine→St→Prop}(hT:Closed P main T){b:Frame}{k:List Item}(hl:s.le s'):∀ {e:Exit} {a:Act},jU T b k cs e a s→jU T b k cs e a s'
 | .normal,_,h=>hT.mono _ _ _ hl h
 | .exit id,a,h=>by
  simp only[jU] at h ⊢
  cases hk:exitTo id k with
  |some k'=>rw[hk] at h;exact hT.mono _ _ _ hl h
  |none=>rw[hk] at h;exact fun todo ht=>hT.mono _ _ _ hl (h todo ht)
 | .ret,_,h=>fun todo=>hT.mono _ _ _ hl (h todo)
 | .panic _,_,h=>fun todo=>hT.mono _ _ _ hl (h todo)
 | .goto _,_,h=>h.elim
 | .outgrown,_,h=>h.elim
theorem avZ(hC:∀main T,C main T→Closed P main T){fn:FuncId}{ax:Option Nat}{c:Code}{Q:Post}{a:Act}(h:Wp C fn ax c (upQ Q) a s):Wp C fn ax c Q a s:=
 fun main T hT b k cs h1 h2 h3 h4=>h main T hT b k cs h1 h2 h3 fun _ _ _ ⟨_,hl,hq⟩=>jU.more (hC _ _ hT) hl (h4 _ _ _ hq)
def ItX(P:Program)(g:FuncId)(fi ca:List Value)(ro:Nat→Option Obj)(own:Cells)(N:Nat)(El:(Nat→Option Obj)→Nat→List Value→Cells→Prop)(Ψ:Cells→Prop):Prop:=
 ∀(bl:Nat) (aA:Nat→Option Obj) (Inv:Nat→Cells→Prop) (Stop:Cells→Prop),Sub ro aA→
  (∀k vs LL B kB,k <N→El kB k vs LL→Inv k B→Sub aA kB→YX P bl vs kB (LL++B) (fun r B'=>(r= .bool true∧Inv (k+1) B')∨(r= .bool false∧Stop B')))→
  ∀B,Inv 0 B→eG P g (fi++[.func (.yield bl) #[] #[]]++ca) aA (own++B) (fun _ Y=>∃Z B',Y=Z++B'∧Ψ Z∧(Inv N B'∨Stop B'))
theorem Round.more(hC:∀main T,C main T→Closed P main T){l:Nat}(hl:s.le s')(h:Round C l f tm as bd s R):Round C l f tm as bd s' R:=
 fun main T hT c cs k1 k2=>(hC _ _ hT).mono _ _ _ hl (h main T hT c cs k1 k2)
def rfV(P:Program)(n:Nat):Option JS→Option (FuncId×List Value×List Value×Nat)
 |some ⟨.code (.rangeFunc x ps _ _) _,e,_,_⟩=>match a8 n e x with
  |some (.func (.func g) ⟨fi⟩ ⟨ca⟩)=>bif AV P g then some (g,fi,ca,ps.size) else none
  |_=>none
 |_=>none
def lpO(X:Cx)(bd:Nat):Option JS→Loop
 |some ⟨.code (.rangeFunc _ ps a b) _,e,_,_⟩=>iE X.fn (A X.n e X.D).tmps ps a b bd
 |_=>iE X.fn #[] #[] .ret .ret bd
def aEN:Option JS→Code
 |some ⟨.code (.rangeFunc _ _ _ b) _,_,_,_⟩=>b
 |_=> .ret
def Nh:List Tmp→List Value→Env→Env
 |t::ts,v::vs,e=>Nh ts vs (upd (some t) v e)
 |_,_,e=>e
theorem Ng{D:List Deferred}:∀(ts:List Tmp) (vs:List Value) (e:Env),(ts.zip vs).foldl (fun(tm:Array Value) (x:Tmp×Value)=>tm.setIfInBounds x.1 x.2) (A n e D).tmps=(A n (Nh ts vs e) D).tmps
 | [],_,_=>rfl
 |_::_,[],_=>rfl
 |t::ts,v::vs,e=>by
  have:=aU n e D (some t) v
  simp only[Act.put] at this
  simp only[List.zip_cons_cons,List.foldl_cons,Nh]
  rw[←Ng ts vs,←this]
def rdO(X:Cx)(bl bd:Nat)(vs:List Value)(w:List Sg)(o:Option JS):Option JS:=match o with
 |some ⟨.code (.rangeFunc _ ps a _) _,e,_,kn⟩=>some ⟨.code a [],Nh ps.toList vs e,.b bl (.loop (lpO X bd o))::w,⟨kn.c,[]⟩⟩
 |_=>none
def afO(jump:Option Code)(bd:Nat)(Z:Cells)(wi:List Sg)(is:List Nat):Option JS→Option JS
 |some ⟨.code _ k,e,w,kn⟩=>match jump with
  |none=>some ⟨Nz k,e,.b bd (.deferred (some [])):: .l Z::(wi++dA is 0 w),⟨kn.c,[]⟩⟩
  |some .ret=>some ⟨.fin .ret,e,.b bd (.deferred (some [])):: .l Z::(wi++dA is 0 w),⟨kn.c,[]⟩⟩
  |some (.exit id)=>match An id k with
   |some p=>some ⟨p,e,.b bd (.deferred (some [])):: .l Z::(wi++dA is 0 w),⟨kn.c,[]⟩⟩
   |none=>none
  |_=>none
 |_=>none
def anV(bl:Nat)(Lp:Loop)(wf:ι→List Sg)(Inv:Nat→ι→Prop)(Sp:Code→ι→Prop)(k:Nat):Value→Cells→Prop:=fun r B=>
 (r= .bool true∧∃j,Inv (k+1) j∧B=(bl,.loop Lp)::den (wf j))∨(r= .bool false∧∃jump j,Sp jump j∧B=(bl,.loop {Lp with state:= .done,pending:=some jump})::den (wf j))
def Cx.rd(X:Cx)(bl:Nat)(ro:Nat→Option Obj)(Φ:Value→Cells→Prop)(body:Code):Cx:=⟨X.P,CP X.P,eW,X.hm,X.fn,some bl,X.n,[],ro,GP (CP X.P) (RY ro Φ) bl X.fn body⟩
def Cx.re(X:Cx)(bl:Nat)(ro:Nat→Option Obj)(Φ:Value→Cells→Prop):Cx:=⟨X.P,CP X.P,eW,X.hm,X.fn,some bl,X.n,[],ro,Ba (RY ro Φ) bl⟩
theorem Jv{bd:Nat}:∀(k:List KI),KQ (X.dm bd) k=KQ X k
 | []=>rfl
 | .seq _::k=>by simp only[KQ,Jv k];rfl
 | .block _::k=>by simp only[KQ,Jv k]
 | .next _::k=>by simp only[KQ,Jv k]
theorem ID(Z W R:List α)(x y:α):((Z++x::W)++y::R).Perm (x::y::(Z++(W++R))):=by
 refine List.perm_middle.trans ?_
 rw[List.append_assoc,List.cons_append]
 exact(List.Perm.cons y List.perm_middle).trans (List.Perm.swap _ _ _)
section
variable {X:Cx} {o:Option JS}
theorem jrf{g:FuncId}{np:Nat}{Ψ:Cells→Prop}(ow:List Sg)(hit:ItX X.P g fi ca X.ro (den ow) N El Ψ)(Ze:∀ro k vs LL,El ro k vs LL→vs.length=np)
 (wf:ι→List Sg)(Inv:Nat→ι→Prop)(Sp:Code→ι→Prop)(i0:ι)(h0:Inv 0 i0)(is:List Nat)
 (hb:∀bl bd k vs LL i kB,k <N→El kB k vs LL→Inv k i→Sub X.ro kB→J (X.rd bl kB (anV bl (lpO X bd o) wf Inv Sp k) (aEN o)) (rdO X bl bd vs (wf i++[.l LL]) o))
 (hN:∀bd i Z,Inv N i→Ψ Z→J (X.dm bd) (afO none bd Z (wf i) is o))(hS:∀bd i Z jump,Sp jump i→Ψ Z→J (X.dm bd) (afO (some jump) bd Z (wf i) is o))
 (h1:rfV X.P X.n o=some (g,fi,ca,np):=by kernel_rfl)(h2:qP is o=some (ow++wf i0):=by kernel_rfl)(hf:(X.P.funcs[X.fn]?).isSome=true:=by kernel_rfl) (hr:X.ax=none:=by rfl):J X o:=by
 unfold rfV at h1
 split at h1<;>try (cases h1;done)
 rename_i x params assign body k e w kn
 split at h1<;>try (cases h1;done)
 rename_i g' S2 yM hx
 cases FU:AV X.P g' with
 |false=>rw[FU] at h1;cases h1
 |true=>
  rw[FU] at h1
  simp only[cond_true,Option.some.injEq,Prod.mk.injEq] at h1
  obtain⟨rfl,rfl,rfl,hnp⟩:=h1
  have ff:=kY FU
  intro bO
  have hp:=lM h2
  rw[lE] at hp
  obtain⟨fn',uO⟩:=Option.isSome_iff_exists.1 hf
  show Wp X.C X.fn X.ax (.rangeFunc x params assign body) (KQ X k) (A X.n e X.D) ⟨X.ro,den w⟩
  rw[hr]
  refine avZ X.hC (y6 X.hC (fi:=⟨S2⟩) (ca:=⟨yM⟩) (by rw[ep];exact aC hx) ff fun bd bl _ _=>?_)
  rw[PS]
  have hy:=hit bl X.ro (fun k B=>∃i,Inv k i∧B=(bl,.loop (iE X.fn (A X.n e X.D).tmps params assign body bd))::den (wf i))
   (fun B=>∃jump i,Sp jump i∧B=(bl,.loop {iE X.fn (A X.n e X.D).tmps params assign body bd with state:= .done,pending:=some jump})::den (wf i)) (Sub.refl _) (fun k vs LL B kB hk hv hi hs=>?_) _ ⟨i0,h0,rfl⟩
  rotate_left
  ·obtain⟨i,hi,rfl⟩:=hi
   refine⟨iE X.fn (A X.n e X.D).tmps params assign body bd,List.mem_append_right _ List.mem_cons_self,(Ze _ _ _ _ hv).trans hnp.symm,Round.more eW (s:=⟨kB,((bl,.loop (iE X.fn (A X.n e X.D).tmps params assign body bd))::den (wf i))++LL⟩) ⟨[],by rw[List.append_nil];exact List.perm_append_comm,fun b o hb=> .inl hb⟩ (Co eW uO ?_)⟩
   have:=hb bl bd k vs LL i kB hk hv hi hs fun y hy=>hs _ _ (bO y hy)
   have KW:den (.b bl (.loop (iE X.fn (A X.n e X.D).tmps params assign body bd))::(wf i++[.l LL]))=((bl,.loop (iE X.fn (A X.n e X.D).tmps params assign body bd))::den (wf i))++LL:=by rw[iJ,lE];rfl
   rw[←KW]
   have hyt:Zw (iE X.fn (A X.n e X.D).tmps params assign body bd) vs=(A X.n (Nh params.toList vs e) X.D).tmps:=by
    rw[←Ng]
    simp only[Zw,iE]
    rw[←Array.foldl_toList,Array.toList_zip]
   rw[hyt]
   exact this
  ·refine Fn.weaken X.hC (Fn.mono (Fn.frame (fr:=(bd,.deferred (some []))::den (dA is 0 w)) (B:=[]) (ro:=X.ro) hy (fun _ h=>(by cases h)) ⟨?_,fun b o hb=> .inl hb,Sub.refl _⟩) fun en s' CG=>?_)
   ·refine List.Perm.trans (.cons _ (.cons _ ?_)) (ID _ _ _ _ _).symm
    rw[←List.append_assoc]
    exact hp
   ·obtain⟨yc,⟨v,Y,rfl,rfl,Z,B',rfl,hΨ,hI⟩,hc⟩:=CG
    have hc1:s'.rw.Perm ((Z++B')++(bd,.deferred (some []))::den (dA is 0 w)):=hc.rw
    have key:∀(r0:Loop) (i:ι),B'=(bl,.loop r0)::den (wf i)→∃L Rr,s'.rw=L++(bl,.loop r0)::Rr∧∀r1,(⟨X.ro,den (.b bd (.deferred (some [])):: .l Z::(wf i++dA is 0 w))⟩:St).le ⟨s'.ro,L++(bl,.loop r1)::Rr⟩:=by
     intro r0 i hB
     subst hB
     have hc2:=hc1.trans (ID _ _ _ _ _)
     obtain⟨L,Rr,hs⟩:=List.append_of_mem (hc2.mem_iff.2 List.mem_cons_self)
     refine⟨L,Rr,hs,fun r1=>dP (J:=[(bl,.loop r1)]) ?_ hc.keep⟩
     rw[hs] at hc2
     have hc3:=(List.perm_middle.symm.trans hc2).cons_inv
     rw[iJ,gI,lE]
     exact List.perm_middle.trans ((List.Perm.cons _ hc3).trans (List.perm_append_singleton _ _).symm)
    rcases hI with ⟨i,hi,hB⟩| ⟨jump,i,hi,hB⟩
    ·obtain⟨L,Rr,hs,hle⟩:=key _ i hB
     refine⟨L,_,Rr,hs,by simp[iE],?_⟩
     refine⟨_,hle _,?_⟩
     have:=hN bd i Z hi hΨ bO
     rw[←Jv (bd:=bd)]
     exact tJ (X:=X.dm bd) (kn:=⟨kn.c,[]⟩) this
    ·obtain⟨L,Rr,hs,hle⟩:=key _ i hB
     refine⟨L,_,Rr,hs,by simp,?_⟩
     have:=hS bd i Z jump hi hΨ
     cases jump with
     |ret=>
      refine⟨_,hle _,?_⟩
      rw[←Jv (bd:=bd)]
      exact zf (X:=X.dm bd) (this bO) k
     |exit id=>
      simp only[afO] at this
      cases hk:An id k with
      |none=>rw[hk] at this;exact this.elim
      |some p=>
       rw[hk] at this
       refine⟨_,hle _,?_⟩
       rw[←Jv (bd:=bd)]
       exact we (X:=X.dm bd) (kn:=⟨kn.c,[]⟩) hk (this bO)
     |_=>exact this.elim
end
theorem ayP{bd:Nat}{o:Option JS}:(lpO X bd o).state= .ready∧(lpO X bd o).pending=none:=by
 unfold lpO
 split<;>exact⟨rfl,rfl⟩
attribute [irreducible] rfV lpO aEN rdO afO
def bgO(body:Code):Option JS→Option (JS×Nat)
 |some ⟨.fin .normal,e,.b b (.loop r)::w,kn⟩=>match r.state with
  | .ready=>some (⟨.code body [],e,.b b (.loop {r with state:= .busy})::w,kn⟩,b)
  |_=>none
 |_=>none
def Dt:Option (JS×Nat)→Option JS
 |some (s,_)=>some s
 |none=>none
def QQ:Option (JS×Nat)→Option Nat
 |some (_,b)=>some b
 |none=>none
def Oh:Option JS→Option (Option Code)
 |some ⟨.fin .normal,_,_,_⟩=>some none
 |some ⟨.fin .ret,_,_,_⟩=>some (some .ret)
 |some ⟨.fin (.exit id),_,_,_⟩=>some (some (.exit id))
 |_=>none
structure QY(X:Cx)(bl:Nat)(ro:Nat→Option Obj)(Φ:Value→Cells→Prop):Prop where
 q:X.Q=Ba (RY ro Φ) bl
theorem WY{ro:Nat→Option Obj}:QY (X.re bl ro Φ) bl ro Φ:=⟨rfl⟩
section
variable {X:Cx} {o:Option JS} {bl:Nat} {ro:Nat→Option Obj}
theorem jbg{body:Code}(h:J (X.re bl ro Φ) (Dt (bgO body o)))(h1:QQ (bgO body o)=some bl:=by kernel_rfl):J (X.rd bl ro Φ body) o:=by
 unfold bgO at h h1
 split at h<;>try exact h.elim
 rename_i e b r w kn
 split at h<;>try exact h.elim
 rename_i bM
 simp only[bM,QQ,Option.some.injEq] at h1
 subst h1
 simp only[Dt] at h
 intro bO
 have hw:=h bO
 simp only[JP,Cx.rd,GP,Cc]
 refine⟨[],r,den w,by rw[iJ];rfl,bM,?_⟩
 simp only[JP,iJ] at hw
 exact hw
theorem jyR{Lp:Loop}{jump:Option Code}{Y:Cells}(hq:QY X bl ro Φ)(fM:Sub ro X.ro)(ps:List Nat)(p6:Φ (.bool jump.isNone) ((bl,.loop {Lp with state:=if jump.isNone then .ready else .done,pending:=jump})::Y))(h1:dY ps o=some ((bl,.loop {Lp with state:= .busy})::Y):=by kernel_rfl)(h2:Oh o=some jump:=by kernel_rfl):J X o:=by
 have main:∀s w kn e,o=some ⟨s,e,w,kn⟩→S8 (RY ro Φ) bl jump ⟨X.ro,den w⟩:=by
  intro s w kn e ho
  subst ho
  have hp:=bB h1
  obtain⟨L,Rr,hs⟩:=List.append_of_mem (hp.mem_iff.2 (List.mem_append_left _ List.mem_cons_self))
  refine⟨L,_,Rr,hs,_,_,rfl,?_,p6⟩
  have mY:den w=L++(bl,.loop {Lp with state:= .busy})::Rr:=hs
  have hp':(den w).Perm (((bl,.loop {Lp with state:= .busy})::Y)++den (dA ps 0 w)):=hp
  rw[mY] at hp'
  have Qc:=(List.perm_middle.symm.trans hp').cons_inv
  exact dP (J:=den (dA ps 0 w)) (List.perm_middle.trans (.cons _ Qc)) fM
 unfold Oh at h2
 split at h2<;>try (cases h2;done)
 ·rename_i e w kn;cases h2;intro _;show X.Q .normal _ _;rw[hq.q];exact main _ _ _ _ rfl
 ·rename_i e w kn;cases h2;intro _;show X.Q .ret _ _;rw[hq.q];exact main _ _ _ _ rfl
 ·rename_i id e w kn;cases h2;intro _;show X.Q (.exit id) _ _;rw[hq.q];exact main _ _ _ _ rfl
theorem jyn{Lp:Loop}{wf:ι→List Sg}{Inv:Nat→ι→Prop}{Sp:Code→ι→Prop}{k:Nat}(hq:QY X bl ro (anV bl Lp wf Inv Sp k))(fM:Sub ro X.ro)(j:ι)(h:Inv (k+1) j)(ps:List Nat)(hl:Lp.state= .ready∧Lp.pending=none:=by exact ayP)(h1:dY ps o=some ((bl,.loop {Lp with state:= .busy})::den (wf j)):=by kernel_rfl)(h2:Oh o=some none:=by kernel_rfl):J X o:=
 jyR hq fM ps (.inl ⟨rfl,j,h,by rcases Lp with ⟨a,b,c,d,e,f,g,i⟩;obtain⟨h1,h2⟩:=hl;dsimp only at h1 h2;subst h1 h2;rfl⟩) h1 h2
theorem jys{Lp:Loop}{wf:ι→List Sg}{Inv:Nat→ι→Prop}{Sp:Code→ι→Prop}{k:Nat}(hq:QY X bl ro (anV bl Lp wf Inv Sp k))(fM:Sub ro X.ro)(jump:Code)(j:ι)(h:Sp jump j)(ps:List Nat)(h1:dY ps o=some ((bl,.loop {Lp with state:= .busy})::den (wf j)):=by kernel_rfl)(h2:Oh o=some (some jump):=by kernel_rfl):J X o:=
 jyR hq fM ps (.inr ⟨rfl,jump,j,h,rfl⟩) h1 h2
end
attribute [irreducible] bgO Dt QQ Oh
def rX[DecidableEq κ](k:κ):List (κ×Value)→Nat→Option (Nat×Value)
 | [],_=>none
 |x::l,i=>if k=x.1 then some (i,x.2) else rX k l (i+1)
def lkM[DecidableEq κ](k:κ)(F:List (κ×Value)):Option Value:=(rX k F 0).map (·.2)
def tD(k:κ)(v:Value):List (κ×Value)→Nat→List (κ×Value)
 | [],_=>[]
 |_::l,0=>(k,v)::l
 |x::l,i+1=>x::tD k v l i
def mi[DecidableEq κ](k:κ)(v:Value)(F:List (κ×Value)):List (κ×Value):=match rX k F 0 with
 |some (i,_)=>tD k v F i
 |none=>F++[(k,v)]
structure PZ(P:Program)(T:TypeId){κ:Type}[DecidableEq κ](kv:κ→Value):Prop where
 chk:∀(b:Bool) (k:κ) {α:Type} {K:Unit→Sem α} {s:St} {Q:α→St→Prop} {E:Halt→St→Prop},bH P (K ()) s Q E→bH P (Instr.checkKey b 10000 T (kv k) >>= K) s Q E
 find:∀(k:κ) (es:List MapEntry) (F:List (κ×Value)),es.map (fun e=>(e.key,e.val))=F.map (fun x=>(kv x.1,x.2))→∀ {α:Type} {K:Option (Nat×Value)→Sem α} {s:St} {Q:α→St→Prop} {E:Halt→St→Prop},bH P (K (rX k F 0)) s Q E→bH P (Instr.findKey T (kv k) es >>= K) s Q E
 stay:∀k,Instr.sameBits 10000 (kv k) (kv k)=true
theorem qj[DecidableEq κ]{k:κ}:∀ {F:List (κ×Value)} {i j:Nat} {v:Value},rX k F i=some (j,v)→i≤j∧F[j-i]?=some (k,v)
 | [],_,_,_,h=>by cases h
 |x::l,i,j,v,h=>by
  simp only[rX] at h
  split at h
  ·rename_i hk
   cases h
   exact⟨Nat.le_refl _,by simp[hk]⟩
  ·obtain⟨h1,h2⟩:=qj h
   refine⟨by omega,?_⟩
   rw[show j-i=(j-(i+1))+1 by omega,List.getElem?_cons_succ];exact h2
theorem Me(a b:ByteArray):(a==b)=decide (a=b):=by
 have h:(a==b)=(a.data==b.data):=by cases a;cases b;rfl
 rw[h,Bool.eq_iff_iff]
 cases a;cases b
 simp
theorem CL(a:ByteArray):∀(es:List MapEntry) (F:List (ByteArray×Value)) (i:Nat),es.map (fun e=>(e.key,e.val))=F.map (fun x=>(Value.string x.1,x.2))→Instr.findNow .string (.string a) es i=some (rX a F i)
 | [],[],_,_=>rfl
 | [],_::_,_,h=>by simp at h
 |_::_,[],_,h=>by simp at h
 |e::es,x::F,i,h=>by
  simp only[List.map_cons,List.cons.injEq,Prod.mk.injEq] at h
  obtain⟨⟨h1,h2⟩,h3⟩:=h
  simp only[Instr.findNow,h1,Instr.sameNow,rX,Me]
  by_cases hk:a=x.1
  ·simp[hk,h2]
  ·simp only[hk,decide_false,if_false]
   exact CL a es F (i+1) h3
def CkD(P:Program)(dep:Nat)(T:TypeId)(v:Value):Prop:=∀(b:Bool) {α:Type} {K:Unit→Sem α} {s:St} {Q:α→St→Prop} {E:Halt→St→Prop},bH P (Instr.checkKey b dep T v >>= K) s Q E=bH P (K ()) s Q E
theorem aEE(tf:TF P T .string sz bu z ag)(a:ByteArray):CkD P (dep+1) T (.string a):=by
 intro b α K s Q E
 simp only[Instr.checkKey,aa,aW tf,ae]
theorem ap4(tf:TF P T .string sz bu z ag):PZ P T (fun(a:ByteArray)=>Value.string a) where
 chk b k α K s Q E h:=by rw[aEE (dep:=9999) tf k b];exact h
 find k es F he α K s Q E h:=by
  simp only[Instr.findKey,aa,aW tf,CL k es F 0 he,ae]
  exact h
 stay k:=by simp[Instr.sameBits,Me]
def acD(P:Program)(T:TypeId):Bool:=match aV P T with
 |some ⟨.string,_,_,_⟩=>true
 |_=>false
theorem UZ(h:acD P T=true):PZ P T (fun(a:ByteArray)=>Value.string a):=by
 unfold acD at h
 split at h
 ·rename_i dQ
  obtain⟨bu,tf⟩:=an dQ
  exact ap4 tf
 ·cases h
theorem ItX.up{g:FuncId}{ro aL:Nat→Option Obj}{own:Cells}{Ψ:Cells→Prop}(h:ItX P g fi ca ro own N El Ψ)(hs:Sub ro aL):ItX P g fi ca aL own N El Ψ:=
 fun bl aA Inv Stop h1=>h bl aA Inv Stop (hs.trans h1)
def YO(P:Program)(bl:Nat)(ro:Nat→Option Obj)(N:Nat)(El:(Nat→Option Obj)→Nat→List Value→Cells→Prop)(Inv:Nat→Cells→Prop)(Stop:Cells→Prop):Prop:=
 ∀k vs LL B kB,k <N→El kB k vs LL→Inv k B→Sub ro kB→YX P bl vs kB (LL++B) (fun r B'=>(r= .bool true∧Inv (k+1) B')∨(r= .bool false∧Stop B'))
theorem YO.up{ro aL:Nat→Option Obj}{Inv:Nat→Cells→Prop}{Stop:Cells→Prop}(h:YO P bl ro N El Inv Stop)(hs:Sub ro aL):YO P bl aL N El Inv Stop:=
 fun k vs LL B kB h1 h2 h3 h4=>h k vs LL B kB h1 h2 h3 (hs.trans h4)
def Part(L:List α)(p:Nat)(m:List α):Prop:=∃a b,L=a++m++b∧a.length=p
theorem Part.get{L m:List α}{x:α}(h:Part L p m)(hx:m[i]?=some x):p+i <L.length∧L[p+i]?=some x:=by
 obtain⟨a,b,rfl,rfl⟩:=h
 have hi:=(List.getElem?_eq_some_iff.1 hx).1
 have:(a++m++b)[a.length+i]?=some x:=by
  rw[List.append_assoc,List.getElem?_append_right (by omega),List.getElem?_append_left (by omega),show a.length+i-a.length=i by omega];exact hx
 exact⟨(List.getElem?_eq_some_iff.1 this).1,this⟩
theorem Part.flat{β:Type}{L:List β}{G:α→List β}{l a b:List α}{s:α}(h:Part L p (l.flatMap G))(hl:l=a++[s]++b):Part L (p+(a.flatMap G).length) (G s):=by
 obtain⟨u,v,rfl,rfl⟩:=h
 subst hl
 exact⟨u++a.flatMap G,b.flatMap G++v,by simp[List.flatMap_append],by simp⟩
theorem M4[DecidableEq κ]{kv:κ→Value}(he:∀a b,YQ P 10000 T (kv a) (kv b) (decide (a=b)))(k:κ):∀(es:List MapEntry) (F:List (κ×Value)) (i:Nat),es.map (fun e=>(e.key,e.val))=F.map (fun x=>(kv x.1,x.2))→∀ {α:Type} {K:Option (Nat×Value)→Sem α} {s:St} {Q:α→St→Prop} {E:Halt→St→Prop},bH P (K (rX k F i)) s Q E→bH P (Instr.findAsking T (kv k) es i >>= K) s Q E
 | [],[],_,_,_,_,_,_,_,h=>h
 | [],_::_,_,h,_,_,_,_,_,_=>by simp at h
 |_::_,[],_,h,_,_,_,_,_,_=>by simp at h
 |e::es,x::F,i,h,α,K,s,Q,E,hK=>by
  simp only[List.map_cons,List.cons.injEq,Prod.mk.injEq] at h
  obtain⟨⟨h1,h2⟩,h3⟩:=h
  simp only[Instr.findAsking,aa,h1,Op.equal]
  rw[show Op.maxDepth=10000 from rfl,he k x.1]
  simp only[rX] at hK
  by_cases hk:k=x.1
  ·rw[if_pos hk] at hK
   simp only[hk,decide_true,if_true,ae,h2]
   exact hK
  ·rw[if_neg hk] at hK
   simp only[hk,decide_false,Bool.false_eq_true,if_false]
   exact M4 he k es F (i+1) h3 hK
theorem Gx{k:IntKind}(tf:TF P T (.int k) sz bu z ag)(a:Int):CkD P (dep+1) T (.int k a):=by
 intro b α K s Q E
 simp only[Instr.checkKey,aa,aW tf,ae]
inductive AJ(P:Program)(dep:Nat)(l:List Value):List Field→Prop
 |nil:AJ P dep l []
 |cons {f:Field} {fs:List Field} {v:Value} (hn:f.name≠ "_") (hv:GX P f.type l f.offset v) (he:CkD P dep f.type v) (ht:AJ P dep l fs):AJ P dep l (f::fs)
theorem PG{fields:Array Field}(tf:TF P T (.struct fields) sz bu z true)(hf:AJ P dep l fields.toList):CkD P (dep+1) T (.agg ⟨l⟩):=by
 intro b α K s Q E
 simp only[Instr.checkKey,aa,aW tf]
 rw[←Array.forIn_toList]
 generalize fields.toList=fl at hf
 clear tf
 induction hf with
 |nil=>simp only[List.forIn_nil,ae,aa]
 | @cons f fs v hn hv he ht ih=>
  simp only[List.forIn_cons,hn,ne_eq,not_false_eq_true,if_true,aa]
  rw[hv]
  simp only[aa]
  rw[he]
  simp only[ae]
  exact ih
theorem acg[DecidableEq κ]{kv:κ→Value}{d:TypeDesc}(tf:TF P T d sz bu z ag)(hl:∀k,∃l,kv k= .agg l)(hc:∀k,CkD P 10000 T (kv k))(he:∀a b,YQ P 10000 T (kv a) (kv b) (decide (a=b)))(hs:∀k,Instr.sameBits 10000 (kv k) (kv k)=true):PZ P T kv where
 chk b k α K s Q E h:=by rw[hc k b];exact h
 find k es F hm α K s Q E h:=by
  simp only[Instr.findKey,aa,aW tf]
  cases es with
  |nil=>
   cases F with
   |nil=>exact h
   |cons x F=>simp at hm
  |cons e es=>
   have:Instr.findNow d (kv k) (e::es) 0=none:=by
    cases F with
    |nil=>simp at hm
    |cons x F=>
     simp only[List.map_cons,List.cons.injEq,Prod.mk.injEq] at hm
     obtain⟨l,CE⟩:=hl k
     obtain⟨l2,qE⟩:=hl x.1
     simp only[Instr.findNow,hm.1.1,CE,qE]
     cases d<;>rfl
   rw[this]
   exact M4 he k _ F 0 hm h
 stay:=hs
def td(kv:κ→Value)(F:List (κ×Value))(es:Array MapEntry)(ck:Nat):Prop:=
 es.toList.map (fun e=>(e.key,e.val))=F.map (fun x=>(kv x.1,x.2))∧(es.toList.map (·.born)).Nodup∧∀e∈es.toList,e.born <ck
def j6(r:Nat)(kv:κ→Value)(F:List (κ×Value))(L:Cells):Prop:=∃es ck,L=[(r,.map es ck)]∧td kv F es ck
def agJ(s:St)(r:Nat)(kv:κ→Value)(F:List (κ×Value)):Prop:=∃es ck,s.has r (.map es ck)∧td kv F es ck
theorem j6.has{kv:κ→Value}{F:List (κ×Value)}{L:Cells}(h:j6 r kv F L)(hs:∀x∈L,s.has x.1 x.2):agJ s r kv F:=by
 obtain⟨es,ck,rfl,hm⟩:=h
 exact⟨es,ck,hs _ List.mem_cons_self,hm⟩
theorem agJ.ext{kv:κ→Value}{F:List (κ×Value)}(h:agJ s r kv F)(hs:Ext s s'):agJ s' r kv F:=by
 obtain⟨es,ck,h1,h2⟩:=h
 exact⟨es,ck,hs _ _ h1,h2⟩
theorem j6.nil(r:Nat)(kv:κ→Value):j6 r kv [] [(r,.map #[] 0)]:=⟨#[],0,rfl,rfl,List.nodup_nil,fun _ h=>(by cases h)⟩
section
variable {X:Cx} {o:Option JS}
def Oa[DecidableEq κ](z:Value)(ok:Bool)(k:κ)(F:List (κ×Value)):Value:=match lkM k F with
 |some v=>bif ok then .tuple ⟨[v,.bool true]⟩ else v
 |none=>bif ok then .tuple ⟨[z,.bool false]⟩ else z
def luV(P:Program)(n:Nat)(p:Oper)(e:Env):Option (TypeId×Value×Value×Value×Bool):=match p.op with
 | .lookup T x y ok=>match aV P T with
  |some ⟨.map K E,_,_,_⟩=>match aV P E with
   |some te=>match a8 n e x with
    |some m=>match a8 n e y with
     |some k=>some (K,m,k,MG te.zero te.agg,ok)
     |none=>none
    |none=>none
   |none=>none
  |_=>none
 |_=>none
theorem jlu[DecidableEq κ]{kv:κ→Value}{F:List (κ×Value)}{K:TypeId}(k:κ)(z:Value)(ok:Bool)(ps:List Nat)(B:Cells)(hk:PZ X.P K kv)(hm:∀s:St,Ext ⟨X.ro,[]⟩ s→(∀x∈B,s.has x.1 x.2)→agJ s r kv F)(hj:J X (Kg B (Oa z ok k F) o))
 (hv:dF X.n (luV X.P X.n) o=some (K,.map (some r),kv k,z,ok):=by kernel_rfl)(hB:dY ps o=some B:=by kernel_rfl):J X o:=by
 refine jGN hv hB (fun s p e ho hh hf=>?_) hj
 subst ho
 unfold luV at hf
 split at hf<;>try (cases hf;done)
 rename_i T x y ok' aw
 split at hf<;>try (cases hf;done)
 rename_i K' E' _ _ _ dQ
 split at hf<;>try (cases hf;done)
 rename_i te tW
 split at hf<;>try (cases hf;done)
 rename_i m hx
 split at hf<;>try (cases hf;done)
 rename_i k' hy
 simp only[Option.some.injEq,Prod.mk.injEq] at hf
 obtain⟨rfl,rfl,rfl,rfl,rfl⟩:=hf
 obtain⟨bu,tf⟩:=an dQ
 obtain⟨Ay,qz⟩:=an tW
 refine⟨by rw[aw];rfl,fun s0 FD uQ ops i ho rest hwt s' hs todo Q jL=>lN X.hC ho rest hwt (by rw[aw];rfl) ?_ hs jL⟩
 intro s1 bW f hf K2 E2 hK
 obtain⟨es,ck,jv,yV⟩:=(hm s0 FD uQ).ext bW
 simp only[execOp,aw,hf _ _ hx,hf _ _ hy,Instr.lookup,aa,aW tf]
 refine cq jv rfl rfl ?_
 simp only[ae,aa]
 refine hk.chk _ _ ?_
 simp only[aa]
 refine hk.find k _ F yV.1 ?_
 simp only[Oa,lkM] at hK
 cases xB:rX k F 0 with
 |none=>
  rw[xB] at hK
  simp only[aa,j9 qz,ae]
  cases ok'<;>exact hK
 |some u=>
  obtain⟨i,v⟩:=u
  rw[xB] at hK
  simp only[ae]
  cases ok'<;>exact hK
def apN(p:Oper):Option Unit:=match p.op with
 | .makeMap _ none=>some ()
 |_=>none
theorem jmk(kv:κ→Value)(hj:∀r L,j6 r kv [] L→J X (mZ [] (.map (some r)) L o))(hv:e9 X.n (fun p _=>apN p) o=some ():=by kernel_rfl):J X o:=by
 obtain⟨ops,i,todo,k,e,w,kn,p,rfl,ho,hw,hc⟩:=dc hv
 intro bO
 unfold apN at hc
 split at hc<;>try (cases hc;done)
 rename_i T aw
 rcases p with ⟨dst,op,ty,pos,cT,g⟩
 dsimp only at aw;subst aw
 refine bL X.hC ho hw (by simp) ?_
 simp only[execOp,Instr.makeMap,Option.map_none,aa,nZ,ae]
 intro b hb
 have:=hj b _ (j6.nil b kv)
 rw[nW ho] at this
 have:=this bO
 simp only[JP,gI,xa] at this
 show ab _ _ _ _ _ _ _ _
 rw[aU]
 exact this
def muV(P:Program)(n:Nat)(p:Oper)(e:Env):Option (TypeId×Value×Value×Value):=match p.op with
 | .mapUpdate T x y z| .insert T x y z=>match aV P T with
  |some ⟨.map K _,_,_,_⟩=>match a8 n e x with
   |some m=>match a8 n e y with
    |some k=>match a8 n e z with
     |some v=>some (K,m,k,v)
     |none=>none
    |none=>none
   |none=>none
  |_=>none
 |_=>none
theorem DR(k:κ)(v:Value):∀(F:List (κ×Value)) (i:Nat),tD k v F i=F.set i (k,v)
 | [],_=>rfl
 |_::_,0=>rfl
 |x::l,i+1=>by simp only[tD,DR k v l i,List.set_cons_succ]
theorem Fi{kv:κ→Value}{k:κ}{v:Value}:∀(es:List MapEntry) (F:List (κ×Value)) (i:Nat),es.map (fun e=>(e.key,e.val))=F.map (fun x=>(kv x.1,x.2))→(es.modify i fun e=>{e with key:=kv k,val:=v}).map (fun e=>(e.key,e.val))=(tD k v F i).map (fun x=>(kv x.1,x.2))
 | [],[],_,_=>by simp[tD]
 | [],_::_,_,h=>by simp at h
 |_::_,[],_,h=>by simp at h
 |e::es,x::F,0,h=>by
  simp only[List.map_cons,List.cons.injEq] at h
  simp[tD,h.2]
 |e::es,x::F,i+1,h=>by
  simp only[List.map_cons,List.cons.injEq] at h
  simp[tD,h.1,Fi es F i h.2]
theorem wA{kx v:Value}:∀(es:List MapEntry) (i:Nat),(es.modify i fun e=>{e with key:=kx,val:=v}).map (·.born)=es.map (·.born)
 | [],i=>by simp
 |e::es,0=>by simp
 |e::es,i+1=>by simp[wA es i]
theorem jmu[DecidableEq κ]{kv:κ→Value}{F:List (κ×Value)}{K:TypeId}{L:Cells}(i:Nat)(k:κ)(v:Value)(hk:PZ X.P K kv)(hm:j6 r kv F L)(hj:∀L',j6 r kv (mi k v F) L'→J X (mZ [i] undef L' o))
 (hv:e9 X.n (muV X.P X.n) o=some (K,.map (some r),kv k,v):=by kernel_rfl)(hB:dY [i] o=some L:=by kernel_rfl):J X o:=by
 obtain⟨ops,i0,todo,kk,e,w,kn,p,rfl,ho,hw,hc⟩:=dc hv
 intro bO
 rcases p with ⟨dst,op,ty,pos,cT,g⟩
 have main:∀T x y z,(op= .mapUpdate T x y z∨op= .insert T x y z)→muV X.P X.n ⟨dst,.mapUpdate T x y z,ty,pos,cT,g⟩ e=some (K,.map (some r),kv k,v)→ab X.C X.fn X.ax ops (i0::todo) (KQ X kk) (A X.n e X.D) ⟨X.ro,den w⟩:=by
  intro T x y z heq hc
  simp only[muV] at hc
  split at hc<;>try (cases hc;done)
  rename_i K' E' _ _ _ dQ
  split at hc<;>try (cases hc;done)
  rename_i m hx
  split at hc<;>try (cases hc;done)
  rename_i k' hy
  split at hc<;>try (cases hc;done)
  rename_i v' hz
  simp only[Option.some.injEq,Prod.mk.injEq] at hc
  obtain⟨rfl,rfl,rfl,rfl⟩:=hc
  obtain⟨bu,tf⟩:=an dQ
  have hp:=bB hB
  obtain⟨es,ck,rfl,yV⟩:=hm
  obtain⟨L1,R1,bW⟩:=List.append_of_mem (hp.mem_iff.2 (List.mem_append_left _ List.mem_cons_self))
  have hle:∀L',j6 r kv (mi k v' F) [(r,L')]→ab X.C X.fn X.ax ops todo (KQ X kk) (A X.n (upd dst undef e) X.D) ⟨X.ro,L1++(r,L')::R1⟩:=by
   intro L' hL
   have:=hj _ hL
   rw[nW ho] at this
   have:=this bO
   simp only[JP,gI] at this
   refine this.more X.hC (dP (J:=[]) ?_ (Sub.refl _))
   have hp':(den w).Perm ([(r,.map es ck)]++den (dA [i] 0 w)):=hp
   have aOk:den w=L1++(r,.map es ck)::R1:=bW
   rw[aOk] at hp'
   have Qc:=(List.perm_middle.symm.trans hp').cons_inv
   rw[List.append_nil]
   exact List.perm_middle.trans (List.Perm.cons _ Qc)
  have jv:(⟨X.ro,den w⟩:St).has r (.map es ck):= .inr (by show _∈den w;rw[show den w=_ from bW];exact fx)
  refine bL X.hC ho hw (by rcases heq with rfl|rfl<;>simp) ?_
  have hex:∀f:Operand→Value,execOp f ⟨dst,op,ty,pos,cT,g⟩=(do Instr.mapUpdate T (f x) (f y) (f z);pure .skip:Sem Next):=by
   intro f;rcases heq with rfl|rfl<;>simp only[execOp]
  rw[hex,aC hx,aC hy,aC hz]
  simp only[Instr.mapUpdate,aa,aW tf]
  refine cq jv rfl rfl ?_
  simp only[aa]
  refine hk.chk _ _ ?_
  simp only[aa]
  refine hk.find k _ F yV.1 ?_
  have fin:∀ob,j6 r kv (mi k v' F) [(r,ob)]→upon X.C X.P X.ax dst (A X.n e X.D) (fun a' s'=>ab X.C X.fn X.ax ops todo (KQ X kk) a' s') (KQ X kk) .skip ⟨X.ro,L1++(r,ob)::R1⟩:=by
   intro ob hL
   show ab _ _ _ _ _ _ _ _
   have:=hle ob hL
   rw[←aU] at this
   exact this
  cases xB:rX k F 0 with
  |some u=>
   obtain⟨j,u⟩:=u
   have Qh:=qj xB
   simp only[Nat.sub_zero] at Qh
   have aPg:((es[j]?).map (·.key)).getD (kv k)=kv k:=by
    have h1:(es.toList.map (fun e=>(e.key,e.val)))[j]?=some (kv k,u):=by rw[yV.1];simp[Qh.2]
    simp only[List.getElem?_map,Array.getElem?_toList] at h1
    cases he:es[j]? with
    |none=>rfl
    |some e1=>rw[he] at h1;simp at h1;simp[h1.1]
   simp only[aa,Instr.keyThatStays,aPg,hk.stay,if_true,ae]
   refine ez rfl bW rfl ?_
   refine fin _ ⟨_,_,rfl,?_,?_,?_⟩
   ·simp only[Array.toList_modify,mi,xB]
    exact Fi _ _ _ yV.1
   ·simp only[Array.toList_modify,wA];exact yV.2.1
   ·intro e1 h1
    have:e1.born∈((es.toList.modify j fun e=>{e with key:=kv k,val:=v'}).map (·.born)):=List.mem_map_of_mem (by simpa using h1)
    rw[wA] at this
    obtain⟨e2,h3,h4⟩:=List.mem_map.1 this
    rw[←h4];exact yV.2.2 e2 h3
  |none=>
   refine ez rfl bW rfl ?_
   refine fin _ ⟨_,_,rfl,?_,?_,?_⟩
   ·simp only[Array.toList_push,List.map_append,mi,xB,yV.1];rfl
   ·simp only[Array.toList_push,List.map_append,List.map_cons,List.map_nil]
    refine List.nodup_append.2 ⟨yV.2.1,by simp,?_⟩
    intro a ha b hb
    obtain⟨e2,h3,rfl⟩:=List.mem_map.1 ha
    have:=yV.2.2 e2 h3
    simp only[List.mem_singleton] at hb
    omega
   ·intro e1 h1
    simp only[Array.toList_push,List.mem_append,List.mem_singleton] at h1
    rcases h1 with h1|rfl
    ·have:=yV.2.2 e1 h1;omega
    ·exact Nat.lt_succ_self _
 have hc2:=hc
 unfold muV at hc
 split at hc<;>try (cases hc;done)
 ·rename_i T x y z aw
  dsimp only at aw
  exact main T x y z (.inl aw) (by rw[←hc2,aw])
 ·rename_i T x y z aw
  dsimp only at aw
  refine main T x y z (.inr aw) ?_
  rw[←hc2,aw];rfl
end
attribute [irreducible] luV apN muV
section
variable {X:Cx} {o:Option JS}
def Js(P:Program)(n:Nat)(p:Oper)(e:Env):Option (FuncId×List Value):=match p.op with
 | .call ⟨.invoke x name,xs,_⟩=>match a8 n e x with
  |some (.iface t v)=>match bh P (method (P.types.size+Made.depth) t v name) with
   |some (f,r)=>match xD n e xs.toList with
    |some vs=>bif AV P f then some (f,r::vs) else none
    |none=>none
   |none=>none
  |_=>none
 |_=>none
theorem agj{p:Oper}(h:Js P n p e=some (f,vs)):FF P f∧∃x name xs at_ t v r ws,p.op= .call ⟨.invoke x name,xs,at_⟩∧a8 n e x=some (.iface t v)∧bh P (method (P.types.size+Made.depth) t v name)=some (f,r)∧xD n e xs.toList=some ws∧vs=r::ws:=by
 unfold Js at h
 split at h<;>try (cases h;done)
 rename_i x name xs at_ aw
 split at h<;>try (cases h;done)
 rename_i t v hx
 split at h<;>try (cases h;done)
 rename_i f0 r hm
 split at h<;>try (cases h;done)
 rename_i ws rJ
 cases hb:AV P f0 with
 |false=>rw[hb] at h;cases h
 |true=>
  rw[hb] at h
  simp only[cond_true,Option.some.injEq,Prod.mk.injEq] at h
  obtain⟨rfl,rfl⟩:=h
  exact⟨kY hb,x,name,xs,at_,t,v,r,ws,aw,hx,hm,rJ,rfl⟩
theorem jpI{V:Value}(hf:∀aA,Sub X.ro aA→dL X.P f vs aA V)(hj:J X (Kg [] V o))(h1:dF X.n (Js X.P X.n) o=some (f,vs):=by kernel_rfl)(h3:dY [] o=some []:=by kernel_rfl):J X o:=by
 refine jGN h1 h3 (fun s p e ho hh hc=>?_) hj
 obtain⟨ff,x,name,xs,at_,t,v,r,ws,aw,hx,hm,rJ,rfl⟩:=agj hc
 rcases p with ⟨dst,op,ty,pos,cT,g⟩
 dsimp only at aw;subst aw
 refine⟨rfl,fun s0 FD uQ ops i sP rest hw s' hs todo Q hk=>?_⟩
 refine bL X.hC sP hw (by simp) ?_
 have e1:=aC (aY (rest:=rest) hx)
 have e2:xs.map (ev X.n (e++rest))=⟨ws⟩:=rR (wZ rJ)
 simp only[execOp,resolve,e1,e2,ae]
 have hex:((#[Value.iface t v]++(⟨ws⟩:Array Value)).extract 1 (#[Value.iface t v]++(⟨ws⟩:Array Value)).size)=⟨ws⟩:=by simp
 have h0:(#[Value.iface t v]++(⟨ws⟩:Array Value))[0]?=some (.iface t v):=by simp
 simp only[invoke,h0,hex,callMethod,aa,eT]
 refine aT hm ?_
 have mJ:(#[r]++⟨ws⟩:Array Value)=⟨r::ws⟩:=by simp
 rw[mJ]
 refine kg ff ?_
 have hu:=(dL.use (s:=⟨X.ro,[]⟩) (sz:=s') (fun b o hb=>hs _ _ (FD _ _ hb)) (fun aA h1=>hf aA fun b ob hb=>h1 b ob (.inl hb))).weaken X.hC
 refine Fn.mono hu fun en s1 CG=>?_
 obtain⟨rfl,hle⟩:=CG
 show ab _ _ _ _ _ _ _ _
 rw[aU]
 exact hk.more X.hC hle
theorem jS{β:Type}{f:Oper→Env→Option β}{r:β}(ps:List Nat)(B:Cells)(hv:e9 X.n f o=some r)(hB:dY ps o=some B)
 (hy:∀p e,f p e=some r→(∀c,p.op≠ .defer c)∧∀(R:Cells) (Q:Next→St→Prop) (E:Halt→St→Prop),(∀v L',Φ v L'→Q (.value v) ⟨X.ro,L'++R⟩)→bH X.P (execOp (ev X.n e) p) ⟨X.ro,B++R⟩ Q E)
 (hj:∀v L',Φ v L'→J X (mZ ps v L' o)):J X o:=by
 obtain⟨ops,i,todo,k,e,w,kn,p,rfl,ho,hw,hc⟩:=dc hv
 intro bO
 have hp:=bB hB
 obtain⟨hd,ht⟩:=hy p e hc
 have:ab X.C X.fn X.ax ops (i::todo) (KQ X k) (A X.n e X.D) ⟨X.ro,B++den (dA ps 0 w)⟩:=by
  refine bL X.hC ho hw hd ?_
  refine ht _ _ _ fun v L' p6=>?_
  have:=hj v L' p6
  rw[nW ho] at this
  have:=this bO
  simp only[JP,gI] at this
  show ab _ _ _ _ _ _ _ _
  rw[aU]
  exact this
 have hle:(⟨X.ro,B++den (dA ps 0 w)⟩:St).le ⟨X.ro,den w⟩:=⟨[],by rw[List.append_nil];exact hp,fun b o hb=> .inl hb⟩
 exact this.more X.hC hle
end
attribute [irreducible] Js
section
variable {X:Cx} {o:Option JS}
def iaA(P:Program)(n:Nat)(p:Oper)(e:Env):Option (Nat×Nat×Int×Nat×Nat):=match p.op with
 | .indexAddr T x y=>match aV P T with
  |some ⟨.array len E,_,_,_⟩=>match aV P E with
   |some te=>match a8 n e x with
    |some (.pointer (some ⟨b,off,none⟩))=>match a8 n e y with
     |some (.int _ ix)=>some (b,off,ix,len,te.size)
     |_=>none
    |_=>none
   |none=>none
  |_=>none
 |_=>none
theorem IZ{len:Nat}(ix:Int)(hi:0≤ix∧ix <len)(hj:J X (ko (.pointer (some ⟨b,off+ix.toNat*sz,none⟩)) o))(hv:dF X.n (iaA X.P X.n) o=some (b,off,ix,len,sz):=by kernel_rfl):J X o:=by
 refine jG hv (fun s p e ho hh hf=>?_) hj
 unfold iaA at hf
 split at hf<;>try (cases hf;done)
 rename_i T x y aw
 split at hf<;>try (cases hf;done)
 rename_i ayU E _ _ _ dQ
 split at hf<;>try (cases hf;done)
 rename_i te tW
 split at hf<;>try (cases hf;done)
 rename_i b' apz hx
 split at hf<;>try (cases hf;done)
 rename_i ik ix' hy
 simp only[Option.some.injEq,Prod.mk.injEq] at hf
 obtain⟨rfl,rfl,rfl,rfl,rfl⟩:=hf
 obtain⟨bu,tf⟩:=an dQ
 obtain⟨Ay,qz⟩:=an tW
 have key:∀s,Yields X.P X.n e p s (.pointer (some ⟨b',apz+ix'.toNat*te.size,none⟩)):=by
  intro s s' mY f hf K E hK
  simp only[execOp,aw,Instr.indexAt,Instr.sureAddr,hf _ _ hx,hf _ _ hy,asIntOf,aa,ae,aW tf,hi,and_self,if_true,bV qz,dO]
  exact hK
 exact⟨by rw[aw];rfl,fun _=>key _,fun _=>key⟩
def saV(P:Program)(n:Nat)(p:Oper)(e:Env):Option (Nat×Nat×Int×Nat):=match p.op with
 | .slice T x none (some z) none=>match aV P T with
  |some ⟨.array len E,_,_,_⟩=>match aV P E with
   |some _=>match a8 n e x with
    |some (.pointer (some ⟨b,off,none⟩))=>match a8 n e z with
     |some (.int _ ix)=>some (b,off,ix,len)
     |_=>none
    |_=>none
   |none=>none
  |_=>none
 |_=>none
theorem jah{len:Nat}(hi:Int)(hl:0≤hi∧hi≤len)(hj:J X (ko (.slice (some ⟨b,off,none⟩) hi.toNat len) o))(hv:dF X.n (saV X.P X.n) o=some (b,off,hi,len):=by kernel_rfl):J X o:=by
 refine jG hv (fun s p e ho hh hf=>?_) hj
 unfold saV at hf
 split at hf<;>try (cases hf;done)
 rename_i T x z aw
 split at hf<;>try (cases hf;done)
 rename_i ayU E _ _ _ dQ
 split at hf<;>try (cases hf;done)
 rename_i te tW
 split at hf<;>try (cases hf;done)
 rename_i b' apz hx
 split at hf<;>try (cases hf;done)
 rename_i ik ix' hy
 simp only[Option.some.injEq,Prod.mk.injEq] at hf
 obtain⟨rfl,rfl,rfl,rfl⟩:=hf
 obtain⟨bu,tf⟩:=an dQ
 obtain⟨Ay,qz⟩:=an tW
 have key:∀s,Yields X.P X.n e p s (.slice (some ⟨b',apz,none⟩) ix'.toNat ayU):=by
  intro s s' mY f hf K E hK
  simp only[execOp,aw,Option.map_some,Option.map_none,Instr.sliceAt,Instr.sliceBounds,Instr.sliceBound,Instr.sureAddr,hf _ _ hx,hf _ _ hy,asIntOf,aa,ae,aW tf,Option.isSome_none,Bool.false_eq_true,if_false,hl,and_self,if_true,bV qz,Nat.zero_mul,dO,Nat.add_zero,ite_self,Nat.sub_zero]
  exact hK
 exact⟨by rw[aw];rfl,fun _=>key _,fun _=>key⟩
end
theorem sC{t:TypeId}{fz:Nat×Nat}{v:Value}(h:s.has b (.cells ⟨l⟩ t fz))(hv:nth l off=some v):cg s b off 1 [v]:=
 ⟨_,_,_,h,by rw[rG] at hv;simp[iQ (show off+1≤l.length by have:=(List.getElem?_eq_some_iff.1 hv).1;omega),List.drop_eq_getElem_cons (List.getElem?_eq_some_iff.1 hv).1,(List.getElem?_eq_some_iff.1 hv).2]⟩
theorem aaQ{o m:Nat}{v:Value}(h:cg s b o m l)(hv:nth l off=some v):cg s b (o+off) 1 [v]:=
 h.part off 1 (by rw[rG] at hv;simp[iQ (show off+1≤l.length by have:=(List.getElem?_eq_some_iff.1 hv).1;omega),List.drop_eq_getElem_cons (List.getElem?_eq_some_iff.1 hv).1,(List.getElem?_eq_some_iff.1 hv).2])
end Go.L
