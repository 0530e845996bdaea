/- Part 9 of the proof: a program logic, contracts, a theorem on goroutines. -/
import Derived.Test.YtjpghiajlddegaaGreatDoorA8
set_option maxRecDepth 100000
set_option linter.all false
namespace Go.L
open Go Go.Conc
variable {R:Ending→St→Prop} {Φ:Value→Cells→Prop} {P:Program} {El:(Nat→Option Obj)→Nat→List Value→Cells→Prop} {κ ι α:Type} {f:FuncId} {vs z l fi ca:List Value} {s s':St} {T:TypeId} {tm:Array Value} {todo tR:List Nat} {o1:Option JS} {sz bE off r i bl n p b dep N:Nat} {rest e:Env} {C:Class} {as bd:Code} {X:Cx} {ag main:Bool} {cs:List Frame} {fr:Cells}
section
variable {X:Cx} {o:Option JS}
def nxV(n:Nat)(p:Oper)(e:Env):Option Nat:=match p.op with
 | .next x true=>match bu n e x with
  |some (.pointer (some ⟨r,0,none⟩))=>some r
  |_=>none
 |_=>none
theorem acu{p:Oper}(h:nxV n p e=some r):∃x,p.op= .next x true∧bu n e x=some (.pointer (some ⟨r,0,none⟩)):=by
 unfold nxV at h
 split at h<;>try (cases h;done)
 rename_i aB
 split at h<;>try (cases h;done)
 rename_i hx
 cases h
 exact⟨_,aB,hx⟩
def Rx(i:Nat)(v:Value)(b:Nat)(ob:Obj):Option JS→Option JS
 |some ⟨.ops ops (j::todo) k,e,w,kn⟩=>match ops[j]? with
  |some p=>some ⟨.ops ops todo k,upd p.dst v e,.b b ob::dE [i] 0 w,kn⟩
  |none=>none
 |_=>none
theorem jnA{b:ByteArray}{c:UInt8}(r i:Nat)(hp:b.data.toList[p]?=some c) (ha:c.toNat <128) (hj:J X (Rx i (.tuple ⟨[.bool true,.int .i64 p,.int .i32 c.toNat]⟩) r (.stringIter b (p+1)) o))
 (hv:e9 X.n (nxV X.n) o=some r:=by kernel_rfl) (hB:dY [i] o=some [(r,.stringIter b p)]:=by kernel_rfl):J X o:=by
 obtain⟨ops,i0,todo,kk,ev,w0,kn,q,rfl,ho,hw,hc⟩:=dz hv
 obtain⟨x,aB,hx⟩:=acu hc
 intro bW
 rcases q with ⟨dst,op,ty,pos,dc,g⟩
 dsimp only at aB;subst aB
 refine u3 X.hC (bH hB) (ajD X.hC ho hw hx hp ha ?_)
 simp only[Rx,ho] at hj
 have:=hj bW
 simp only[JP,iC] at this
 exact this
theorem jnZ{b:ByteArray}(r i:Nat)(hp:b.data.toList[p]?=none) (hj:J X (Rx i (.tuple ⟨[.bool false]⟩) r (.stringIter b p) o))
 (hv:e9 X.n (nxV X.n) o=some r:=by kernel_rfl) (hB:dY [i] o=some [(r,.stringIter b p)]:=by kernel_rfl):J X o:=by
 obtain⟨ops,i0,todo,kk,ev,w0,kn,q,rfl,ho,hw,hc⟩:=dz hv
 obtain⟨x,aB,hx⟩:=acu hc
 intro bW
 rcases q with ⟨dst,op,ty,pos,dc,g⟩
 dsimp only at aB;subst aB
 refine u3 X.hC (bH hB) (ajC X.hC ho hw hx hp ?_)
 simp only[Rx,ho] at hj
 have:=hj bW
 simp only[JP,iC] at this
 exact this
theorem jcG{own:Cells}{Φ:Value→(Nat→Option Obj)→Cells→Prop}(ps:List Nat)(hf:FnG X.P f vs X.ro own Φ)(hj:∀v aK Y,Sub X.ro aK→Φ v aK Y→J (X.at aK) (mU ps v Y o))(h1:e9 X.n (xE X.P X.n) o=some (f,vs):=by kernel_rfl)(h2:dY ps o=some own:=by kernel_rfl):J X o:=by
 obtain⟨ops,i,todo,k,e,w,kn,p,rfl,ho,hw,hc⟩:=dz h1
 obtain⟨ff,x,xs,at_,fi,ca,ws,aB,hx,ry,rfl⟩:=qj hc
 intro bW
 rcases p with ⟨dst,op,ty,pos,dc,g⟩
 dsimp only at aB;subst aB
 have hp:=bH h2
 refine tC (fi:=⟨fi⟩) (ca:=⟨ca⟩) (ws:=fi++ws++ca) X.hC ho hw hx ff ry (Qo fi ws ca) (Fn.weaken X.hC (FnG.use (s:=⟨X.ro,den w⟩) hp hf)) (fun v' s' hr=>?_) (fun ch s' hr=>by obtain⟨_,_,_,e,_⟩:=hr;cases e) (fun s' hr=>by obtain⟨_,_,_,e,_⟩:=hr;cases e)
 obtain⟨v,aK,Y,hv,hs,pU,hle⟩:=hr
 cases hv
 have:=hj _ aK Y hs pU
 rw[nS ho] at this
 have:=this (bW.up hs)
 simp only[JP,gv,Hk] at this
 exact this.more X.hC hle
def agl(n:Nat)(p:Oper)(e:Env):Option (FuncId×List Value):=match p.op with
 | .call ⟨.value (.func f),xs,_⟩=>match xg n e xs.toList with
  |some vs=>some (f,vs)
  |none=>none
 |_=>none
theorem Mj{p:Oper}(h:agl n p e=some (f,vs)):∃xs at_,p.op= .call ⟨.value (.func f),xs,at_⟩∧xg n e xs.toList=some vs:=by
 unfold agl at h
 split at h<;>try (cases h;done)
 rename_i aB
 split at h<;>try (cases h;done)
 rename_i hx
 cases h
 exact⟨_,_,aB,hx⟩
theorem jib{a:ByteArray}{b:Int}(ef:EF X.P f Extern.BytealgIndexByte.indexByte)(hj:J X (jW (.int .i64 (O3 a b.toNat.toUInt8)) o))(hv:dG X.n (agl X.n) o=some (f,[.string a,.int .u8 b]):=by kernel_rfl):J X o:=by
 refine jGS hv (fun s p e _ hf=>?_) hj
 obtain⟨xs,at_,aB,hx⟩:=Mj hf
 rcases p with ⟨dst,op,ty,pos,dc,g⟩
 dsimp only at aB;subst aB
 exact⟨fun ops i sA rest hw s' hs todo Q hk=>acn X.hC sA hw ef (wJ hx) hk,fun hk=>by cases hk⟩
theorem aNw{v:Value}(ef:EF X.P f Extern.AbiNoEscape.same)(hj:J X (jW v o))(hv:dG X.n (agl X.n) o=some (f,[v]):=by kernel_rfl):J X o:=by
 refine jGS hv (fun s p e _ hf=>?_) hj
 obtain⟨xs,at_,aB,hx⟩:=Mj hf
 rcases p with ⟨dst,op,ty,pos,dc,g⟩
 dsimp only at aB;subst aB
 exact⟨fun ops i sA rest hw s' hs todo Q hk=>ajB X.hC sA hw ef (wJ hx) hk,fun hk=>by cases hk⟩
def mmV(n:Nat)(p:Oper)(e:Env):Option (Bool×Value×Value):=match p.op with
 | .call ⟨.builtin .min,⟨[x,y]⟩,⟨[_,_]⟩⟩=>match bu n e x with
  |some v=>match bu n e y with
   |some w=>some (true,v,w)
   |none=>none
  |none=>none
 | .call ⟨.builtin .max,⟨[x,y]⟩,⟨[_,_]⟩⟩=>match bu n e x with
  |some v=>match bu n e y with
   |some w=>some (false,v,w)
   |none=>none
  |none=>none
 |_=>none
theorem jmn{k:IntKind}{a b:Int}(hj:J X (jW (.int k (min a b)) o))(hv:dG X.n (mmV X.n) o=some (true,.int k a,.int k b):=by kernel_rfl):J X o:=by
 refine QG hv (fun s p e _ hf=>?_) hj
 unfold mmV at hf
 split at hf<;>try (cases hf;done)
 ·rename_i aB
  split at hf<;>try (cases hf;done)
  rename_i hx
  split at hf<;>try (cases hf;done)
  rename_i hy
  cases hf
  rcases p with ⟨dst,op,ty,pos,dc,g⟩
  dsimp only at aB;subst aB
  exact fun s0 ops i sA rest hw s' hs todo Q hk=>aqF X.hC sA hw (bn hx) (bn hy) hk
 ·split at hf<;>try (cases hf;done)
  split at hf<;>cases hf
theorem jmx{k:IntKind}{a b:Int}(hj:J X (jW (.int k (max a b)) o))(hv:dG X.n (mmV X.n) o=some (false,.int k a,.int k b):=by kernel_rfl):J X o:=by
 refine QG hv (fun s p e _ hf=>?_) hj
 unfold mmV at hf
 split at hf<;>try (cases hf;done)
 ·split at hf<;>try (cases hf;done)
  split at hf<;>cases hf
 ·rename_i aB
  split at hf<;>try (cases hf;done)
  rename_i hx
  split at hf<;>try (cases hf;done)
  rename_i hy
  cases hf
  rcases p with ⟨dst,op,ty,pos,dc,g⟩
  dsimp only at aB;subst aB
  exact fun s0 ops i sA rest hw s' hs todo Q hk=>aqG X.hC sA hw (bn hx) (bn hy) hk
theorem jsx(i b off:Nat)(c l:List Value)(t:TypeId)(h1:∀v∈l,single v=true)(hb:Nat.ble (off+l.length) c.length=true)(hj:J X (Rx i undef b (.cells ⟨dB c off l⟩ t (0,0)) o))(hv:e9 X.n (ai0 X.P X.n) o=some (⟨b,off,none⟩,l,l.length):=by kernel_rfl)(h2:dY [i] o=some [(b,.cells ⟨c⟩ t (0,0))]:=by kernel_rfl):J X o:=by
 obtain⟨ops,i0,todo,kk,ev,w,kn,p,rfl,ho,hw,hc⟩:=dz hv
 obtain⟨T,x,y,d,bE,z,ag,u,aB,tf,hx,hy,hu⟩:=UN hc
 intro bW
 rcases p with ⟨dst,op,ty,pos,dc,g⟩
 dsimp only at aB;subst aB
 refine u3 X.hC (bH h2) ?_
 refine ost X.hC ho hw tf hx hy hu rfl h1 (Nat.le_of_ble_eq_true hb) ?_
 simp only[Rx,ho] at hj
 have:=hj bW
 simp only[JP,iC] at this
 exact this
def aiV(P:Program)(n:Nat)(p:Oper)(e:Env):Option (List Value×Int×Nat×Nat×Bool):=match p.op with
 | .index T x y=>match ba P T with
  |some ⟨.array len E,_,_,_⟩=>match ba P E with
   |some te=>match bu n e x with
    |some (.agg ⟨l⟩)=>match bu n e y with
     |some (.int _ ix)=>some (l,ix,len,te.size,te.agg)
     |_=>none
    |_=>none
   |none=>none
  |_=>none
 |_=>none
theorem jai{v:Value}(ix:Int)(len sz:Nat)(ag:Bool)(hi:0≤ix∧ix <len)(hp:Ok ag l (ix.toNat*sz) sz=some v)(hj:J X (jW v o))(hv:dG X.n (aiV X.P X.n) o=some (l,ix,len,sz,ag):=by kernel_rfl):J X o:=by
 refine QG hv (fun s p e _ hf=>?_) hj
 unfold aiV at hf
 split at hf<;>try (cases hf;done)
 rename_i aB
 split at hf<;>try (cases hf;done)
 rename_i dR
 split at hf<;>try (cases hf;done)
 rename_i te tH
 split at hf<;>try (cases hf;done)
 rename_i hx
 split at hf<;>try (cases hf;done)
 rename_i hy
 cases hf
 obtain⟨b1,tf⟩:=au dR
 obtain⟨b2,qt⟩:=au tH
 rcases p with ⟨dst,op,ty,pos,dc,g⟩
 dsimp only at aB;subst aB
 exact fun s0 ops i sA rest hw s' hs todo Q hk=>aco X.hC sA hw tf qt (bn hx) (bn hy) hi hp hk
def Aw(m:Nat)(e:Env):Option JS→Option JS
 |some ⟨.ops ops todo k,_,w,kn⟩=>some ⟨.ops ops (todo.drop m) k,e,w,kn⟩
 |_=>none
theorem jj(m:Nat)(e:Env)(hj:∀rest,J X (Aw m (e++rest) o))(h:(∀o',Aw 0 [] o'=Aw m [] o→uf (oP e) o'=some e→J X o')→J X o)(hd:ZI (oP e) e=some e:=by kernel_rfl):J X o:=by
 refine h fun o' h1 h2=>?_
 cases o' with
 |none=>simp[uf] at h2
 |some s'=>
  rcases s' with ⟨p',e',w',kn'⟩
  cases o with
  |none=>exact(hj []).elim
  |some s=>
   rcases s with ⟨p,e0,w,kn⟩
   cases p' with
   |ops baT aaS k'=>
    cases p with
    |ops ops todo k=>
     simp only[Aw,Option.some.injEq,JS.mk.injEq,Pos.ops.injEq,List.drop_zero,true_and] at h1
     obtain⟨⟨rfl,rfl,rfl⟩,rfl,rfl⟩:=h1
     rw[sr] at h2
     obtain⟨r,hr⟩:=fX (n:=X.n) (D:=X.D) (kp h2) (kp hd)
     intro bW
     have:=hj r bW
     show ab _ _ _ _ _ _ (A X.n e' X.D) _
     rw[hr]
     exact this
    |_=>simp[Aw] at h1
   |_=>cases p<;>simp[Aw] at h1<;>exact(hj []).elim
end
attribute [irreducible] Aw Rx
section
variable {X:Cx} {o:Option JS}
def aqX(i:Nat)(rest:Env)(todo:List Nat):Option JS→Option JS
 |some ⟨.GK ops base Pl _ k,_,w,kn⟩=>some ⟨.ops ops (i::todo) k,cq ops base i Pl++rest,w,kn⟩
 |_=>none
def LK(X:Cx)(i:Nat)(o:Option JS)(rest:Env)(todo:List Nat):Prop:=match o with
 |some ⟨.GK ops base Pl Sl k,_,w,kn⟩=>∀v s',(∀j u,(j,u)∈pending ops i Sl→sa ops X.n base Pl j=false→(∀B,(j,B)∈kn.nd→Ext ⟨X.ro,[]⟩ s'→(∀x∈B,s'.has x.1 x.2)→eS X.C X.fn X.aC ops X.n X.D j u (cq ops base j Pl) s')→eS X.C X.fn X.aC ops X.n X.D j u (cq ops base j Pl) ⟨X.ro,den w⟩→eS X.C X.fn X.aC ops X.n X.D j u (cq ops base j Pl) s')→
  (PF X kn.nd ops base ((i,v)::Pl) (pending ops i Sl)→sS X.C X.fn X.aC ops X.n X.D base ((i,v)::Pl) (pending ops i Sl) (KQ X k) s')→ab X.C X.fn X.aC ops todo (KQ X k) (A X.n (upd (aS ops i) v (cq ops base i Pl++rest)) X.D) s'
 |_=>True
def Vs(is:List Nat):Option JS→Bool
 |some ⟨.GK ops _ Pl Sl _,_,_,_⟩=>fG ops&&((is.all fun i=>Nat.blt i ops.size&& !bk i (ak Pl))&&(nodupB (ak Pl)&&(oG ops (ak Pl)&&(fH (ak Sl) (ak Pl)&&(acg ops (ak Pl) is&& !is.isEmpty)))))
 |_=>false
def ahw(X:Cx)(o:Option JS):List Nat→Prop
 | []=>True
 |i::is=>(∀rest todo,LK X i o rest todo→J X (aqX i rest todo o))∧ahw X o is
theorem mO(is:List Nat)(h:ahw X o is)(hb:Vs is o=true:=by kernel_rfl):J X o:=by
 unfold Vs at hb
 split at hb<;>try (cases hb;done)
 rename_i ops base Pl Sl k e w kn
 simp only[Bool.and_eq_true,Bool.not_eq_true'] at hb
 obtain⟨h1,h2,h3,h4,h5,h6,h7⟩:=hb
 intro bW hpf
 refine Zq is h1 h2 h3 h4 h5 h6 ?_ h7
 clear h6 h7
 induction is with
 |nil=>trivial
 |cons i is ih=>
  simp only[List.all_cons,Bool.and_eq_true,Bool.not_eq_true'] at h2
  refine⟨fun rest todo hk=>h.1 rest todo (fun v s' hp ha=>?_) bW,ih h.2 h2.2⟩
  have iS:∀x,x∈pending ops i Sl→x∈Sl:=fun x hx=>(List.mem_filter.1 hx).1
  refine hk v s' (fun j u Hz bS=>?_) (ha ⟨fun j u Hz Yv s0=>?_,fun j u B Hz hB s0 FO uC=>?_⟩)
  ·cases Yv:sa ops X.n base Pl j with
   |true=>exact hpf.1 j u (iS _ Hz) Yv s'
   |false=>exact hp j u Hz Yv (fun B hB hx hb=>hpf.2 j u B (iS _ Hz) hB s' hx hb) bS
  ·have Ng:j∈ak Sl:=aR.2 ⟨u,iS _ Hz⟩
   have qo:i∉bw ops j:=fun hd=>by
    have h8:=bK.1 h5 j Ng
    have h9:=bK.1 (List.all_eq_true.1 h4 j h8) i hd
    rw[aL.2 h9] at h2;exact absurd h2.1.2 (by simp)
   rw[cR qo]
   exact hpf.1 j u (iS _ Hz) (by simp only[sa,cR qo] at Yv;exact Yv) s0
  ·have Ng:j∈ak Sl:=aR.2 ⟨u,iS _ Hz⟩
   have qo:i∉bw ops j:=fun hd=>by
    have h8:=bK.1 h5 j Ng
    have h9:=bK.1 (List.all_eq_true.1 h4 j h8) i hd
    rw[aL.2 h9] at h2;exact absurd h2.1.2 (by simp)
   rw[cR qo]
   exact hpf.2 j u B (iS _ Hz) hB s0 FO uC
theorem aN(i:Nat)(h:∀rest todo,LK X i o rest todo→J X (aqX i rest todo o))(hb:Vs [i] o=true:=by kernel_rfl):J X o:=mO [i] ⟨h,trivial⟩ hb
def T6(i:Nat):Option JS→Option JS→Option JS
 |some ⟨.GK ops base Pl Sl k,e,_,kn⟩,some ⟨.ops _ _ _,e',w',kn'⟩=>some ⟨.GK ops base ((i,match aS ops i with
  |some d=>(gM e' d).getD undef
  |none=>undef)::Pl) (pending ops i Sl) k,e,w',⟨kn'.c,kn.nd⟩⟩
 |_,_=>none
def bkL(i:Nat)(rest:Env)(todo:List Nat):Option JS→Option JS→Option JS
 |some ⟨.GK ops base Pl _ k,_,_,_⟩,some ⟨_,e',w',kn'⟩=>some ⟨.ops ops todo k,upd (aS ops i) (match aS ops i with
  |some d=>(gM e' d).getD undef
  |none=>undef) (cq ops base i Pl++rest),w',kn'⟩
 |_,_=>none
theorem T1{o:Option JS}(h:bkL i rest todo o o1=o1)(h1:o1≠none):∃ops base Pl Sl k e w kn v w' kn',o=some ⟨.GK ops base Pl Sl k,e,w,kn⟩∧o1=some ⟨.ops ops todo k,upd (aS ops i) v (cq ops base i Pl++rest),w',kn'⟩:=by
 unfold bkL at h
 split at h
 ·simp only[Option.some.injEq,JS.mk.injEq] at h
  obtain⟨rfl,h,_⟩:=h
  exact⟨_,_,_,_,_,_,_,_,_,_,_,rfl,by rw[h]⟩
 ·exact(h1 h.symm).elim
def rwO:Option JS→List Sg
 |some s=>s.rw
 |none=>[]
theorem bD(hK:LK X i o rest todo)(is:List Nat)(hj:J X (T6 i o o1))(hc:bkL i rest todo o o1=o1:=by kernel_rfl)(h2:qE is o1=some (rwO o):=by kernel_rfl):J X o1:=by
 by_cases eg:o1=none
 ·subst eg
  cases o with
  |none=>exact hj
  |some s=>rcases s with ⟨p,e,w,kn⟩;cases p<;>exact hj
 obtain⟨jZ,base,Pl,Sl,k,e,w,kn,v,w',kn',rfl,rfl⟩:=T1 hc eg
 intro bW
 have hp:=lF h2
 have hv:(match aS jZ i with
  |some d=>(gM (upd (aS jZ i) v (cq jZ base i Pl++rest)) d).getD undef
  |none=>undef)=v∨aS jZ i=none:=by
  cases hd:aS jZ i with
  |none=>exact .inr rfl
  |some d=>left;simp[upd,gM]
 have hj:=hj bW
 simp only[T6,JP] at hj
 have key:=hK (match aS jZ i with
  |some d=>(gM (upd (aS jZ i) v (cq jZ base i Pl++rest)) d).getD undef
  |none=>undef) ⟨X.ro,den w'⟩ (fun j u _ _ _ hs=>hs.ext fun b ob hb=>?_) hj
 ·show ab _ _ _ _ _ _ _ _
  rcases hv with hv|hv
  ·rw[hv] at key;exact key
  ·rw[hv] at key ⊢;exact key
 ·rcases hb with hb|hb
  ·exact .inl hb
  ·exact .inr (hp.mem_iff.2 (List.mem_append_left _ hb))
def ab2(i:Nat):Option JS→Bool
 |some ⟨.GK ops _ _ Sl _,_,_,_⟩=>(pending ops i Sl).isEmpty
 |_=>false
theorem dV(hK:LK X i o rest todo)(hj:J X (T6 i o o1))(hc:bkL i rest todo o o1=o1:=by kernel_rfl)(h2:ab2 i o=true:=by kernel_rfl):J X o1:=by
 by_cases eg:o1=none
 ·subst eg
  cases o with
  |none=>exact hj
  |some s=>rcases s with ⟨p,e,w,kn⟩;cases p<;>exact hj
 obtain⟨jZ,base,Pl,Sl,k,e,w,kn,v,w',kn',rfl,rfl⟩:=T1 hc eg
 intro bW
 have hv:(match aS jZ i with
  |some d=>(gM (upd (aS jZ i) v (cq jZ base i Pl++rest)) d).getD undef
  |none=>undef)=v∨aS jZ i=none:=by
  cases hd:aS jZ i with
  |none=>exact .inr rfl
  |some d=>left;simp[upd,gM]
 have hj:=hj bW
 simp only[T6,JP] at hj
 have hpe:pending jZ i Sl=[]:=by simpa [ab2] using h2
 have key:=hK (match aS jZ i with
  |some d=>(gM (upd (aS jZ i) v (cq jZ base i Pl++rest)) d).getD undef
  |none=>undef) ⟨X.ro,den w'⟩ (fun j u Hz=>by rw[hpe] at Hz;cases Hz) hj
 show ab _ _ _ _ _ _ _ _
 rcases hv with hv|hv
 ·rw[hv] at key;exact key
 ·rw[hv] at key ⊢;exact key
def ndG:List (Nat×Cells)→Nat→Option Cells
 | [],_=>none
 | (i,B)::l,j=>bif Nat.beq i j then some B else ndG l j
theorem Vh{j:Nat}{B:Cells}:∀ {l:List (Nat×Cells)},ndG l j=some B→(j,B)∈l
 | (i,C)::l,h=>by
  simp only[ndG] at h
  cases hb:Nat.beq i j with
  |true=>
   rw[hb] at h;simp only[cond_true,Option.some.injEq] at h;subst h
   have:=Nat.eq_of_beq_eq_true hb;subst this
   exact List.mem_cons_self
  |false=>rw[hb] at h;simp only[cond_false] at h;exact List.mem_cons_of_mem _ (Vh h)
structure Rk where
 a:List Value
 b:List Value
 c:List (Option Cells)
 d:List (Option Cells)
def aE7(ps:List Nat)(w:List Sg):Option Cells:=bif Fi ps then (match Oh ps w with
 |some x=>some (den x)
 |none=>none) else none
def rkL(P:Program)(n:Nat)(ops:Array Oper)(base:Env)(Pl:List (Nat×Value))(nd:List (Nat×Cells))(w:List Sg)(kn:Cells):List (List Nat)→List (Nat×Value)→Option Rk
 |_,[]=>some ⟨[],[],[],[]⟩
 |hs,(j,u)::r=>bif sa ops n base Pl j then rkL P n ops base Pl nd w kn hs r else (match hs with
  |h::hs=>match ndG nd j with
   |some B=>match rkL P n ops base Pl nd w kn hs r with
    |some ⟨a,b,c,d⟩=>some ⟨a,b,aE7 h w::c,some B::d⟩
    |none=>none
   |none=>match ops[j]? with
    |some p=>match vx ops n (cq ops base j Pl) p.guard with
     |some true=>match p.op with
      | .load T x=>match bu n (cq ops base j Pl) x with
       |some (.pointer (some ⟨b,off,none⟩))=>match AB w kn (h.headD 0) with
        |some (b',l)=>match ldv P T l off with
         |some v=>match rkL P n ops base Pl nd w kn hs r with
          |some ⟨a1,b1,c,d⟩=>some ⟨v:: .int .i64 b'::a1,u:: .int .i64 b::b1,c,d⟩
          |none=>none
         |none=>none
        |none=>none
       |_=>none
      |_=>none
     |_=>none
    |none=>none
  | []=>none)
theorem Ki{ops:Array Oper}{base:Env}{Pl:List (Nat×Value)}{nd:List (Nat×Cells)}{w:List Sg}{kn:Cells}(bW:Knows X.ro kn):∀ {l:List (Nat×Value)} {hs:List (List Nat)} {k:Rk},rkL X.P X.n ops base Pl nd w kn hs l=some k→k.a=k.b→k.c=k.d→∀j u,(j,u)∈l→sa ops X.n base Pl j=false→
 (∀B,(j,B)∈nd→Ext ⟨X.ro,[]⟩ ⟨X.ro,den w⟩→(∀x∈B,(⟨X.ro,den w⟩:St).has x.1 x.2)→eS X.C X.fn X.aC ops X.n X.D j u (cq ops base j Pl) ⟨X.ro,den w⟩)→eS X.C X.fn X.aC ops X.n X.D j u (cq ops base j Pl) ⟨X.ro,den w⟩
 | [],_,_,_,_,_,j,u,h,_,_=>by cases h
 | (j0,u0)::r,hs,k,h,Ee,hcd,j,u,hm,hpj,lX=>by
  simp only[rkL] at h
  cases Yv:sa ops X.n base Pl j0 with
  |true=>
   rw[Yv] at h;simp only[cond_true] at h
   rcases List.mem_cons.1 hm with h1|h1
   ·cases h1;rw[Yv] at hpj;cases hpj
   ·exact Ki bW h Ee hcd j u h1 hpj lX
  |false=>
   rw[Yv] at h;simp only[cond_false] at h
   split at h<;>try (cases h;done)
   rename_i h0 cy
   split at h
   ·rename_i B hB
    split at h<;>try (cases h;done)
    rename_i a b c d hr
    cases h
    simp only[List.cons.injEq] at hcd
    rcases List.mem_cons.1 hm with h1|h1
    ·cases h1
     refine lX B (Vh hB) Mi fun x hx=> .inr ?_
     have hw:=hcd.1
     unfold aE7 at hw
     cases ho:Fi h0 with
     |false=>rw[ho] at hw;cases hw
     |true=>
      rw[ho] at hw;simp only[cond_true] at hw
      split at hw<;>try (cases hw;done)
      rename_i y hy
      simp only[Option.some.injEq] at hw;subst hw
      exact(wC hy ho).mem_iff.2 (List.mem_append_left _ hx)
    ·exact Ki bW hr Ee hcd.2 j u h1 hpj lX
   ·split at h<;>try (cases h;done)
    rename_i p hp
    have Dt:aS ops j0=p.dst:=by simp only[aS,hp,Option.bind_some]
    split at h<;>try (cases h;done)
    rename_i hg
    split at h<;>try (cases h;done)
    rename_i T x aB
    split at h<;>try (cases h;done)
    rename_i b0 off hx
    split at h<;>try (cases h;done)
    rename_i b' l hc
    split at h<;>try (cases h;done)
    rename_i v hv
    split at h<;>try (cases h;done)
    rename_i a1 b1 c d hr
    cases h
    simp only[List.cons.injEq,Value.int.injEq,true_and] at Ee
    obtain⟨rfl,hb,Ee⟩:=Ee
    have hb:b'=b0:=by omega
    subst hb
    rcases List.mem_cons.1 hm with h1|h1
    ·cases h1
     obtain⟨t,fz,hh⟩:=yG (X:=X) bW hc
     intro s1 hx1 rest todo Q hk
     rw[Dt] at hk
     exact lG X.hC hp rest (nB hg rest) (by rw[aB];rfl) (ac1 aB hx hh hv) hx1 hk
    ·exact Ki bW hr Ee hcd j u h1 hpj lX
def rkO(P:Program)(n i:Nat)(hs:List (List Nat)):Option JS→Option JS→Option Rk
 |some ⟨.GK ops base Pl Sl _,_,_,kn⟩,some s1=>rkL P n ops base Pl kn.nd s1.rw s1.kn.c hs (pending ops i Sl)
 |_,_=>none
def rkA:Option Rk→Option (List Value×List (Option Cells))
 |some k=>some (k.a,k.c)
 |none=>some ([],[])
def rkB:Option Rk→Option (List Value×List (Option Cells))
 |some k=>some (k.b,k.d)
 |none=>none
theorem gX(hK:LK X i o rest todo)(hs:List (List Nat))(hj:J X (T6 i o o1))(hc:bkL i rest todo o o1=o1:=by kernel_rfl)(h2:rkA (rkO X.P X.n i hs o o1)=rkB (rkO X.P X.n i hs o o1):=by kernel_rfl):J X o1:=by
 by_cases eg:o1=none
 ·subst eg
  cases o with
  |none=>exact hj
  |some s=>rcases s with ⟨p,e,w,kn⟩;cases p<;>exact hj
 obtain⟨jZ,base,Pl,Sl,k,e,w,kn,v,w',kn',rfl,rfl⟩:=T1 hc eg
 intro bW
 have hv:(match aS jZ i with
  |some d=>(gM (upd (aS jZ i) v (cq jZ base i Pl++rest)) d).getD undef
  |none=>undef)=v∨aS jZ i=none:=by
  cases hd:aS jZ i with
  |none=>exact .inr rfl
  |some d=>left;simp[upd,gM]
 have hj:=hj bW
 simp only[T6,JP] at hj
 have bS:∀j u,(j,u)∈pending jZ i Sl→sa jZ X.n base Pl j=false→(∀B,(j,B)∈kn.nd→Ext ⟨X.ro,[]⟩ ⟨X.ro,den w'⟩→(∀x∈B,(⟨X.ro,den w'⟩:St).has x.1 x.2)→eS X.C X.fn X.aC jZ X.n X.D j u (cq jZ base j Pl) ⟨X.ro,den w'⟩)→eS X.C X.fn X.aC jZ X.n X.D j u (cq jZ base j Pl) ⟨X.ro,den w'⟩:=by
  simp only[rkO] at h2
  cases hr:rkL X.P X.n jZ base Pl kn.nd w' kn'.c hs (pending jZ i Sl) with
  |none=>rw[hr] at h2;cases h2
  |some x=>
   rw[hr] at h2
   simp only[rkA,rkB,Option.some.injEq,Prod.mk.injEq] at h2
   exact Ki bW hr h2.1 h2.2
 have key:=hK (match aS jZ i with
  |some d=>(gM (upd (aS jZ i) v (cq jZ base i Pl++rest)) d).getD undef
  |none=>undef) ⟨X.ro,den w'⟩ (fun j u Hz Yv hn _=>bS j u Hz Yv hn) hj
 show ab _ _ _ _ _ _ _ _
 rcases hv with hv|hv
 ·rw[hv] at key;exact key
 ·rw[hv] at key ⊢;exact key
end
attribute [irreducible] rkO rkA rkB aqX Vs T6 bkL rwO ab2
abbrev RY(ro:Nat→Option Obj)(Φ:Value→Cells→Prop):Ending→St→Prop:=fun en s'=>∃v X,en= .returned v∧(⟨ro,X⟩:St).le s'∧Φ v X
theorem Round.mono{l:Nat}{R':Ending→St→Prop}(h:Round C l f tm as bd s R)(hr:∀e s,R e s→R' e s):Round C l f tm as bd s R':=
 fun main T hT c cs k1 k2=>h main T hT c cs (fun v s' hv=>k1 v s' (hr _ _ hv)) (fun ch s' hv=>k2 ch s' (hr _ _ hv))
theorem Round.weaken{C':Class}(hc:∀main T,C' main T→C main T){l:Nat}(h:Round C l f tm as bd s R):Round C' l f tm as bd s R:=
 fun main T hT=>h main T (hc main T hT)
theorem Round.frame{l:Nat}{s1:St}{B:Cells}{ro:Nat→Option Obj}(hf:Round (CP P) l f tm as bd s1 R)(hB:∀x∈B,x∈fr)(hc:ZC fr B ro s1 s):
 Round (CP P) l f tm as bd s (fun en s'=>∃xS,R en xS∧ZC fr B ro xS s'):=
 fun main T hT c cs k1 k2=>hf main _ (Ak hT hB ro) c cs (fun v xS hv _ s' sC=>k1 v s' ⟨xS,hv,sC⟩) (fun ch xS hv _ s' sC=>k2 ch s' ⟨xS,hv,sC⟩) rfl s hc
def aad(r:Loop)(vs:List Value):Array Value:=(r.params.zip ⟨vs⟩).foldl (fun tmps (x:Tmp×Value)=>tmps.setIfInBounds x.1 x.2) r.tmps
def YX(P:Program)(bl:Nat)(vs:List Value)(ro:Nat→Option Obj)(own:Cells)(Φ:Value→Cells→Prop):Prop:=
 ∃r,(bl,.loop r)∈own∧vs.length=r.params.size∧Round (CP P) bl r.fn (aad r vs) r.assign r.body ⟨ro,own⟩ (RY ro Φ)
theorem YX.use{ro:Nat→Option Obj}{own:Cells}(hy:YX P bl vs ro own Φ)(hs:Sub ro s.ro)(hp:s.rw.Perm (own++fr)){Q:Next→St→Prop}{E:Halt→St→Prop}
 (h:∀l f tm as bd,Round (CP P) l f tm as bd s (fun en s'=>∃v X,en= .returned v∧Φ v X∧(⟨s.ro,X++fr⟩:St).le s')→Q (.round l f tm as bd) s):bN P (Instr.yield bl ⟨vs⟩) s Q E:=by
 obtain⟨r,h1,h2,h3⟩:=hy
 simp only[Instr.yield,Instr.getLoop,aa]
 refine cE (o:= .loop r) (.inr (hp.mem_iff.2 (List.mem_append_left _ h1))) rfl rfl ?_
 have uA:¬(⟨vs⟩:Array Value).size≠r.params.size:=by simpa using h2
 simp only[af,if_neg uA]
 refine h _ _ _ _ _ (Round.mono (Round.frame (fr:=fr) (B:=[]) (ro:=s.ro) (s:=s) h3 (fun _ h=>(by cases h)) ⟨hp,fun b o hb=> .inl (hs b o hb),Sub.refl _⟩) fun en s' CG=>?_)
 obtain⟨xS,⟨v,X,rfl,⟨R,hR1,hR2⟩,pU⟩,hc⟩:=CG
 refine⟨v,X,rfl,pU,R,?_,fun b o hb=> .inl (hc.keep b o hb)⟩
 refine hc.rw.trans ((hR1.append_right fr).trans ?_)
 simp only[List.append_assoc]
 exact List.Perm.append_left _ List.perm_append_comm
section
variable {X:Cx} {o:Option JS}
def aoN(n:Nat)(p:Oper)(e:Env):Option (Nat×List Value):=match p.op with
 | .call ⟨.value x,xs,_⟩=>match bu n e x with
  |some (.func (.yield bl) ⟨[]⟩ ⟨[]⟩)=>match xg n e xs.toList with
   |some vs=>some (bl,vs)
   |none=>none
  |_=>none
 |_=>none
theorem jyc{oT:Nat→Option Obj}{own:Cells}(ps:List Nat)(hy:YX X.P bl vs oT own Φ)(fD:Sub oT X.ro)(hj:∀v Y,Φ v Y→J X (mU ps v Y o))(h1:e9 X.n (aoN X.n) o=some (bl,vs):=by kernel_rfl)(h2:dY ps o=some own:=by kernel_rfl):J X o:=by
 obtain⟨ops,i,todo,k,e,w,kn,p,rfl,ho,hw,hc⟩:=dz h1
 intro bW
 unfold aoN at hc
 split at hc<;>try (cases hc;done)
 rename_i x xs at_ aB
 split at hc<;>try (cases hc;done)
 rename_i bl' hx
 split at hc<;>try (cases hc;done)
 rename_i nV Dm
 cases hc
 rcases p with ⟨dst,op,ty,pos,dc,g⟩
 dsimp only at aB;subst aB
 have hp:=bH h2
 refine bR X.hC ho hw (by simp) ?_
 have QS:xs.map (ev X.n e)=⟨vs⟩:=rE Dm
 simp only[execOp,resolve,aG hx,Deferred.ofValue,af,QS]
 have hiv:(invoke (.fn (.yield bl) ⟨[]⟩) (⟨[]⟩++⟨vs⟩):Sem Next)=Instr.yield bl ⟨vs⟩:=by simp[invoke]
 rw[hiv]
 refine YX.use hy fD hp fun l f tm as bd hR=>?_
 show Round X.C l f tm as bd _ _
 refine Round.mono (Round.weaken X.hC hR) fun en s' CG=>?_
 obtain⟨v,Y,rfl,pU,hle⟩:=CG
 have:=hj v Y pU
 rw[nS ho] at this
 have:=this bW
 simp only[JP,gv] at this
 have:=this.more X.hC hle
 show ab _ _ _ _ _ _ _ _
 rw[a8]
 exact this
end
attribute [irreducible] aoN
def mk:List Nat→Cells
 | []=>[]
 |b::r=>(b,.deferred (some []))::mk r
def acM(P:Program)(fn:Func)(R:Ending→St→Prop):Post
 | .normal,a,s| .ret,a,s=>∃tR rest,a.defers=tR.map ez∧s.rw.Perm (mk tR++rest)∧bN P (results fn a.tmps) ⟨s.ro,rest⟩ (fun v s'=>∃s0,s0.le s'∧R (.returned v) s0) (fun _ _=>False)
 |_,_,_=>False
section
variable {P:Program} {C:Class}
theorem y7(hC:∀main T,C main T→Closed P main T){T:Goroutine→St→Prop}(hT:C main T){rest:Cells}:∀(tR:List Nat) (fr:Frame) (s:St),fr.mode= .returning→fr.defers=tR.map ez→s.rw.Perm (mk tR++rest)→T (G {fr with defers:=[]} cs) ⟨s.ro,rest⟩→T (G fr cs) s
 | [],fr,s,_,hd,hp,h=>by
  have:fr={fr with defers:=[]}:=by rcases fr with ⟨a,b,c,d,e,f,g⟩;simp only[List.map_nil] at hd;subst hd;rfl
  rw[this]
  exact(hC main T hT).mono _ ⟨s.ro,rest⟩ _ ⟨[],by simpa [mk] using hp,fun b o hb=> .inl hb⟩ h
 |b::r,fr,s,hm,hd,hp,h=>by
  obtain⟨L,Rr,hs⟩:=List.append_of_mem (hp.mem_iff.2 (List.mem_append_left _ List.mem_cons_self))
  refine unwind_mark hC hT (.inl hm) (ds:=r.map ez) (by simpa using hd) hs ?_
  have QK:(L++Rr).Perm (mk r++rest):=by
   rw[hs] at hp
   exact(List.perm_middle.symm.trans hp).cons_inv
  refine(hC main T hT).mono _ ⟨s.ro,L++Rr⟩ _ ⟨[(b,.deferred none)],?_,fun b o hb=> .inl hb⟩ (y7 hC hT r _ _ hm rfl QK h)
  exact List.perm_middle.trans (List.perm_append_singleton _ _).symm
theorem JF(hC:∀main T,C main T→Closed P main T){fn:Func}{c:Code}{args:Array Value} 
 (hf:P.funcs[f]?=some fn) (hb:fn.body=some c) (h:Wp C f none c (acM P fn R) ⟨args++Array.replicate (fn.ntmps-args.size) undef,[]⟩ s):Fn C P f args s R:=by
 intro main T hT cl cs k1 k2
 let b:Frame:={(default:Frame) with fn:=f,kind:= .normal,roundOf:=none}
 have gY:Frame.enter P f args .normal=aM b ⟨args++Array.replicate (fn.ntmps-args.size) undef,[]⟩ [.code c]:=by
  simp[Frame.enter,aM,hf,hb,b]
 rw[gY]
 refine h main T hT b [] (cl::cs) rfl (by simp[b]) rfl fun e a' s' q=>?_
 have rB:∀(todo:List Item),(∃tR rest,a'.defers=tR.map ez∧s'.rw.Perm (mk tR++rest)∧bN P (results fn a'.tmps) ⟨s'.ro,rest⟩ (fun v s'=>∃s0,s0.le s'∧R (.returned v) s0) (fun _ _=>False))→T (G {aM b a' todo with mode:= .returning} (cl::cs)) s':=by
  intro todo ⟨tR,rest,hd,hp,hr⟩
  exact y7 hC hT tR _ _ rfl hd hp (r5 hC hT hf rfl rfl rfl rfl hr k1)
 cases e with
 |normal=>
  exact(hC main T hT).go rfl rfl (g':=G {aM b a' [] with mode:= .returning} (cl::cs)) (fun w=>by simp[G,stepG,stepG.exec,aM,b]) (rB _ q)
 |ret=>
  exact fun todo=>(hC main T hT).go rfl rfl (g':=G {aM b a' (.code .ret::todo) with mode:= .returning} (cl::cs)) (fun w=>by simp[G,stepG,stepG.exec,aM,b]) (rB _ q)
 |panic ch=>exact q.elim
 |exit id=>exact q.elim
 |goto l=>exact q.elim
 |outgrown=>exact q.elim
end
def XM(P:Program)(hm:P.follows .mixedOrders=true)(f:FuncId)(ro:Nat→Option Obj)(R:Ending→St→Prop):Cx:=⟨P,CP P,eW,hm,f,none,(sI P f).ntmps,[],ro,acM P (sI P f) R⟩
theorem akm(hm:P.follows .mixedOrders=true){args:List Value}{ro:Nat→Option Obj}{L:Cells}(own:List Sg)(kn:Cells)(hk:Knows ro kn)(h:J (XM P hm f ro (RX ro Φ)) (kJ P f args own kn))(hL:den own=L:=by rfl):eI P f args ro L Φ:=by
 subst hL
 unfold kJ at h
 split at h<;>try exact h.elim
 rename_i fn hf
 split at h<;>try exact h.elim
 rename_i c hc
 cases hl:Nat.ble args.length fn.ntmps with
 |false=>rw[hl] at h;exact h.elim
 |true=>
  rw[hl] at h
  have ui:sI P f=fn:=by simp only[sI,hf]
  have:=h hk
  simp only[JP,XM,KQ,ui] at this
  refine JF eW hf hc ?_
  have he:=kA args fn.ntmps (Nat.le_of_ble_eq_true hl)
  rw[←he] at this
  exact this
structure QM(X:Cx)(R:Ending→St→Prop)(tR:List Nat):Prop where
 q:X.Q=acM X.P (sI X.P X.fn) R
 d:X.D=tR.map ez
def Cx.dm(X:Cx)(bd:Nat):Cx:={X with D:=ez bd::X.D}
theorem qm0{hm:P.follows .mixedOrders=true}{ro:Nat→Option Obj}:QM (XM P hm f ro R) R []:=⟨rfl,rfl⟩
theorem QM.a{ro:Nat→Option Obj}(h:QM X R tR):QM (X.at ro) R tR:=⟨h.q,h.d⟩
theorem QM.m{bd:Nat}(h:QM X R tR):QM (X.dm bd) R (bd::tR):=⟨h.q,by simp[Cx.dm,h.d]⟩
theorem QM.w{aFm:List Nat}(h:QM X R tR):QM (X.wd (aFm.map ez)) R aFm:=⟨h.q,rfl⟩
def B2(pm:List Nat):Option JS→Option JS
 |some ⟨p,e,w,kn⟩=>some ⟨p,e,dE pm 0 w,kn⟩
 |none=>none
section
variable {X:Cx} {o:Option JS}
theorem jrM{oT:Nat→Option Obj}(hq:QM X (RX oT Φ) tR)(v:Value)(pm hs ps:List Nat)(Y:Cells)(fD:Sub oT X.ro)(hR:Φ v Y)(h0:dY pm o=some (mk tR):=by kernel_rfl)(h1:sG (jM X.P X.n X.fn hs (B2 pm o))=some v:=by kernel_rfl)(h2:QX (jM X.P X.n X.fn hs (B2 pm o))=QW (jM X.P X.n X.fn hs (B2 pm o)):=by kernel_rfl)(h3:dY ps (B2 pm o)=some Y:=by kernel_rfl)(h4:BV o=true:=by kernel_rfl):J X o:=by
 obtain⟨ex,e,w,kn,rfl,hex⟩:=sL h4
 simp only[B2,jM] at h1 h2 h3
 cases hr:Bc X.P X.n e (dE pm 0 w) kn.c hs (sI X.P X.fn).results.toList with
 |none=>simp only[hr,sG] at h1;cases h1
 |some x=>
  rcases x with ⟨vs,q⟩
  simp only[hr,sG,Option.some.injEq,QX,QW] at h1 h2
  intro bW
  have rB:=td bW hr (lY h2)
  have hp:=bH h3
  have Hu:=N4 (s0:=⟨oT,Y⟩) (R:=RX oT Φ) hex rB h1 (dQ hp fD) ⟨v,Y,rfl,rfl,hR⟩
  have ht:bN X.P (results (sI X.P X.fn) (A X.n e X.D).tmps) ⟨X.ro,den (dE pm 0 w)⟩ (fun v s'=>∃s0,s0.le s'∧RX oT Φ (.returned v) s0) (fun _ _=>False):=by
   rcases hex with rfl|rfl<;>exact Hu.2
  show X.Q ex (A X.n e X.D) ⟨X.ro,den w⟩
  rw[hq.q]
  have hm:∃tR rest,(A X.n e X.D).defers=tR.map ez∧(den w).Perm (mk tR++rest)∧bN X.P (results (sI X.P X.fn) (A X.n e X.D).tmps) ⟨X.ro,rest⟩ (fun v s'=>∃s0,s0.le s'∧RX oT Φ (.returned v) s0) (fun _ _=>False):=⟨tR,_,hq.d,bH h0,ht⟩
  rcases hex with rfl|rfl<;>exact hm
end
attribute [irreducible] B2
def upQ(Q:Post):Post:=fun e a s=>∃s0,s0.le s∧Q e a s0
theorem jK.more{T:Goroutine→St→Prop}(hT:Closed P main T){b:Frame}{k:List Item}(hl:s.le s'):∀ {e:Exit} {a:Act},jK T b k cs e a s→jK T b k cs e a s'
 | .normal,_,h=>hT.mono _ _ _ hl h
 | .exit id,a,h=>by
  simp only[jK] at h ⊢
  cases hk:exitTo id k with
  |some k'=>rw[hk] at h;exact hT.mono _ _ _ hl h
  |none=>rw[hk] at h;exact fun todo ht=>hT.mono _ _ _ hl (h todo ht)
 | .ret,_,h=>fun todo=>hT.mono _ _ _ hl (h todo)
 | .panic _,_,h=>fun todo=>hT.mono _ _ _ hl (h todo)
 | .goto _,_,h=>h.elim
 | .outgrown,_,h=>h.elim
theorem awz(hC:∀main T,C main T→Closed P main T){fn:FuncId}{aC:Option Nat}{c:Code}{Q:Post}{a:Act}(h:Wp C fn aC c (upQ Q) a s):Wp C fn aC c Q a s:=
 fun main T hT b k cs h1 h2 h3 h4=>h main T hT b k cs h1 h2 h3 fun _ _ _ ⟨_,hl,hq⟩=>jK.more (hC _ _ hT) hl (h4 _ _ _ hq)
def ItX(P:Program)(g:FuncId)(fi ca:List Value)(ro:Nat→Option Obj)(own:Cells)(N:Nat)(El:(Nat→Option Obj)→Nat→List Value→Cells→Prop)(Ψ:Cells→Prop):Prop:=
 ∀(bl:Nat) (aE:Nat→Option Obj) (Inv:Nat→Cells→Prop) (Stop:Cells→Prop),Sub ro aE→
  (∀k vs LL B lR,k <N→El lR k vs LL→Inv k B→Sub aE lR→YX P bl vs lR (LL++B) (fun r B'=>(r= .bool true∧Inv (k+1) B')∨(r= .bool false∧Stop B')))→
  ∀B,Inv 0 B→eI P g (fi++[.func (.yield bl) #[] #[]]++ca) aE (own++B) (fun _ Y=>∃Z B',Y=Z++B'∧Ψ Z∧(Inv N B'∨Stop B'))
theorem Round.more(hC:∀main T,C main T→Closed P main T){l:Nat}(hl:s.le s')(h:Round C l f tm as bd s R):Round C l f tm as bd s' R:=
 fun main T hT c cs k1 k2=>(hC _ _ hT).mono _ _ _ hl (h main T hT c cs k1 k2)
def rfV(P:Program)(n:Nat):Option JS→Option (FuncId×List Value×List Value×Nat)
 |some ⟨.code (.rangeFunc x ps _ _) _,e,_,_⟩=>match bu n e x with
  |some (.func (.func g) ⟨fi⟩ ⟨ca⟩)=>bif AW P g then some (g,fi,ca,ps.size) else none
  |_=>none
 |_=>none
def lpO(X:Cx)(bd:Nat):Option JS→Loop
 |some ⟨.code (.rangeFunc _ ps a b) _,e,_,_⟩=>iu X.fn (A X.n e X.D).tmps ps a b bd
 |_=>iu X.fn #[] #[] .ret .ret bd
def aFi:Option JS→Code
 |some ⟨.code (.rangeFunc _ _ _ b) _,_,_,_⟩=>b
 |_=> .ret
def NY:List Tmp→List Value→Env→Env
 |t::ts,v::vs,e=>NY ts vs (upd (some t) v e)
 |_,_,e=>e
theorem NX{D:List Deferred}:∀(ts:List Tmp) (vs:List Value) (e:Env),(ts.zip vs).foldl (fun(tm:Array Value) (x:Tmp×Value)=>tm.setIfInBounds x.1 x.2) (A n e D).tmps=(A n (NY ts vs e) D).tmps
 | [],_,_=>rfl
 |_::_,[],_=>rfl
 |t::ts,v::vs,e=>by
  have:=a8 n e D (some t) v
  simp only[Act.put] at this
  simp only[List.zip_cons_cons,List.foldl_cons,NY]
  rw[←NX ts vs,←this]
def rdO(X:Cx)(bl bd:Nat)(vs:List Value)(w:List Sg)(o:Option JS):Option JS:=match o with
 |some ⟨.code (.rangeFunc _ ps a _) _,e,_,kn⟩=>some ⟨.code a [],NY ps.toList vs e,.b bl (.loop (lpO X bd o))::w,⟨kn.c,[]⟩⟩
 |_=>none
def afO(jump:Option Code)(bd:Nat)(Z:Cells)(wi:List Sg)(is:List Nat):Option JS→Option JS
 |some ⟨.code _ k,e,w,kn⟩=>match jump with
  |none=>some ⟨Of k,e,.b bd (.deferred (some [])):: .l Z::(wi++dE is 0 w),⟨kn.c,[]⟩⟩
  |some .ret=>some ⟨.fin .ret,e,.b bd (.deferred (some [])):: .l Z::(wi++dE is 0 w),⟨kn.c,[]⟩⟩
  |some (.exit id)=>match As id k with
   |some p=>some ⟨p,e,.b bd (.deferred (some [])):: .l Z::(wi++dE is 0 w),⟨kn.c,[]⟩⟩
   |none=>none
  |_=>none
 |_=>none
def aoO(bl:Nat)(Lp:Loop)(wf:ι→List Sg)(Inv:Nat→ι→Prop)(Sp:Code→ι→Prop)(k:Nat):Value→Cells→Prop:=fun r B=>
 (r= .bool true∧∃j,Inv (k+1) j∧B=(bl,.loop Lp)::den (wf j))∨(r= .bool false∧∃jump j,Sp jump j∧B=(bl,.loop {Lp with state:= .done,pending:=some jump})::den (wf j))
def Cx.rd(X:Cx)(bl:Nat)(ro:Nat→Option Obj)(Φ:Value→Cells→Prop)(body:Code):Cx:=⟨X.P,CP X.P,eW,X.hm,X.fn,some bl,X.n,[],ro,Hb (CP X.P) (RY ro Φ) bl X.fn body⟩
def Cx.re(X:Cx)(bl:Nat)(ro:Nat→Option Obj)(Φ:Value→Cells→Prop):Cx:=⟨X.P,CP X.P,eW,X.hm,X.fn,some bl,X.n,[],ro,Bb (RY ro Φ) bl⟩
theorem JW{bd:Nat}:∀(k:List KI),KQ (X.dm bd) k=KQ X k
 | []=>rfl
 | .seq _::k=>by simp only[KQ,JW k];rfl
 | .block _::k=>by simp only[KQ,JW k]
 | .next _::k=>by simp only[KQ,JW k]
theorem I3(Z W R:List α)(x y:α):((Z++x::W)++y::R).Perm (x::y::(Z++(W++R))):=by
 refine List.perm_middle.trans ?_
 rw[List.append_assoc,List.cons_append]
 exact(List.Perm.cons y List.perm_middle).trans (List.Perm.swap _ _ _)
section
variable {X:Cx} {o:Option JS}
theorem jrf{g:FuncId}{np:Nat}{Ψ:Cells→Prop}(ow:List Sg)(hit:ItX X.P g fi ca X.ro (den ow) N El Ψ)(ZQ:∀ro k vs LL,El ro k vs LL→vs.length=np)
 (wf:ι→List Sg)(Inv:Nat→ι→Prop)(Sp:Code→ι→Prop)(i0:ι)(h0:Inv 0 i0)(is:List Nat)
 (hb:∀bl bd k vs LL i lR,k <N→El lR k vs LL→Inv k i→Sub X.ro lR→J (X.rd bl lR (aoO bl (lpO X bd o) wf Inv Sp k) (aFi o)) (rdO X bl bd vs (wf i++[.l LL]) o))
 (hN:∀bd i Z,Inv N i→Ψ Z→J (X.dm bd) (afO none bd Z (wf i) is o))(hS:∀bd i Z jump,Sp jump i→Ψ Z→J (X.dm bd) (afO (some jump) bd Z (wf i) is o))
 (h1:rfV X.P X.n o=some (g,fi,ca,np):=by kernel_rfl)(h2:qE is o=some (ow++wf i0):=by kernel_rfl)(hf:(X.P.funcs[X.fn]?).isSome=true:=by kernel_rfl) (hr:X.aC=none:=by rfl):J X o:=by
 unfold rfV at h1
 split at h1<;>try (cases h1;done)
 rename_i x params assign body k e w kn
 split at h1<;>try (cases h1;done)
 rename_i g' TG yH hx
 cases Gd:AW X.P g' with
 |false=>rw[Gd] at h1;cases h1
 |true=>
  rw[Gd] at h1
  simp only[cond_true,Option.some.injEq,Prod.mk.injEq] at h1
  obtain⟨rfl,rfl,rfl,hnp⟩:=h1
  have ff:=kO Gd
  intro bW
  have hp:=lF h2
  rw[ld] at hp
  obtain⟨fn',ui⟩:=Option.isSome_iff_exists.1 hf
  show Wp X.C X.fn X.aC (.rangeFunc x params assign body) (KQ X k) (A X.n e X.D) ⟨X.ro,den w⟩
  rw[hr]
  refine awz X.hC (y4 X.hC (fi:=⟨TG⟩) (ca:=⟨yH⟩) (by rw[eB];exact aG hx) ff fun bd bl _ _=>?_)
  rw[Qo]
  have hy:=hit bl X.ro (fun k B=>∃i,Inv k i∧B=(bl,.loop (iu X.fn (A X.n e X.D).tmps params assign body bd))::den (wf i))
   (fun B=>∃jump i,Sp jump i∧B=(bl,.loop {iu X.fn (A X.n e X.D).tmps params assign body bd with state:= .done,pending:=some jump})::den (wf i)) (Sub.refl _) (fun k vs LL B lR hk hv hi hs=>?_) _ ⟨i0,h0,rfl⟩
  rotate_left
  ·obtain⟨i,hi,rfl⟩:=hi
   refine⟨iu X.fn (A X.n e X.D).tmps params assign body bd,List.mem_append_right _ List.mem_cons_self,(ZQ _ _ _ _ hv).trans hnp.symm,Round.more eW (s:=⟨lR,((bl,.loop (iu X.fn (A X.n e X.D).tmps params assign body bd))::den (wf i))++LL⟩) ⟨[],by rw[List.append_nil];exact List.perm_append_comm,fun b o hb=> .inl hb⟩ (Co eW ui ?_)⟩
   have:=hb bl bd k vs LL i lR hk hv hi hs fun y hy=>hs _ _ (bW y hy)
   have LP:den (.b bl (.loop (iu X.fn (A X.n e X.D).tmps params assign body bd))::(wf i++[.l LL]))=((bl,.loop (iu X.fn (A X.n e X.D).tmps params assign body bd))::den (wf i))++LL:=by rw[iC,ld];rfl
   rw[←LP]
   have hyt:aad (iu X.fn (A X.n e X.D).tmps params assign body bd) vs=(A X.n (NY params.toList vs e) X.D).tmps:=by
    rw[←NX]
    simp only[aad,iu]
    rw[←Array.foldl_toList,Array.toList_zip]
   rw[hyt]
   exact this
  ·refine Fn.weaken X.hC (Fn.mono (Fn.frame (fr:=(bd,.deferred (some []))::den (dE is 0 w)) (B:=[]) (ro:=X.ro) hy (fun _ h=>(by cases h)) ⟨?_,fun b o hb=> .inl hb,Sub.refl _⟩) fun en s' CG=>?_)
   ·refine List.Perm.trans (.cons _ (.cons _ ?_)) (I3 _ _ _ _ _).symm
    rw[←List.append_assoc]
    exact hp
   ·obtain⟨xS,⟨v,Y,rfl,rfl,Z,B',rfl,hΨ,hI⟩,hc⟩:=CG
    have hc1:s'.rw.Perm ((Z++B')++(bd,.deferred (some []))::den (dE is 0 w)):=hc.rw
    have key:∀(r0:Loop) (i:ι),B'=(bl,.loop r0)::den (wf i)→∃L Rr,s'.rw=L++(bl,.loop r0)::Rr∧∀r1,(⟨X.ro,den (.b bd (.deferred (some [])):: .l Z::(wf i++dE is 0 w))⟩:St).le ⟨s'.ro,L++(bl,.loop r1)::Rr⟩:=by
     intro r0 i hB
     subst hB
     have hc2:=hc1.trans (I3 _ _ _ _ _)
     obtain⟨L,Rr,hs⟩:=List.append_of_mem (hc2.mem_iff.2 List.mem_cons_self)
     refine⟨L,Rr,hs,fun r1=>dQ (J:=[(bl,.loop r1)]) ?_ hc.keep⟩
     rw[hs] at hc2
     have hc3:=(List.perm_middle.symm.trans hc2).cons_inv
     rw[iC,gv,ld]
     exact List.perm_middle.trans ((List.Perm.cons _ hc3).trans (List.perm_append_singleton _ _).symm)
    rcases hI with ⟨i,hi,hB⟩| ⟨jump,i,hi,hB⟩
    ·obtain⟨L,Rr,hs,hle⟩:=key _ i hB
     refine⟨L,_,Rr,hs,by simp[iu],?_⟩
     refine⟨_,hle _,?_⟩
     have:=hN bd i Z hi hΨ bW
     rw[←JW (bd:=bd)]
     exact tq (X:=X.dm bd) (kn:=⟨kn.c,[]⟩) this
    ·obtain⟨L,Rr,hs,hle⟩:=key _ i hB
     refine⟨L,_,Rr,hs,by simp,?_⟩
     have:=hS bd i Z jump hi hΨ
     cases jump with
     |ret=>
      refine⟨_,hle _,?_⟩
      rw[←JW (bd:=bd)]
      exact zd (X:=X.dm bd) (this bW) k
     |exit id=>
      simp only[afO] at this
      cases hk:As id k with
      |none=>rw[hk] at this;exact this.elim
      |some p=>
       rw[hk] at this
       refine⟨_,hle _,?_⟩
       rw[←JW (bd:=bd)]
       exact vI (X:=X.dm bd) (kn:=⟨kn.c,[]⟩) hk (this bW)
     |_=>exact this.elim
end
theorem azg{bd:Nat}{o:Option JS}:(lpO X bd o).state= .ready∧(lpO X bd o).pending=none:=by
 unfold lpO
 split<;>exact⟨rfl,rfl⟩
attribute [irreducible] rfV lpO aFi rdO afO
def bgO(body:Code):Option JS→Option (JS×Nat)
 |some ⟨.fin .normal,e,.b b (.loop r)::w,kn⟩=>match r.state with
  | .ready=>some (⟨.code body [],e,.b b (.loop {r with state:= .busy})::w,kn⟩,b)
  |_=>none
 |_=>none
def Dx:Option (JS×Nat)→Option JS
 |some (s,_)=>some s
 |none=>none
def Rt:Option (JS×Nat)→Option Nat
 |some (_,b)=>some b
 |none=>none
def O2:Option JS→Option (Option Code)
 |some ⟨.fin .normal,_,_,_⟩=>some none
 |some ⟨.fin .ret,_,_,_⟩=>some (some .ret)
 |some ⟨.fin (.exit id),_,_,_⟩=>some (some (.exit id))
 |_=>none
structure QY(X:Cx)(bl:Nat)(ro:Nat→Option Obj)(Φ:Value→Cells→Prop):Prop where
 q:X.Q=Bb (RY ro Φ) bl
theorem XK{ro:Nat→Option Obj}:QY (X.re bl ro Φ) bl ro Φ:=⟨rfl⟩
section
variable {X:Cx} {o:Option JS} {bl:Nat} {ro:Nat→Option Obj}
theorem jbg{body:Code}(h:J (X.re bl ro Φ) (Dx (bgO body o)))(h1:Rt (bgO body o)=some bl:=by kernel_rfl):J (X.rd bl ro Φ body) o:=by
 unfold bgO at h h1
 split at h<;>try exact h.elim
 rename_i e b r w kn
 split at h<;>try exact h.elim
 rename_i bS
 simp only[bS,Rt,Option.some.injEq] at h1
 subst h1
 simp only[Dx] at h
 intro bW
 have hw:=h bW
 simp only[JP,Cx.rd,Hb,Cd]
 refine⟨[],r,den w,by rw[iC];rfl,bS,?_⟩
 simp only[JP,iC] at hw
 exact hw
theorem jyR{Lp:Loop}{jump:Option Code}{Y:Cells}(hq:QY X bl ro Φ)(fD:Sub ro X.ro)(ps:List Nat)(pU:Φ (.bool jump.isNone) ((bl,.loop {Lp with state:=if jump.isNone then .ready else .done,pending:=jump})::Y))(h1:dY ps o=some ((bl,.loop {Lp with state:= .busy})::Y):=by kernel_rfl)(h2:O2 o=some jump:=by kernel_rfl):J X o:=by
 have main:∀s w kn e,o=some ⟨s,e,w,kn⟩→TP (RY ro Φ) bl jump ⟨X.ro,den w⟩:=by
  intro s w kn e ho
  subst ho
  have hp:=bH h1
  obtain⟨L,Rr,hs⟩:=List.append_of_mem (hp.mem_iff.2 (List.mem_append_left _ List.mem_cons_self))
  refine⟨L,_,Rr,hs,_,_,rfl,?_,pU⟩
  have mT:den w=L++(bl,.loop {Lp with state:= .busy})::Rr:=hs
  have hp':(den w).Perm (((bl,.loop {Lp with state:= .busy})::Y)++den (dE ps 0 w)):=hp
  rw[mT] at hp'
  have QK:=(List.perm_middle.symm.trans hp').cons_inv
  exact dQ (J:=den (dE ps 0 w)) (List.perm_middle.trans (.cons _ QK)) fD
 unfold O2 at h2
 split at h2<;>try (cases h2;done)
 ·rename_i e w kn;cases h2;intro _;show X.Q .normal _ _;rw[hq.q];exact main _ _ _ _ rfl
 ·rename_i e w kn;cases h2;intro _;show X.Q .ret _ _;rw[hq.q];exact main _ _ _ _ rfl
 ·rename_i id e w kn;cases h2;intro _;show X.Q (.exit id) _ _;rw[hq.q];exact main _ _ _ _ rfl
theorem jyn{Lp:Loop}{wf:ι→List Sg}{Inv:Nat→ι→Prop}{Sp:Code→ι→Prop}{k:Nat}(hq:QY X bl ro (aoO bl Lp wf Inv Sp k))(fD:Sub ro X.ro)(j:ι)(h:Inv (k+1) j)(ps:List Nat)(hl:Lp.state= .ready∧Lp.pending=none:=by exact azg)(h1:dY ps o=some ((bl,.loop {Lp with state:= .busy})::den (wf j)):=by kernel_rfl)(h2:O2 o=some none:=by kernel_rfl):J X o:=
 jyR hq fD ps (.inl ⟨rfl,j,h,by rcases Lp with ⟨a,b,c,d,e,f,g,i⟩;obtain⟨h1,h2⟩:=hl;dsimp only at h1 h2;subst h1 h2;rfl⟩) h1 h2
theorem jys{Lp:Loop}{wf:ι→List Sg}{Inv:Nat→ι→Prop}{Sp:Code→ι→Prop}{k:Nat}(hq:QY X bl ro (aoO bl Lp wf Inv Sp k))(fD:Sub ro X.ro)(jump:Code)(j:ι)(h:Sp jump j)(ps:List Nat)(h1:dY ps o=some ((bl,.loop {Lp with state:= .busy})::den (wf j)):=by kernel_rfl)(h2:O2 o=some (some jump):=by kernel_rfl):J X o:=
 jyR hq fD ps (.inr ⟨rfl,jump,j,h,rfl⟩) h1 h2
end
attribute [irreducible] bgO Dx Rt O2
def rI[DecidableEq κ](k:κ):List (κ×Value)→Nat→Option (Nat×Value)
 | [],_=>none
 |x::l,i=>if k=x.1 then some (i,x.2) else rI k l (i+1)
def lkM[DecidableEq κ](k:κ)(F:List (κ×Value)):Option Value:=(rI k F 0).map (·.2)
def s9(k:κ)(v:Value):List (κ×Value)→Nat→List (κ×Value)
 | [],_=>[]
 |_::l,0=>(k,v)::l
 |x::l,i+1=>x::s9 k v l i
def mf[DecidableEq κ](k:κ)(v:Value)(F:List (κ×Value)):List (κ×Value):=match rI k F 0 with
 |some (i,_)=>s9 k v F i
 |none=>F++[(k,v)]
structure Qv(P:Program)(T:TypeId){κ:Type}[DecidableEq κ](kv:κ→Value):Prop where
 chk:∀(b:Bool) (k:κ) {α:Type} {K:Unit→Sem α} {s:St} {Q:α→St→Prop} {E:Halt→St→Prop},bN P (K ()) s Q E→bN P (Instr.checkKey b 10000 T (kv k) >>= K) s Q E
 find:∀(k:κ) (es:List MapEntry) (F:List (κ×Value)),es.map (fun e=>(e.key,e.val))=F.map (fun x=>(kv x.1,x.2))→∀ {α:Type} {K:Option (Nat×Value)→Sem α} {s:St} {Q:α→St→Prop} {E:Halt→St→Prop},bN P (K (rI k F 0)) s Q E→bN P (Instr.findKey T (kv k) es >>= K) s Q E
 stay:∀k,Instr.sameBits 10000 (kv k) (kv k)=true
theorem qd[DecidableEq κ]{k:κ}:∀ {F:List (κ×Value)} {i j:Nat} {v:Value},rI k F i=some (j,v)→i≤j∧F[j-i]?=some (k,v)
 | [],_,_,_,h=>by cases h
 |x::l,i,j,v,h=>by
  simp only[rI] at h
  split at h
  ·rename_i hk
   cases h
   exact⟨Nat.le_refl _,by simp[hk]⟩
  ·obtain⟨h1,h2⟩:=qd h
   refine⟨by omega,?_⟩
   rw[show j-i=(j-(i+1))+1 by omega,List.getElem?_cons_succ];exact h2
theorem MG(a b:ByteArray):(a==b)=decide (a=b):=by
 have h:(a==b)=(a.data==b.data):=by cases a;cases b;rfl
 rw[h,Bool.eq_iff_iff]
 cases a;cases b
 simp
theorem CM(a:ByteArray):∀(es:List MapEntry) (F:List (ByteArray×Value)) (i:Nat),es.map (fun e=>(e.key,e.val))=F.map (fun x=>(Value.string x.1,x.2))→Instr.findNow .string (.string a) es i=some (rI a F i)
 | [],[],_,_=>rfl
 | [],_::_,_,h=>by simp at h
 |_::_,[],_,h=>by simp at h
 |e::es,x::F,i,h=>by
  simp only[List.map_cons,List.cons.injEq,Prod.mk.injEq] at h
  obtain⟨⟨h1,h2⟩,h3⟩:=h
  simp only[Instr.findNow,h1,Instr.sameNow,rI,MG]
  by_cases hk:a=x.1
  ·simp[hk,h2]
  ·simp only[hk,decide_false,if_false]
   exact CM a es F (i+1) h3
def CkD(P:Program)(dep:Nat)(T:TypeId)(v:Value):Prop:=∀(b:Bool) {α:Type} {K:Unit→Sem α} {s:St} {Q:α→St→Prop} {E:Halt→St→Prop},bN P (Instr.checkKey b dep T v >>= K) s Q E=bN P (K ()) s Q E
theorem aFa(tf:TF P T .string sz bE z ag)(a:ByteArray):CkD P (dep+1) T (.string a):=by
 intro b α K s Q E
 simp only[Instr.checkKey,aa,bh tf,af]
theorem aq5(tf:TF P T .string sz bE z ag):Qv P T (fun(a:ByteArray)=>Value.string a) where
 chk b k α K s Q E h:=by rw[aFa (dep:=9999) tf k b];exact h
 find k es F he α K s Q E h:=by
  simp only[Instr.findKey,aa,bh tf,CM k es F 0 he,af]
  exact h
 stay k:=by simp[Instr.sameBits,MG]
def ady(P:Program)(T:TypeId):Bool:=match ba P T with
 |some ⟨.string,_,_,_⟩=>true
 |_=>false
theorem Vz(h:ady P T=true):Qv P T (fun(a:ByteArray)=>Value.string a):=by
 unfold ady at h
 split at h
 ·rename_i dR
  obtain⟨bE,tf⟩:=au dR
  exact aq5 tf
 ·cases h
theorem ItX.up{g:FuncId}{ro aK:Nat→Option Obj}{own:Cells}{Ψ:Cells→Prop}(h:ItX P g fi ca ro own N El Ψ)(hs:Sub ro aK):ItX P g fi ca aK own N El Ψ:=
 fun bl aE Inv Stop h1=>h bl aE Inv Stop (hs.trans h1)
def Zx(P:Program)(bl:Nat)(ro:Nat→Option Obj)(N:Nat)(El:(Nat→Option Obj)→Nat→List Value→Cells→Prop)(Inv:Nat→Cells→Prop)(Stop:Cells→Prop):Prop:=
 ∀k vs LL B lR,k <N→El lR k vs LL→Inv k B→Sub ro lR→YX P bl vs lR (LL++B) (fun r B'=>(r= .bool true∧Inv (k+1) B')∨(r= .bool false∧Stop B'))
theorem Zx.up{ro aK:Nat→Option Obj}{Inv:Nat→Cells→Prop}{Stop:Cells→Prop}(h:Zx P bl ro N El Inv Stop)(hs:Sub ro aK):Zx P bl aK N El Inv Stop:=
 fun k vs LL B lR h1 h2 h3 h4=>h k vs LL B lR h1 h2 h3 (hs.trans h4)
def Part(L:List α)(p:Nat)(m:List α):Prop:=∃a b,L=a++m++b∧a.length=p
theorem Part.get{L m:List α}{x:α}(h:Part L p m)(hx:m[i]?=some x):p+i <L.length∧L[p+i]?=some x:=by
 obtain⟨a,b,rfl,rfl⟩:=h
 have hi:=(List.getElem?_eq_some_iff.1 hx).1
 have:(a++m++b)[a.length+i]?=some x:=by
  rw[List.append_assoc,List.getElem?_append_right (by omega),List.getElem?_append_left (by omega),show a.length+i-a.length=i by omega];exact hx
 exact⟨(List.getElem?_eq_some_iff.1 this).1,this⟩
theorem Part.flat{β:Type}{L:List β}{G:α→List β}{l a b:List α}{s:α}(h:Part L p (l.flatMap G))(hl:l=a++[s]++b):Part L (p+(a.flatMap G).length) (G s):=by
 obtain⟨u,v,rfl,rfl⟩:=h
 subst hl
 exact⟨u++a.flatMap G,b.flatMap G++v,by simp[List.flatMap_append],by simp⟩
theorem NL[DecidableEq κ]{kv:κ→Value}(he:∀a b,ZB P 10000 T (kv a) (kv b) (decide (a=b)))(k:κ):∀(es:List MapEntry) (F:List (κ×Value)) (i:Nat),es.map (fun e=>(e.key,e.val))=F.map (fun x=>(kv x.1,x.2))→∀ {α:Type} {K:Option (Nat×Value)→Sem α} {s:St} {Q:α→St→Prop} {E:Halt→St→Prop},bN P (K (rI k F i)) s Q E→bN P (Instr.findAsking T (kv k) es i >>= K) s Q E
 | [],[],_,_,_,_,_,_,_,h=>h
 | [],_::_,_,h,_,_,_,_,_,_=>by simp at h
 |_::_,[],_,h,_,_,_,_,_,_=>by simp at h
 |e::es,x::F,i,h,α,K,s,Q,E,hK=>by
  simp only[List.map_cons,List.cons.injEq,Prod.mk.injEq] at h
  obtain⟨⟨h1,h2⟩,h3⟩:=h
  simp only[Instr.findAsking,aa,h1,Op.equal]
  rw[show Op.maxDepth=10000 from rfl,he k x.1]
  simp only[rI] at hK
  by_cases hk:k=x.1
  ·rw[if_pos hk] at hK
   simp only[hk,decide_true,if_true,af,h2]
   exact hK
  ·rw[if_neg hk] at hK
   simp only[hk,decide_false,Bool.false_eq_true,if_false]
   exact NL he k es F (i+1) h3 hK
theorem GU{k:IntKind}(tf:TF P T (.int k) sz bE z ag)(a:Int):CkD P (dep+1) T (.int k a):=by
 intro b α K s Q E
 simp only[Instr.checkKey,aa,bh tf,af]
inductive AP(P:Program)(dep:Nat)(l:List Value):List Field→Prop
 |nil:AP P dep l []
 |cons {f:Field} {fs:List Field} {v:Value} (hn:f.name≠ "_") (hv:Hj P f.type l f.offset v) (he:CkD P dep f.type v) (ht:AP P dep l fs):AP P dep l (f::fs)
theorem Qe{fields:Array Field}(tf:TF P T (.struct fields) sz bE z true)(hf:AP P dep l fields.toList):CkD P (dep+1) T (.agg ⟨l⟩):=by
 intro b α K s Q E
 simp only[Instr.checkKey,aa,bh tf]
 rw[←Array.forIn_toList]
 generalize fields.toList=fl at hf
 clear tf
 induction hf with
 |nil=>simp only[List.forIn_nil,af,aa]
 | @cons f fs v hn hv he ht ih=>
  simp only[List.forIn_cons,hn,ne_eq,not_false_eq_true,if_true,aa]
  rw[hv]
  simp only[aa]
  rw[he]
  simp only[af]
  exact ih
theorem ada[DecidableEq κ]{kv:κ→Value}{d:TypeDesc}(tf:TF P T d sz bE z ag)(hl:∀k,∃l,kv k= .agg l)(hc:∀k,CkD P 10000 T (kv k))(he:∀a b,ZB P 10000 T (kv a) (kv b) (decide (a=b)))(hs:∀k,Instr.sameBits 10000 (kv k) (kv k)=true):Qv P T kv where
 chk b k α K s Q E h:=by rw[hc k b];exact h
 find k es F hm α K s Q E h:=by
  simp only[Instr.findKey,aa,bh tf]
  cases es with
  |nil=>
   cases F with
   |nil=>exact h
   |cons x F=>simp at hm
  |cons e es=>
   have:Instr.findNow d (kv k) (e::es) 0=none:=by
    cases F with
    |nil=>simp at hm
    |cons x F=>
     simp only[List.map_cons,List.cons.injEq,Prod.mk.injEq] at hm
     obtain⟨l,BN⟩:=hl k
     obtain⟨l2,qp⟩:=hl x.1
     simp only[Instr.findNow,hm.1.1,BN,qp]
     cases d<;>rfl
   rw[this]
   exact NL he k _ F 0 hm h
 stay:=hs
def sR(kv:κ→Value)(F:List (κ×Value))(es:Array MapEntry)(ck:Nat):Prop:=
 es.toList.map (fun e=>(e.key,e.val))=F.map (fun x=>(kv x.1,x.2))∧(es.toList.map (·.born)).Nodup∧∀e∈es.toList,e.born <ck
def jO(r:Nat)(kv:κ→Value)(F:List (κ×Value))(L:Cells):Prop:=∃es ck,L=[(r,.map es ck)]∧sR kv F es ck
def ahB(s:St)(r:Nat)(kv:κ→Value)(F:List (κ×Value)):Prop:=∃es ck,s.has r (.map es ck)∧sR kv F es ck
theorem jO.has{kv:κ→Value}{F:List (κ×Value)}{L:Cells}(h:jO r kv F L)(hs:∀x∈L,s.has x.1 x.2):ahB s r kv F:=by
 obtain⟨es,ck,rfl,hm⟩:=h
 exact⟨es,ck,hs _ List.mem_cons_self,hm⟩
theorem ahB.ext{kv:κ→Value}{F:List (κ×Value)}(h:ahB s r kv F)(hs:Ext s s'):ahB s' r kv F:=by
 obtain⟨es,ck,h1,h2⟩:=h
 exact⟨es,ck,hs _ _ h1,h2⟩
theorem jO.nil(r:Nat)(kv:κ→Value):jO r kv [] [(r,.map #[] 0)]:=⟨#[],0,rfl,rfl,List.nodup_nil,fun _ h=>(by cases h)⟩
section
variable {X:Cx} {o:Option JS}
def OU[DecidableEq κ](z:Value)(ok:Bool)(k:κ)(F:List (κ×Value)):Value:=match lkM k F with
 |some v=>bif ok then .tuple ⟨[v,.bool true]⟩ else v
 |none=>bif ok then .tuple ⟨[z,.bool false]⟩ else z
def luV(P:Program)(n:Nat)(p:Oper)(e:Env):Option (TypeId×Value×Value×Value×Bool):=match p.op with
 | .lookup T x y ok=>match ba P T with
  |some ⟨.map K E,_,_,_⟩=>match ba P E with
   |some te=>match bu n e x with
    |some m=>match bu n e y with
     |some k=>some (K,m,k,Nl te.zero te.agg,ok)
     |none=>none
    |none=>none
   |none=>none
  |_=>none
 |_=>none
theorem jlu[DecidableEq κ]{kv:κ→Value}{F:List (κ×Value)}{K:TypeId}(k:κ)(z:Value)(ok:Bool)(ps:List Nat)(B:Cells)(hk:Qv X.P K kv)(hm:∀s:St,Ext ⟨X.ro,[]⟩ s→(∀x∈B,s.has x.1 x.2)→ahB s r kv F)(hj:J X (KJ B (OU z ok k F) o))
 (hv:dG X.n (luV X.P X.n) o=some (K,.map (some r),kv k,z,ok):=by kernel_rfl)(hB:dY ps o=some B:=by kernel_rfl):J X o:=by
 refine jGN hv hB (fun s p e ho hh hf=>?_) hj
 subst ho
 unfold luV at hf
 split at hf<;>try (cases hf;done)
 rename_i T x y ok' aB
 split at hf<;>try (cases hf;done)
 rename_i K' E' _ _ _ dR
 split at hf<;>try (cases hf;done)
 rename_i te tH
 split at hf<;>try (cases hf;done)
 rename_i m hx
 split at hf<;>try (cases hf;done)
 rename_i k' hy
 simp only[Option.some.injEq,Prod.mk.injEq] at hf
 obtain⟨rfl,rfl,rfl,rfl,rfl⟩:=hf
 obtain⟨bE,tf⟩:=au dR
 obtain⟨AE,qt⟩:=au tH
 refine⟨by rw[aB];rfl,fun s0 FO uC ops i ho rest hwt s' hs todo Q jD=>lG X.hC ho rest hwt (by rw[aB];rfl) ?_ hs jD⟩
 intro s1 cy f hf K2 E2 hK
 obtain⟨es,ck,jm,BK⟩:=(hm s0 FO uC).ext cy
 simp only[execOp,aB,hf _ _ hx,hf _ _ hy,Instr.lookup,aa,bh tf]
 refine cE jm rfl rfl ?_
 simp only[af,aa]
 refine hk.chk _ _ ?_
 simp only[aa]
 refine hk.find k _ F BK.1 ?_
 simp only[OU,lkM] at hK
 cases xf:rI k F 0 with
 |none=>
  rw[xf] at hK
  simp only[aa,jT qt,af]
  cases ok'<;>exact hK
 |some u=>
  obtain⟨i,v⟩:=u
  rw[xf] at hK
  simp only[af]
  cases ok'<;>exact hK
def aqP(p:Oper):Option Unit:=match p.op with
 | .makeMap _ none=>some ()
 |_=>none
theorem jmk(kv:κ→Value)(hj:∀r L,jO r kv [] L→J X (mU [] (.map (some r)) L o))(hv:e9 X.n (fun p _=>aqP p) o=some ():=by kernel_rfl):J X o:=by
 obtain⟨ops,i,todo,k,e,w,kn,p,rfl,ho,hw,hc⟩:=dz hv
 intro bW
 unfold aqP at hc
 split at hc<;>try (cases hc;done)
 rename_i T aB
 rcases p with ⟨dst,op,ty,pos,dc,g⟩
 dsimp only at aB;subst aB
 refine bR X.hC ho hw (by simp) ?_
 simp only[execOp,Instr.makeMap,Option.map_none,aa,nW,af]
 intro b hb
 have:=hj b _ (jO.nil b kv)
 rw[nS ho] at this
 have:=this bW
 simp only[JP,gv,wL] at this
 show ab _ _ _ _ _ _ _ _
 rw[a8]
 exact this
def muV(P:Program)(n:Nat)(p:Oper)(e:Env):Option (TypeId×Value×Value×Value):=match p.op with
 | .mapUpdate T x y z| .insert T x y z=>match ba P T with
  |some ⟨.map K _,_,_,_⟩=>match bu n e x with
   |some m=>match bu n e y with
    |some k=>match bu n e z with
     |some v=>some (K,m,k,v)
     |none=>none
    |none=>none
   |none=>none
  |_=>none
 |_=>none
theorem DW(k:κ)(v:Value):∀(F:List (κ×Value)) (i:Nat),s9 k v F i=F.set i (k,v)
 | [],_=>rfl
 |_::_,0=>rfl
 |x::l,i+1=>by simp only[s9,DW k v l i,List.set_cons_succ]
theorem Fx{kv:κ→Value}{k:κ}{v:Value}:∀(es:List MapEntry) (F:List (κ×Value)) (i:Nat),es.map (fun e=>(e.key,e.val))=F.map (fun x=>(kv x.1,x.2))→(es.modify i fun e=>{e with key:=kv k,val:=v}).map (fun e=>(e.key,e.val))=(s9 k v F i).map (fun x=>(kv x.1,x.2))
 | [],[],_,_=>by simp[s9]
 | [],_::_,_,h=>by simp at h
 |_::_,[],_,h=>by simp at h
 |e::es,x::F,0,h=>by
  simp only[List.map_cons,List.cons.injEq] at h
  simp[s9,h.2]
 |e::es,x::F,i+1,h=>by
  simp only[List.map_cons,List.cons.injEq] at h
  simp[s9,h.1,Fx es F i h.2]
theorem vW{kx v:Value}:∀(es:List MapEntry) (i:Nat),(es.modify i fun e=>{e with key:=kx,val:=v}).map (·.born)=es.map (·.born)
 | [],i=>by simp
 |e::es,0=>by simp
 |e::es,i+1=>by simp[vW es i]
theorem jmu[DecidableEq κ]{kv:κ→Value}{F:List (κ×Value)}{K:TypeId}{L:Cells}(i:Nat)(k:κ)(v:Value)(hk:Qv X.P K kv)(hm:jO r kv F L)(hj:∀L',jO r kv (mf k v F) L'→J X (mU [i] undef L' o))
 (hv:e9 X.n (muV X.P X.n) o=some (K,.map (some r),kv k,v):=by kernel_rfl)(hB:dY [i] o=some L:=by kernel_rfl):J X o:=by
 obtain⟨ops,i0,todo,kk,e,w,kn,p,rfl,ho,hw,hc⟩:=dz hv
 intro bW
 rcases p with ⟨dst,op,ty,pos,dc,g⟩
 have main:∀T x y z,(op= .mapUpdate T x y z∨op= .insert T x y z)→muV X.P X.n ⟨dst,.mapUpdate T x y z,ty,pos,dc,g⟩ e=some (K,.map (some r),kv k,v)→ab X.C X.fn X.aC ops (i0::todo) (KQ X kk) (A X.n e X.D) ⟨X.ro,den w⟩:=by
  intro T x y z heq hc
  simp only[muV] at hc
  split at hc<;>try (cases hc;done)
  rename_i K' E' _ _ _ dR
  split at hc<;>try (cases hc;done)
  rename_i m hx
  split at hc<;>try (cases hc;done)
  rename_i k' hy
  split at hc<;>try (cases hc;done)
  rename_i v' hz
  simp only[Option.some.injEq,Prod.mk.injEq] at hc
  obtain⟨rfl,rfl,rfl,rfl⟩:=hc
  obtain⟨bE,tf⟩:=au dR
  have hp:=bH hB
  obtain⟨es,ck,rfl,BK⟩:=hm
  obtain⟨L1,R1,cy⟩:=List.append_of_mem (hp.mem_iff.2 (List.mem_append_left _ List.mem_cons_self))
  have hle:∀L',jO r kv (mf k v' F) [(r,L')]→ab X.C X.fn X.aC ops todo (KQ X kk) (A X.n (upd dst undef e) X.D) ⟨X.ro,L1++(r,L')::R1⟩:=by
   intro L' hL
   have:=hj _ hL
   rw[nS ho] at this
   have:=this bW
   simp only[JP,gv] at this
   refine this.more X.hC (dQ (J:=[]) ?_ (Sub.refl _))
   have hp':(den w).Perm ([(r,.map es ck)]++den (dE [i] 0 w)):=hp
   have aOD:den w=L1++(r,.map es ck)::R1:=cy
   rw[aOD] at hp'
   have QK:=(List.perm_middle.symm.trans hp').cons_inv
   rw[List.append_nil]
   exact List.perm_middle.trans (List.Perm.cons _ QK)
  have jm:(⟨X.ro,den w⟩:St).has r (.map es ck):= .inr (by show _∈den w;rw[show den w=_ from cy];exact fy)
  refine bR X.hC ho hw (by rcases heq with rfl|rfl<;>simp) ?_
  have hex:∀f:Operand→Value,execOp f ⟨dst,op,ty,pos,dc,g⟩=(do Instr.mapUpdate T (f x) (f y) (f z);pure .skip:Sem Next):=by
   intro f;rcases heq with rfl|rfl<;>simp only[execOp]
  rw[hex,aG hx,aG hy,aG hz]
  simp only[Instr.mapUpdate,aa,bh tf]
  refine cE jm rfl rfl ?_
  simp only[aa]
  refine hk.chk _ _ ?_
  simp only[aa]
  refine hk.find k _ F BK.1 ?_
  have fin:∀ob,jO r kv (mf k v' F) [(r,ob)]→upon X.C X.P X.aC dst (A X.n e X.D) (fun a' s'=>ab X.C X.fn X.aC ops todo (KQ X kk) a' s') (KQ X kk) .skip ⟨X.ro,L1++(r,ob)::R1⟩:=by
   intro ob hL
   show ab _ _ _ _ _ _ _ _
   have:=hle ob hL
   rw[←a8] at this
   exact this
  cases xf:rI k F 0 with
  |some u=>
   obtain⟨j,u⟩:=u
   have QQ:=qd xf
   simp only[Nat.sub_zero] at QQ
   have aPB:((es[j]?).map (·.key)).getD (kv k)=kv k:=by
    have h1:(es.toList.map (fun e=>(e.key,e.val)))[j]?=some (kv k,u):=by rw[BK.1];simp[QQ.2]
    simp only[List.getElem?_map,Array.getElem?_toList] at h1
    cases he:es[j]? with
    |none=>rfl
    |some e1=>rw[he] at h1;simp at h1;simp[h1.1]
   simp only[aa,Instr.keyThatStays,aPB,hk.stay,if_true,af]
   refine eC rfl cy rfl ?_
   refine fin _ ⟨_,_,rfl,?_,?_,?_⟩
   ·simp only[Array.toList_modify,mf,xf]
    exact Fx _ _ _ BK.1
   ·simp only[Array.toList_modify,vW];exact BK.2.1
   ·intro e1 h1
    have:e1.born∈((es.toList.modify j fun e=>{e with key:=kv k,val:=v'}).map (·.born)):=List.mem_map_of_mem (by simpa using h1)
    rw[vW] at this
    obtain⟨e2,h3,h4⟩:=List.mem_map.1 this
    rw[←h4];exact BK.2.2 e2 h3
  |none=>
   refine eC rfl cy rfl ?_
   refine fin _ ⟨_,_,rfl,?_,?_,?_⟩
   ·simp only[Array.toList_push,List.map_append,mf,xf,BK.1];rfl
   ·simp only[Array.toList_push,List.map_append,List.map_cons,List.map_nil]
    refine List.nodup_append.2 ⟨BK.2.1,by simp,?_⟩
    intro a ha b hb
    obtain⟨e2,h3,rfl⟩:=List.mem_map.1 ha
    have:=BK.2.2 e2 h3
    simp only[List.mem_singleton] at hb
    omega
   ·intro e1 h1
    simp only[Array.toList_push,List.mem_append,List.mem_singleton] at h1
    rcases h1 with h1|rfl
    ·have:=BK.2.2 e1 h1;omega
    ·exact Nat.lt_succ_self _
 have hc2:=hc
 unfold muV at hc
 split at hc<;>try (cases hc;done)
 ·rename_i T x y z aB
  dsimp only at aB
  exact main T x y z (.inl aB) (by rw[←hc2,aB])
 ·rename_i T x y z aB
  dsimp only at aB
  refine main T x y z (.inr aB) ?_
  rw[←hc2,aB];rfl
end
attribute [irreducible] luV aqP muV
section
variable {X:Cx} {o:Option JS}
def JR(P:Program)(n:Nat)(p:Oper)(e:Env):Option (FuncId×List Value):=match p.op with
 | .call ⟨.invoke x name,xs,_⟩=>match bu n e x with
  |some (.iface t v)=>match bx P (method (P.types.size+Made.depth) t v name) with
   |some (f,r)=>match xg n e xs.toList with
    |some vs=>bif AW P f then some (f,r::vs) else none
    |none=>none
   |none=>none
  |_=>none
 |_=>none
theorem ag9{p:Oper}(h:JR P n p e=some (f,vs)):FF P f∧∃x name xs at_ t v r ws,p.op= .call ⟨.invoke x name,xs,at_⟩∧bu n e x=some (.iface t v)∧bx P (method (P.types.size+Made.depth) t v name)=some (f,r)∧xg n e xs.toList=some ws∧vs=r::ws:=by
 unfold JR at h
 split at h<;>try (cases h;done)
 rename_i x name xs at_ aB
 split at h<;>try (cases h;done)
 rename_i t v hx
 split at h<;>try (cases h;done)
 rename_i f0 r hm
 split at h<;>try (cases h;done)
 rename_i ws ry
 cases hb:AW P f0 with
 |false=>rw[hb] at h;cases h
 |true=>
  rw[hb] at h
  simp only[cond_true,Option.some.injEq,Prod.mk.injEq] at h
  obtain⟨rfl,rfl⟩:=h
  exact⟨kO hb,x,name,xs,at_,t,v,r,ws,aB,hx,hm,ry,rfl⟩
theorem jpI{V:Value}(hf:∀aE,Sub X.ro aE→dL X.P f vs aE V)(hj:J X (KJ [] V o))(h1:dG X.n (JR X.P X.n) o=some (f,vs):=by kernel_rfl)(h3:dY [] o=some []:=by kernel_rfl):J X o:=by
 refine jGN h1 h3 (fun s p e ho hh hc=>?_) hj
 obtain⟨ff,x,name,xs,at_,t,v,r,ws,aB,hx,hm,ry,rfl⟩:=ag9 hc
 rcases p with ⟨dst,op,ty,pos,dc,g⟩
 dsimp only at aB;subst aB
 refine⟨rfl,fun s0 FO uC ops i sA rest hw s' hs todo Q hk=>?_⟩
 refine bR X.hC sA hw (by simp) ?_
 have e1:=aG (bn (rest:=rest) hx)
 have e2:xs.map (ev X.n (e++rest))=⟨ws⟩:=rE (wJ ry)
 simp only[execOp,resolve,e1,e2,af]
 have hex:((#[Value.iface t v]++(⟨ws⟩:Array Value)).extract 1 (#[Value.iface t v]++(⟨ws⟩:Array Value)).size)=⟨ws⟩:=by simp
 have h0:(#[Value.iface t v]++(⟨ws⟩:Array Value))[0]?=some (.iface t v):=by simp
 simp only[invoke,h0,hex,callMethod,aa,eT]
 refine aZ hm ?_
 have mD:(#[r]++⟨ws⟩:Array Value)=⟨r::ws⟩:=by simp
 rw[mD]
 refine jU ff ?_
 have hu:=(dL.use (s:=⟨X.ro,[]⟩) (sz:=s') (fun b o hb=>hs _ _ (FO _ _ hb)) (fun aE h1=>hf aE fun b ob hb=>h1 b ob (.inl hb))).weaken X.hC
 refine Fn.mono hu fun en s1 CG=>?_
 obtain⟨rfl,hle⟩:=CG
 show ab _ _ _ _ _ _ _ _
 rw[a8]
 exact hk.more X.hC hle
theorem jS{β:Type}{f:Oper→Env→Option β}{r:β}(ps:List Nat)(B:Cells)(hv:e9 X.n f o=some r)(hB:dY ps o=some B)
 (hy:∀p e,f p e=some r→(∀c,p.op≠ .defer c)∧∀(R:Cells) (Q:Next→St→Prop) (E:Halt→St→Prop),(∀v L',Φ v L'→Q (.value v) ⟨X.ro,L'++R⟩)→bN X.P (execOp (ev X.n e) p) ⟨X.ro,B++R⟩ Q E)
 (hj:∀v L',Φ v L'→J X (mU ps v L' o)):J X o:=by
 obtain⟨ops,i,todo,k,e,w,kn,p,rfl,ho,hw,hc⟩:=dz hv
 intro bW
 have hp:=bH hB
 obtain⟨hd,ht⟩:=hy p e hc
 have:ab X.C X.fn X.aC ops (i::todo) (KQ X k) (A X.n e X.D) ⟨X.ro,B++den (dE ps 0 w)⟩:=by
  refine bR X.hC ho hw hd ?_
  refine ht _ _ _ fun v L' pU=>?_
  have:=hj v L' pU
  rw[nS ho] at this
  have:=this bW
  simp only[JP,gv] at this
  show ab _ _ _ _ _ _ _ _
  rw[a8]
  exact this
 have hle:(⟨X.ro,B++den (dE ps 0 w)⟩:St).le ⟨X.ro,den w⟩:=⟨[],by rw[List.append_nil];exact hp,fun b o hb=> .inl hb⟩
 exact this.more X.hC hle
end
attribute [irreducible] JR
section
variable {X:Cx} {o:Option JS}
def iaA(P:Program)(n:Nat)(p:Oper)(e:Env):Option (Nat×Nat×Int×Nat×Nat):=match p.op with
 | .indexAddr T x y=>match ba P T with
  |some ⟨.array len E,_,_,_⟩=>match ba P E with
   |some te=>match bu n e x with
    |some (.pointer (some ⟨b,off,none⟩))=>match bu n e y with
     |some (.int _ ix)=>some (b,off,ix,len,te.size)
     |_=>none
    |_=>none
   |none=>none
  |_=>none
 |_=>none
theorem Jn{len:Nat}(ix:Int)(hi:0≤ix∧ix <len)(hj:J X (jW (.pointer (some ⟨b,off+ix.toNat*sz,none⟩)) o))(hv:dG X.n (iaA X.P X.n) o=some (b,off,ix,len,sz):=by kernel_rfl):J X o:=by
 refine jG hv (fun s p e ho hh hf=>?_) hj
 unfold iaA at hf
 split at hf<;>try (cases hf;done)
 rename_i T x y aB
 split at hf<;>try (cases hf;done)
 rename_i azl E _ _ _ dR
 split at hf<;>try (cases hf;done)
 rename_i te tH
 split at hf<;>try (cases hf;done)
 rename_i b' aqB hx
 split at hf<;>try (cases hf;done)
 rename_i ik ix' hy
 simp only[Option.some.injEq,Prod.mk.injEq] at hf
 obtain⟨rfl,rfl,rfl,rfl,rfl⟩:=hf
 obtain⟨bE,tf⟩:=au dR
 obtain⟨AE,qt⟩:=au tH
 have key:∀s,Yields X.P X.n e p s (.pointer (some ⟨b',aqB+ix'.toNat*te.size,none⟩)):=by
  intro s s' mT f hf K E hK
  simp only[execOp,aB,Instr.indexAt,Instr.sureAddr,hf _ _ hx,hf _ _ hy,asIntOf,aa,af,bh tf,hi,and_self,if_true,cm qt,dP]
  exact hK
 exact⟨by rw[aB];rfl,fun _=>key _,fun _=>key⟩
def saV(P:Program)(n:Nat)(p:Oper)(e:Env):Option (Nat×Nat×Int×Nat):=match p.op with
 | .slice T x none (some z) none=>match ba P T with
  |some ⟨.array len E,_,_,_⟩=>match ba P E with
   |some _=>match bu n e x with
    |some (.pointer (some ⟨b,off,none⟩))=>match bu n e z with
     |some (.int _ ix)=>some (b,off,ix,len)
     |_=>none
    |_=>none
   |none=>none
  |_=>none
 |_=>none
theorem jah{len:Nat}(hi:Int)(hl:0≤hi∧hi≤len)(hj:J X (jW (.slice (some ⟨b,off,none⟩) hi.toNat len) o))(hv:dG X.n (saV X.P X.n) o=some (b,off,hi,len):=by kernel_rfl):J X o:=by
 refine jG hv (fun s p e ho hh hf=>?_) hj
 unfold saV at hf
 split at hf<;>try (cases hf;done)
 rename_i T x z aB
 split at hf<;>try (cases hf;done)
 rename_i azl E _ _ _ dR
 split at hf<;>try (cases hf;done)
 rename_i te tH
 split at hf<;>try (cases hf;done)
 rename_i b' aqB hx
 split at hf<;>try (cases hf;done)
 rename_i ik ix' hy
 simp only[Option.some.injEq,Prod.mk.injEq] at hf
 obtain⟨rfl,rfl,rfl,rfl⟩:=hf
 obtain⟨bE,tf⟩:=au dR
 obtain⟨AE,qt⟩:=au tH
 have key:∀s,Yields X.P X.n e p s (.slice (some ⟨b',aqB,none⟩) ix'.toNat azl):=by
  intro s s' mT f hf K E hK
  simp only[execOp,aB,Option.map_some,Option.map_none,Instr.sliceAt,Instr.sliceBounds,Instr.sliceBound,Instr.sureAddr,hf _ _ hx,hf _ _ hy,asIntOf,aa,af,bh tf,Option.isSome_none,Bool.false_eq_true,if_false,hl,and_self,if_true,cm qt,Nat.zero_mul,dP,Nat.add_zero,ite_self,Nat.sub_zero]
  exact hK
 exact⟨by rw[aB];rfl,fun _=>key _,fun _=>key⟩
end
theorem r8{t:TypeId}{fz:Nat×Nat}{v:Value}(h:s.has b (.cells ⟨l⟩ t fz))(hv:nth l off=some v):cA s b off 1 [v]:=
 ⟨_,_,_,h,by rw[rk] at hv;simp[iK (show off+1≤l.length by have:=(List.getElem?_eq_some_iff.1 hv).1;omega),List.drop_eq_getElem_cons (List.getElem?_eq_some_iff.1 hv).1,(List.getElem?_eq_some_iff.1 hv).2]⟩
theorem abC{o m:Nat}{v:Value}(h:cA s b o m l)(hv:nth l off=some v):cA s b (o+off) 1 [v]:=
 h.part off 1 (by rw[rk] at hv;simp[iK (show off+1≤l.length by have:=(List.getElem?_eq_some_iff.1 hv).1;omega),List.drop_eq_getElem_cons (List.getElem?_eq_some_iff.1 hv).1,(List.getElem?_eq_some_iff.1 hv).2])
end Go.L
