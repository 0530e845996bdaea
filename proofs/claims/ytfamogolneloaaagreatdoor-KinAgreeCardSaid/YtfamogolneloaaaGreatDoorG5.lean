/- Part 5 of the proof. -/
import Derived.Test.YtfamogolneloaaaGreatDoorG4
set_option maxRecDepth 100000
set_option linter.all false
namespace Go.L
open Go Go.Conc
variable {Φ:Value→Cells→Prop} {P:Program} {R:Ending→St→Prop} {f g:FuncId} {todo seen uh:List Nat} {κ ι α β:Type} {El:(Nat→Option Obj)→Nat→List Value→Cells→Prop} {pz aI:Nat→Option Obj} {T:Goroutine→St→Prop} {vs ca args z l fi:List Value} {o o1:Option JS} {i n r bl sz bw bd off b id ck dep N q it:Nat} {k zc:List Item} {s s':St} {ats:Array TypeId} {X:Cx} {tm:Array Value} {cs:List Frame} {fn:Func} {C:Class} {main ag:Bool} {fz:Nat×Nat} {rest e:Env} {as body:Code} {x y:Operand} {p:Oper} {fr:Cells} {t U:TypeId}
section
variable {X:Cx} {o:Option JS}
def nxV(n:Nat)(p:Oper)(e:Env):Option Nat:=match p.op with
 | .next x true=>match bh n e x with
  |some (.pointer (some ⟨r,0,none⟩))=>some r
  |_=>none
 |_=>none
theorem acM(h:nxV n p e=some r):∃x,p.op= .next x true∧bh n e x=some (.pointer (some ⟨r,0,none⟩)):=by
 unfold nxV at h
 split at h<;>try (cases h;done)
 rename_i ay
 split at h<;>try (cases h;done)
 rename_i hx
 cases h
 exact⟨_,ay,hx⟩
def Sd(i:Nat)(v:Value)(b:Nat)(ob:Obj):Option JS→Option JS
 |some ⟨.ops ops (j::todo) k,e,w,kn⟩=>match ops[j]? with
  |some p=>some ⟨.ops ops todo k,upd p.dst v e,.b b ob::dz [i] 0 w,kn⟩
  |none=>none
 |_=>none
theorem jnA{b:ByteArray}{p:Nat}{c:UInt8}(r i:Nat)(hp:b.data.toList[p]?=some c) (ha:c.toNat <128) (hj:J X (Sd i (.tuple ⟨[.bool true,.int .i64 p,.int .i32 c.toNat]⟩) r (.stringIter b (p+1)) o))
 (hv:fg X.n (nxV X.n) o=some r:=by kernel_rfl) (hB:dS [i] o=some [(r,.stringIter b p)]:=by kernel_rfl):J X o:=by
 obtain⟨ops,i0,todo,kk,ev,w0,kn,q,rfl,ho,hw,hc⟩:=dr hv
 obtain⟨x,ay,hx⟩:=acM hc
 intro bV
 rcases q with ⟨dst,op,ty,pos,cZ,g⟩
 dsimp only at ay;subst ay
 refine vG X.hC (bD hB) (aj8 X.hC ho hw hx hp ha ?_)
 simp only[Sd,ho] at hj
 have:=hj bV
 simp only[JP,iI] at this
 exact this
theorem jnZ{b:ByteArray}{p:Nat}(r i:Nat)(hp:b.data.toList[p]?=none) (hj:J X (Sd i (.tuple ⟨[.bool false]⟩) r (.stringIter b p) o))
 (hv:fg X.n (nxV X.n) o=some r:=by kernel_rfl) (hB:dS [i] o=some [(r,.stringIter b p)]:=by kernel_rfl):J X o:=by
 obtain⟨ops,i0,todo,kk,ev,w0,kn,q,rfl,ho,hw,hc⟩:=dr hv
 obtain⟨x,ay,hx⟩:=acM hc
 intro bV
 rcases q with ⟨dst,op,ty,pos,cZ,g⟩
 dsimp only at ay;subst ay
 refine vG X.hC (bD hB) (aj7 X.hC ho hw hx hp ?_)
 simp only[Sd,ho] at hj
 have:=hj bV
 simp only[JP,iI] at this
 exact this
theorem jcG{own:Cells}{Φ:Value→(Nat→Option Obj)→Cells→Prop}(ps:List Nat)(hf:FnG X.P f vs X.ro own Φ)(hj:∀v aI Y,Sub X.ro aI→Φ v aI Y→J (X.at aI) (nj ps v Y o))(h1:fg X.n (x6 X.P X.n) o=some (f,vs):=by kernel_rfl)(h2:dS ps o=some own:=by kernel_rfl):J X o:=by
 obtain⟨ops,i,todo,k,e,w,kn,p,rfl,ho,hw,hc⟩:=dr h1
 obtain⟨ff,x,xs,at_,fi,ca,ws,ay,hx,rR,rfl⟩:=qE hc
 intro bV
 rcases p with ⟨dst,op,ty,pos,cZ,g⟩
 dsimp only at ay;subst ay
 have hp:=bD h2
 refine tR (fi:=⟨fi⟩) (ca:=⟨ca⟩) (ws:=fi++ws++ca) X.hC ho hw hx ff rR (QT fi ws ca) (Fn.weaken X.hC (FnG.use (s:=⟨X.ro,den w⟩) hp hf)) (fun v' s' hr=>?_) (fun ch s' hr=>by obtain⟨_,_,_,e,_⟩:=hr;cases e) (fun s' hr=>by obtain⟨_,_,_,e,_⟩:=hr;cases e)
 obtain⟨v,aI,Y,hv,hs,qi,hle⟩:=hr
 cases hv
 have:=hj _ aI Y hs qi
 rw[n9 ho] at this
 have:=this (bV.up hs)
 simp only[JP,gE,HB] at this
 exact this.more X.hC hle
def agL(n:Nat)(p:Oper)(e:Env):Option (FuncId×List Value):=match p.op with
 | .call ⟨.value (.func f),xs,_⟩=>match xN n e xs.toList with
  |some vs=>some (f,vs)
  |none=>none
 |_=>none
theorem MB(h:agL n p e=some (f,vs)):∃xs at_,p.op= .call ⟨.value (.func f),xs,at_⟩∧xN n e xs.toList=some vs:=by
 unfold agL at h
 split at h<;>try (cases h;done)
 rename_i ay
 split at h<;>try (cases h;done)
 rename_i hx
 cases h
 exact⟨_,_,ay,hx⟩
theorem jib{a:ByteArray}{b:Int}(ef:EF X.P f Extern.BytealgIndexByte.indexByte)(hj:J X (j8 (.int .i64 (Pj a b.toNat.toUInt8)) o))(hv:dE X.n (agL X.n) o=some (f,[.string a,.int .u8 b]):=by kernel_rfl):J X o:=by
 refine jGS hv (fun s p e _ hf=>?_) hj
 obtain⟨xs,at_,ay,hx⟩:=MB hf
 rcases p with ⟨dst,op,ty,pos,cZ,g⟩
 dsimp only at ay;subst ay
 exact⟨fun ops i sO rest hw s' hs todo Q hk=>acH X.hC sO hw ef (xg hx) hk,fun hk=>by cases hk⟩
theorem aOu{v:Value}(ef:EF X.P f Extern.AbiNoEscape.same)(hj:J X (j8 v o))(hv:dE X.n (agL X.n) o=some (f,[v]):=by kernel_rfl):J X o:=by
 refine jGS hv (fun s p e _ hf=>?_) hj
 obtain⟨xs,at_,ay,hx⟩:=MB hf
 rcases p with ⟨dst,op,ty,pos,cZ,g⟩
 dsimp only at ay;subst ay
 exact⟨fun ops i sO rest hw s' hs todo Q hk=>aj6 X.hC sO hw ef (xg hx) hk,fun hk=>by cases hk⟩
def mmV(n:Nat)(p:Oper)(e:Env):Option (Bool×Value×Value):=match p.op with
 | .call ⟨.builtin .min,⟨[x,y]⟩,⟨[_,_]⟩⟩=>match bh n e x with
  |some v=>match bh n e y with
   |some w=>some (true,v,w)
   |none=>none
  |none=>none
 | .call ⟨.builtin .max,⟨[x,y]⟩,⟨[_,_]⟩⟩=>match bh n e x with
  |some v=>match bh n e y with
   |some w=>some (false,v,w)
   |none=>none
  |none=>none
 |_=>none
theorem jmn{k:IntKind}{a b:Int}(hj:J X (j8 (.int k (min a b)) o))(hv:dE X.n (mmV X.n) o=some (true,.int k a,.int k b):=by kernel_rfl):J X o:=by
 refine Rf hv (fun s p e _ hf=>?_) hj
 unfold mmV at hf
 split at hf<;>try (cases hf;done)
 ·rename_i ay
  split at hf<;>try (cases hf;done)
  rename_i hx
  split at hf<;>try (cases hf;done)
  rename_i hy
  cases hf
  rcases p with ⟨dst,op,ty,pos,cZ,g⟩
  dsimp only at ay;subst ay
  exact fun s0 ops i sO rest hw s' hs todo Q hk=>aqY X.hC sO hw (aZ hx) (aZ hy) hk
 split at hf<;>try (cases hf;done)
 split at hf<;>cases hf
theorem jmx{k:IntKind}{a b:Int}(hj:J X (j8 (.int k (max a b)) o))(hv:dE X.n (mmV X.n) o=some (false,.int k a,.int k b):=by kernel_rfl):J X o:=by
 refine Rf hv (fun s p e _ hf=>?_) hj
 unfold mmV at hf
 split at hf<;>try (cases hf;done)
 ·split at hf<;>try (cases hf;done)
  split at hf<;>cases hf
 rename_i ay
 split at hf<;>try (cases hf;done)
 rename_i hx
 split at hf<;>try (cases hf;done)
 rename_i hy
 cases hf
 rcases p with ⟨dst,op,ty,pos,cZ,g⟩
 dsimp only at ay;subst ay
 exact fun s0 ops i sO rest hw s' hs todo Q hk=>aqZ X.hC sO hw (aZ hx) (aZ hy) hk
theorem jsx(i b off:Nat)(c l:List Value)(t:TypeId)(h1:∀v∈l,single v=true)(hb:Nat.ble (off+l.length) c.length=true)(hj:J X (Sd i undef b (.cells ⟨du c off l⟩ t (0,0)) o))(hv:fg X.n (aju X.P X.n) o=some (⟨b,off,none⟩,l,l.length):=by kernel_rfl)(h2:dS [i] o=some [(b,.cells ⟨c⟩ t (0,0))]:=by kernel_rfl):J X o:=by
 obtain⟨ops,i0,todo,kk,ev,w,kn,p,rfl,ho,hw,hc⟩:=dr hv
 obtain⟨T,x,y,d,bw,z,ag,u,ay,tf,hx,hy,hu⟩:=Vd hc
 intro bV
 rcases p with ⟨dst,op,ty,pos,cZ,g⟩
 dsimp only at ay;subst ay
 refine vG X.hC (bD h2)<|ost X.hC ho hw tf hx hy hu rfl h1 (Nat.le_of_ble_eq_true hb) ?_
 simp only[Sd,ho] at hj
 have:=hj bV
 simp only[JP,iI] at this
 exact this
def aiV(P:Program)(n:Nat)(p:Oper)(e:Env):Option (List Value×Int×Nat×Nat×Bool):=match p.op with
 | .index T x y=>match aW P T with
  |some ⟨.array len E,_,_,_⟩=>match aW P E with
   |some te=>match bh n e x with
    |some (.agg ⟨l⟩)=>match bh n e y with
     |some (.int _ ix)=>some (l,ix,len,te.size,te.agg)
     |_=>none
    |_=>none
   |none=>none
  |_=>none
 |_=>none
theorem jai{v:Value}(ix:Int)(len sz:Nat)(ag:Bool)(hi:0≤ix∧ix <len)(hp:FH ag l (ix.toNat*sz) sz=some v)(hj:J X (j8 v o))(hv:dE X.n (aiV X.P X.n) o=some (l,ix,len,sz,ag):=by kernel_rfl):J X o:=by
 refine Rf hv (fun s p e _ hf=>?_) hj
 unfold aiV at hf
 split at hf<;>try (cases hf;done)
 rename_i ay
 split at hf<;>try (cases hf;done)
 rename_i dM
 split at hf<;>try (cases hf;done)
 rename_i te tV
 split at hf<;>try (cases hf;done)
 rename_i hx
 split at hf<;>try (cases hf;done)
 rename_i hy
 cases hf
 obtain⟨b1,tf⟩:=av dM
 obtain⟨b2,qM⟩:=av tV
 rcases p with ⟨dst,op,ty,pos,cZ,g⟩
 dsimp only at ay;subst ay
 exact fun s0 ops i sO rest hw s' hs todo Q hk=>acI X.hC sO hw tf qM (aZ hx) (aZ hy) hi hp hk
def AP(m:Nat)(e:Env):Option JS→Option JS
 |some ⟨.ops ops todo k,_,w,kn⟩=>some ⟨.ops ops (todo.drop m) k,e,w,kn⟩
 |_=>none
theorem jj(m:Nat)(e:Env)(hj:∀rest,J X (AP m (e++rest) o))(h:(∀o',AP 0 [] o'=AP m [] o→uz (pw e) o'=some e→J X o')→J X o)(hd:lkE (pw e) e=some e:=by kernel_rfl):J X o:=by
 refine h fun o' h1 h2=>?_
 cases o' with
 |none=>simp[uz] at h2
 |some s'=>
  rcases s' with ⟨p',e',w',kn'⟩
  cases o with
  |none=>exact(hj []).elim
  |some s=>
   rcases s with ⟨p,e0,w,kn⟩
   cases p' with
   |ops bcp abf k'=>
    cases p with
    |ops ops todo k=>
     simp only[AP,Option.some.injEq,JS.mk.injEq,Pos.ops.injEq,List.drop_zero,true_and] at h1
     obtain⟨⟨rfl,rfl,rfl⟩,rfl,rfl⟩:=h1
     rw[sL] at h2
     obtain⟨r,hr⟩:=gu (n:=X.n) (D:=X.D) (kJ h2) (kJ hd)
     intro bV
     have:=hj r bV
     show ab _ _ _ _ _ _ (A X.n e' X.D) _
     rw[hr]
     exact this
    |_=>simp[AP] at h1
   |_=>cases p<;>simp[AP] at h1<;>exact(hj []).elim
end
attribute [irreducible] AP Sd
section
variable {X:Cx} {o:Option JS}
def arh(i:Nat)(rest:Env)(todo:List Nat):Option JS→Option JS
 |some ⟨.G4 ops base Pl _ k,_,w,kn⟩=>some ⟨.ops ops (i::todo) k,cg ops base i Pl++rest,w,kn⟩
 |_=>none
def LK(X:Cx)(i:Nat)(o:Option JS)(rest:Env)(todo:List Nat):Prop:=match o with
 |some ⟨.G4 ops base Pl Sl k,_,w,kn⟩=>∀v s',(∀j u,(j,u)∈pending ops i Sl→sD ops X.n base Pl j=false→(∀B,(j,B)∈kn.nd→Ext ⟨X.ro,[]⟩ s'→(∀x∈B,s'.has x.1 x.2)→eT X.C X.fn X.az ops X.n X.D j u (cg ops base j Pl) s')→eT X.C X.fn X.az ops X.n X.D j u (cg ops base j Pl) ⟨X.ro,den w⟩→eT X.C X.fn X.az ops X.n X.D j u (cg ops base j Pl) s')→
  (PF X kn.nd ops base ((i,v)::Pl) (pending ops i Sl)→td X.C X.fn X.az ops X.n X.D base ((i,v)::Pl) (pending ops i Sl) (KQ X k) s')→ab X.C X.fn X.az ops todo (KQ X k) (A X.n (upd (aP ops i) v (cg ops base i Pl++rest)) X.D) s'
 |_=>True
def VX(is:List Nat):Option JS→Bool
 |some ⟨.G4 ops _ Pl Sl _,_,_,_⟩=>fM ops&&((is.all fun i=>Nat.blt i ops.size&& !aY i (aj Pl))&&(nodupB (aj Pl)&&(oV ops (aj Pl)&&(fO (aj Sl) (aj Pl)&&(acB ops (aj Pl) is&& !is.isEmpty)))))
 |_=>false
def ahW(X:Cx)(o:Option JS):List Nat→Prop
 | []=>True
 |i::is=>(∀rest todo,LK X i o rest todo→J X (arh i rest todo o))∧ahW X o is
theorem nK(is:List Nat)(h:ahW X o is)(hb:VX is o=true:=by kernel_rfl):J X o:=by
 unfold VX at hb
 split at hb<;>try (cases hb;done)
 rename_i ops base Pl Sl k e w kn
 simp only[Bool.and_eq_true,Bool.not_eq_true'] at hb
 obtain⟨h1,h2,h3,h4,h5,h6,h7⟩:=hb
 intro bV hpf
 refine Z8 is h1 h2 h3 h4 h5 h6 ?_ h7
 clear h6 h7
 induction is with
 |nil=>trivial
 |cons i is ih=>
  simp only[List.all_cons,Bool.and_eq_true,Bool.not_eq_true'] at h2
  refine⟨fun rest todo hk=>h.1 rest todo (fun v s' hp ha=>?_) bV,ih h.2 h2.2⟩
  have iX:∀x,x∈pending ops i Sl→x∈Sl:=fun x hx=>(List.mem_filter.1 hx).1
  refine hk v s' (fun j u HL bS=>?_) (ha ⟨fun j u HL Y1 s0=>?_,fun j u B HL hB s0 Gk uW=>?_⟩)
  ·cases Y1:sD ops X.n base Pl j with
   |true=>exact hpf.1 j u (iX _ HL) Y1 s'
   |false=>exact hp j u HL Y1 (fun B hB hx hb=>hpf.2 j u B (iX _ HL) hB s' hx hb) bS
  ·have Np:j∈aj Sl:=aN.2 ⟨u,iX _ HL⟩
   have qL:i∉bk ops j:=fun hd=>by
    have h8:=bL.1 h5 j Np
    have h9:=bL.1 (List.all_eq_true.1 h4 j h8) i hd
    rw[aH.2 h9] at h2;exact absurd h2.1.2 (by simp)
   rw[cQ qL]
   exact hpf.1 j u (iX _ HL) (by simp only[sD,cQ qL] at Y1;exact Y1) s0
  have Np:j∈aj Sl:=aN.2 ⟨u,iX _ HL⟩
  have qL:i∉bk ops j:=fun hd=>by
   have h8:=bL.1 h5 j Np
   have h9:=bL.1 (List.all_eq_true.1 h4 j h8) i hd
   rw[aH.2 h9] at h2;exact absurd h2.1.2 (by simp)
  rw[cQ qL]
  exact hpf.2 j u B (iX _ HL) hB s0 Gk uW
theorem aO(i:Nat)(h:∀rest todo,LK X i o rest todo→J X (arh i rest todo o))(hb:VX [i] o=true:=by kernel_rfl):J X o:=nK [i] ⟨h,trivial⟩ hb
def Uu(i:Nat):Option JS→Option JS→Option JS
 |some ⟨.G4 ops base Pl Sl k,e,_,kn⟩,some ⟨.ops _ _ _,e',w',kn'⟩=>some ⟨.G4 ops base ((i,match aP ops i with
  |some d=>(gX e' d).getD undef
  |none=>undef)::Pl) (pending ops i Sl) k,e,w',⟨kn'.c,kn.nd⟩⟩
 |_,_=>none
def bkL(i:Nat)(rest:Env)(todo:List Nat):Option JS→Option JS→Option JS
 |some ⟨.G4 ops base Pl _ k,_,_,_⟩,some ⟨_,e',w',kn'⟩=>some ⟨.ops ops todo k,upd (aP ops i) (match aP ops i with
  |some d=>(gX e' d).getD undef
  |none=>undef) (cg ops base i Pl++rest),w',kn'⟩
 |_,_=>none
theorem Uq(h:bkL i rest todo o o1=o1)(h1:o1≠none):∃ops base Pl Sl k e w kn v w' kn',o=some ⟨.G4 ops base Pl Sl k,e,w,kn⟩∧o1=some ⟨.ops ops todo k,upd (aP ops i) v (cg ops base i Pl++rest),w',kn'⟩:=by
 unfold bkL at h
 split at h
 ·simp only[Option.some.injEq,JS.mk.injEq] at h
  obtain⟨rfl,h,_⟩:=h
  exact⟨_,_,_,_,_,_,_,_,_,_,_,rfl,by rw[h]⟩
 exact(h1 h.symm).elim
def rwO:Option JS→List Sg
 |some s=>s.rw
 |none=>[]
theorem bI(hK:LK X i o rest todo)(is:List Nat)(hj:J X (Uu i o o1))(hc:bkL i rest todo o o1=o1:=by kernel_rfl)(h2:qX is o1=some (rwO o):=by kernel_rfl):J X o1:=by
 by_cases dR:o1=none
 ·subst dR
  cases o with
  |none=>exact hj
  |some s=>rcases s with ⟨p,e,w,kn⟩;cases p<;>exact hj
 obtain⟨kg,base,Pl,Sl,k,e,w,kn,v,w',kn',rfl,rfl⟩:=Uq hc dR
 intro bV
 have hp:=lI h2
 have hv:(match aP kg i with
  |some d=>(gX (upd (aP kg i) v (cg kg base i Pl++rest)) d).getD undef
  |none=>undef)=v∨aP kg i=none:=by
  cases hd:aP kg i with
  |none=>exact .inr rfl
  |some d=>left;simp[upd,gX]
 have hj:=hj bV
 simp only[Uu,JP] at hj
 have key:=hK (match aP kg i with
  |some d=>(gX (upd (aP kg i) v (cg kg base i Pl++rest)) d).getD undef
  |none=>undef) ⟨X.ro,den w'⟩ (fun j u _ _ _ hs=>hs.ext fun b ob hb=>?_) hj
 ·show ab _ _ _ _ _ _ _ _
  rcases hv with hv|hv
  ·rw[hv] at key;exact key
  rw[hv] at key ⊢;exact key
 rcases hb with hb|hb
 ·exact .inl hb
 exact .inr (hp.mem_iff.2 (List.mem_append_left _ hb))
def ack(i:Nat):Option JS→Bool
 |some ⟨.G4 ops _ _ Sl _,_,_,_⟩=>(pending ops i Sl).isEmpty
 |_=>false
theorem e8(hK:LK X i o rest todo)(hj:J X (Uu i o o1))(hc:bkL i rest todo o o1=o1:=by kernel_rfl)(h2:ack i o=true:=by kernel_rfl):J X o1:=by
 by_cases dR:o1=none
 ·subst dR
  cases o with
  |none=>exact hj
  |some s=>rcases s with ⟨p,e,w,kn⟩;cases p<;>exact hj
 obtain⟨kg,base,Pl,Sl,k,e,w,kn,v,w',kn',rfl,rfl⟩:=Uq hc dR
 intro bV
 have hv:(match aP kg i with
  |some d=>(gX (upd (aP kg i) v (cg kg base i Pl++rest)) d).getD undef
  |none=>undef)=v∨aP kg i=none:=by
  cases hd:aP kg i with
  |none=>exact .inr rfl
  |some d=>left;simp[upd,gX]
 have hj:=hj bV
 simp only[Uu,JP] at hj
 have hpe:pending kg i Sl=[]:=by simpa [ack] using h2
 have key:=hK (match aP kg i with
  |some d=>(gX (upd (aP kg i) v (cg kg base i Pl++rest)) d).getD undef
  |none=>undef) ⟨X.ro,den w'⟩ (fun j u HL=>by rw[hpe] at HL;cases HL) hj
 show ab _ _ _ _ _ _ _ _
 rcases hv with hv|hv
 ·rw[hv] at key;exact key
 rw[hv] at key ⊢;exact key
def ndG:List (Nat×Cells)→Nat→Option Cells
 | [],_=>none
 | (i,B)::l,j=>bif Nat.beq i j then some B else ndG l j
theorem VL{j:Nat}{B:Cells}:∀ {l:List (Nat×Cells)},ndG l j=some B→(j,B)∈l
 | (i,C)::l,h=>by
  simp only[ndG] at h
  cases hb:Nat.beq i j with
  |true=>
   rw[hb] at h;simp only[cond_true,Option.some.injEq] at h;subst h
   have:=Nat.eq_of_beq_eq_true hb;subst this
   exact List.mem_cons_self
  |false=>rw[hb] at h;simp only[cond_false] at h;exact List.mem_cons_of_mem _ (VL h)
structure Rk where
 a:List Value
 b:List Value
 c:List (Option Cells)
 d:List (Option Cells)
def aFP(ps:List Nat)(w:List Sg):Option Cells:=bif FN ps then (match OB ps w with
 |some x=>some (den x)
 |none=>none) else none
def rkL(P:Program)(n:Nat)(ops:Array Oper)(base:Env)(Pl:List (Nat×Value))(nd:List (Nat×Cells))(w:List Sg)(kn:Cells):List (List Nat)→List (Nat×Value)→Option Rk
 |_,[]=>some ⟨[],[],[],[]⟩
 |hs,(j,u)::r=>bif sD ops n base Pl j then rkL P n ops base Pl nd w kn hs r else (match hs with
  |h::hs=>match ndG nd j with
   |some B=>match rkL P n ops base Pl nd w kn hs r with
    |some ⟨a,b,c,d⟩=>some ⟨a,b,aFP h w::c,some B::d⟩
    |none=>none
   |none=>match ops[j]? with
    |some p=>match we ops n (cg ops base j Pl) p.guard with
     |some true=>match p.op with
      | .load T x=>match bh n (cg ops base j Pl) x with
       |some (.pointer (some ⟨b,off,none⟩))=>match AV w kn (h.headD 0) with
        |some (b',l)=>match ldv P T l off with
         |some v=>match rkL P n ops base Pl nd w kn hs r with
          |some ⟨a1,b1,c,d⟩=>some ⟨v:: .int .i64 b'::a1,u:: .int .i64 b::b1,c,d⟩
          |none=>none
         |none=>none
        |none=>none
       |_=>none
      |_=>none
     |_=>none
    |none=>none
  | []=>none)
theorem KS{ops:Array Oper}{base:Env}{Pl:List (Nat×Value)}{nd:List (Nat×Cells)}{w:List Sg}{kn:Cells}(bV:Knows X.ro kn):∀ {l:List (Nat×Value)} {hs:List (List Nat)} {k:Rk},rkL X.P X.n ops base Pl nd w kn hs l=some k→k.a=k.b→k.c=k.d→∀j u,(j,u)∈l→sD ops X.n base Pl j=false→
 (∀B,(j,B)∈nd→Ext ⟨X.ro,[]⟩ ⟨X.ro,den w⟩→(∀x∈B,(⟨X.ro,den w⟩:St).has x.1 x.2)→eT X.C X.fn X.az ops X.n X.D j u (cg ops base j Pl) ⟨X.ro,den w⟩)→eT X.C X.fn X.az ops X.n X.D j u (cg ops base j Pl) ⟨X.ro,den w⟩
 | [],_,_,_,_,_,j,u,h,_,_=>by cases h
 | (j0,u0)::r,hs,k,h,Bm,hcd,j,u,hm,hpj,lY=>by
  simp only[rkL] at h
  cases Y1:sD ops X.n base Pl j0 with
  |true=>
   rw[Y1] at h;simp only[cond_true] at h
   rcases List.mem_cons.1 hm with h1|h1
   ·cases h1;rw[Y1] at hpj;cases hpj
   exact KS bV h Bm hcd j u h1 hpj lY
  |false=>
   rw[Y1] at h;simp only[cond_false] at h
   split at h<;>try (cases h;done)
   rename_i h0 bW
   split at h
   ·rename_i B hB
    split at h<;>try (cases h;done)
    rename_i a b c d hr
    cases h
    simp only[List.cons.injEq] at hcd
    rcases List.mem_cons.1 hm with h1|h1
    ·cases h1
     refine lY B (VL hB) MA fun x hx=> .inr ?_
     have hw:=hcd.1
     unfold aFP at hw
     cases ho:FN h0 with
     |false=>rw[ho] at hw;cases hw
     |true=>
      rw[ho] at hw;simp only[cond_true] at hw
      split at hw<;>try (cases hw;done)
      rename_i y hy
      simp only[Option.some.injEq] at hw;subst hw
      exact(wY hy ho).mem_iff.2 (List.mem_append_left _ hx)
    exact KS bV hr Bm hcd.2 j u h1 hpj lY
   split at h<;>try (cases h;done)
   rename_i p hp
   have Ee:aP ops j0=p.dst:=by simp only[aP,hp,Option.bind_some]
   split at h<;>try (cases h;done)
   rename_i hg
   split at h<;>try (cases h;done)
   rename_i T x ay
   split at h<;>try (cases h;done)
   rename_i b0 off hx
   split at h<;>try (cases h;done)
   rename_i b' l hc
   split at h<;>try (cases h;done)
   rename_i v hv
   split at h<;>try (cases h;done)
   rename_i a1 b1 c d hr
   cases h
   simp only[List.cons.injEq,Value.int.injEq,true_and] at Bm
   obtain⟨rfl,hb,Bm⟩:=Bm
   have hb:b'=b0:=by omega
   subst hb
   rcases List.mem_cons.1 hm with h1|h1
   ·cases h1
    obtain⟨t,fz,hh⟩:=y3 (X:=X) bV hc
    intro s1 hx1 rest todo Q hk
    rw[Ee] at hk
    exact lJ X.hC hp rest (nN hg rest) (by rw[ay];rfl) (adl ay hx hh hv) hx1 hk
   exact KS bV hr Bm hcd j u h1 hpj lY
def rkO(P:Program)(n i:Nat)(hs:List (List Nat)):Option JS→Option JS→Option Rk
 |some ⟨.G4 ops base Pl Sl _,_,_,kn⟩,some s1=>rkL P n ops base Pl kn.nd s1.rw s1.kn.c hs (pending ops i Sl)
 |_,_=>none
def rkA:Option Rk→Option (List Value×List (Option Cells))
 |some k=>some (k.a,k.c)
 |none=>some ([],[])
def rkB:Option Rk→Option (List Value×List (Option Cells))
 |some k=>some (k.b,k.d)
 |none=>none
theorem jA(hK:LK X i o rest todo)(hs:List (List Nat))(hj:J X (Uu i o o1))(hc:bkL i rest todo o o1=o1:=by kernel_rfl)(h2:rkA (rkO X.P X.n i hs o o1)=rkB (rkO X.P X.n i hs o o1):=by kernel_rfl):J X o1:=by
 by_cases dR:o1=none
 ·subst dR
  cases o with
  |none=>exact hj
  |some s=>rcases s with ⟨p,e,w,kn⟩;cases p<;>exact hj
 obtain⟨kg,base,Pl,Sl,k,e,w,kn,v,w',kn',rfl,rfl⟩:=Uq hc dR
 intro bV
 have hv:(match aP kg i with
  |some d=>(gX (upd (aP kg i) v (cg kg base i Pl++rest)) d).getD undef
  |none=>undef)=v∨aP kg i=none:=by
  cases hd:aP kg i with
  |none=>exact .inr rfl
  |some d=>left;simp[upd,gX]
 have hj:=hj bV
 simp only[Uu,JP] at hj
 have bS:∀j u,(j,u)∈pending kg i Sl→sD kg X.n base Pl j=false→(∀B,(j,B)∈kn.nd→Ext ⟨X.ro,[]⟩ ⟨X.ro,den w'⟩→(∀x∈B,(⟨X.ro,den w'⟩:St).has x.1 x.2)→eT X.C X.fn X.az kg X.n X.D j u (cg kg base j Pl) ⟨X.ro,den w'⟩)→eT X.C X.fn X.az kg X.n X.D j u (cg kg base j Pl) ⟨X.ro,den w'⟩:=by
  simp only[rkO] at h2
  cases hr:rkL X.P X.n kg base Pl kn.nd w' kn'.c hs (pending kg i Sl) with
  |none=>rw[hr] at h2;cases h2
  |some x=>
   rw[hr] at h2
   simp only[rkA,rkB,Option.some.injEq,Prod.mk.injEq] at h2
   exact KS bV hr h2.1 h2.2
 have key:=hK (match aP kg i with
  |some d=>(gX (upd (aP kg i) v (cg kg base i Pl++rest)) d).getD undef
  |none=>undef) ⟨X.ro,den w'⟩ (fun j u HL Y1 hn _=>bS j u HL Y1 hn) hj
 show ab _ _ _ _ _ _ _ _
 rcases hv with hv|hv
 ·rw[hv] at key;exact key
 rw[hv] at key ⊢;exact key
end
attribute [irreducible] rkO rkA rkB arh VX Uu bkL rwO ack
abbrev RY(ro:Nat→Option Obj)(Φ:Value→Cells→Prop):Ending→St→Prop:=fun en s'=>∃v X,en= .returned v∧(⟨ro,X⟩:St).le s'∧Φ v X
theorem Round.mono{l:Nat}{bd:Code}{R':Ending→St→Prop}(h:Round C l f tm as bd s R)(hr:∀e s,R e s→R' e s):Round C l f tm as bd s R':=
 fun main T hT c cs k1 k2=>h main T hT c cs (fun v s' hv=>k1 v s' (hr _ _ hv)) (fun ch s' hv=>k2 ch s' (hr _ _ hv))
theorem Round.weaken{C':Class}(hc:∀main T,C' main T→C main T){l:Nat}{bd:Code}(h:Round C l f tm as bd s R):Round C' l f tm as bd s R:=
 fun main T hT=>h main T (hc main T hT)
theorem Round.frame{l:Nat}{bd:Code}{s1:St}{B:Cells}{ro:Nat→Option Obj}(hf:Round (CP P) l f tm as bd s1 R)(hB:∀x∈B,x∈fr)(hc:aak fr B ro s1 s):
 Round (CP P) l f tm as bd s (fun en s'=>∃ym,R en ym∧aak fr B ro ym s'):=
 fun main T hT c cs k1 k2=>hf main _ (AD hT hB ro) c cs (fun v ym hv _ s' sQ=>k1 v s' ⟨ym,hv,sQ⟩) (fun ch ym hv _ s' sQ=>k2 ch s' ⟨ym,hv,sQ⟩) rfl s hc
def aaL(r:Loop)(vs:List Value):Array Value:=(r.params.zip ⟨vs⟩).foldl (fun tmps (x:Tmp×Value)=>tmps.setIfInBounds x.1 x.2) r.tmps
def YX(P:Program)(bl:Nat)(vs:List Value)(ro:Nat→Option Obj)(own:Cells)(Φ:Value→Cells→Prop):Prop:=
 ∃r,(bl,.loop r)∈own∧vs.length=r.params.size∧Round (CP P) bl r.fn (aaL r vs) r.assign r.body ⟨ro,own⟩ (RY ro Φ)
theorem YX.use{ro:Nat→Option Obj}{own:Cells}(hy:YX P bl vs ro own Φ)(hs:Sub ro s.ro)(hp:s.rw.Perm (own++fr)){Q:Next→St→Prop}{E:Halt→St→Prop}
 (h:∀l f tm as bd,Round (CP P) l f tm as bd s (fun en s'=>∃v X,en= .returned v∧Φ v X∧(⟨s.ro,X++fr⟩:St).le s')→Q (.round l f tm as bd) s):bN P (Instr.yield bl ⟨vs⟩) s Q E:=by
 obtain⟨r,h1,h2,h3⟩:=hy
 simp only[Instr.yield,Instr.getLoop,aa]
 refine cA (o:= .loop r) (.inr (hp.mem_iff.2 (List.mem_append_left _ h1))) rfl rfl ?_
 have uU:¬(⟨vs⟩:Array Value).size≠r.params.size:=by simpa using h2
 simp only[ae,if_neg uU]
 refine h _ _ _ _ _ (Round.mono (Round.frame (fr:=fr) (B:=[]) (ro:=s.ro) (s:=s) h3 (fun _ h=>(by cases h)) ⟨hp,fun b o hb=> .inl (hs b o hb),Sub.refl _⟩) fun en s' Di=>?_)
 obtain⟨ym,⟨v,X,rfl,⟨R,hR1,hR2⟩,qi⟩,hc⟩:=Di
 refine⟨v,X,rfl,qi,R,?_,fun b o hb=> .inl (hc.keep b o hb)⟩
 refine hc.rw.trans ((hR1.append_right fr).trans ?_)
 simp only[List.append_assoc]
 exact List.Perm.append_left _ List.perm_append_comm
section
variable {X:Cx} {o:Option JS}
def apf(n:Nat)(p:Oper)(e:Env):Option (Nat×List Value):=match p.op with
 | .call ⟨.value x,xs,_⟩=>match bh n e x with
  |some (.func (.yield bl) ⟨[]⟩ ⟨[]⟩)=>match xN n e xs.toList with
   |some vs=>some (bl,vs)
   |none=>none
  |_=>none
 |_=>none
theorem jyc{own:Cells}(ps:List Nat)(hy:YX X.P bl vs pz own Φ)(fJ:Sub pz X.ro)(hj:∀v Y,Φ v Y→J X (nj ps v Y o))(h1:fg X.n (apf X.n) o=some (bl,vs):=by kernel_rfl)(h2:dS ps o=some own:=by kernel_rfl):J X o:=by
 obtain⟨ops,i,todo,k,e,w,kn,p,rfl,ho,hw,hc⟩:=dr h1
 intro bV
 unfold apf at hc
 split at hc<;>try (cases hc;done)
 rename_i x xs at_ ay
 split at hc<;>try (cases hc;done)
 rename_i bl' hx
 split at hc<;>try (cases hc;done)
 rename_i oe Eb
 cases hc
 rcases p with ⟨dst,op,ty,pos,cZ,g⟩
 dsimp only at ay;subst ay
 have hp:=bD h2
 refine bR X.hC ho hw (by simp) ?_
 have Rq:xs.map (ev X.n e)=⟨vs⟩:=r5 Eb
 simp only[execOp,resolve,aD hx,Deferred.ofValue,ae,Rq]
 have hiv:(invoke (.fn (.yield bl) ⟨[]⟩) (⟨[]⟩++⟨vs⟩):Sem Next)=Instr.yield bl ⟨vs⟩:=by simp[invoke]
 rw[hiv]
 refine YX.use hy fJ hp fun l f tm as bd hR=>?_
 show Round X.C l f tm as bd _ _
 refine Round.mono (Round.weaken X.hC hR) fun en s' Di=>?_
 obtain⟨v,Y,rfl,qi,hle⟩:=Di
 have:=hj v Y qi
 rw[n9 ho] at this
 have:=this bV
 simp only[JP,gE] at this
 have:=this.more X.hC hle
 show ab _ _ _ _ _ _ _ _
 rw[aV]
 exact this
end
attribute [irreducible] apf
def mk:List Nat→Cells
 | []=>[]
 |b::r=>(b,.deferred (some []))::mk r
def ac4(P:Program)(fn:Func)(R:Ending→St→Prop):Post
 | .normal,a,s| .ret,a,s=>∃uh rest,a.defers=uh.map eg∧s.rw.Perm (mk uh++rest)∧bN P (results fn a.tmps) ⟨s.ro,rest⟩ (fun v s'=>∃s0,s0.le s'∧R (.returned v) s0) (fun _ _=>False)
 |_,_,_=>False
section
variable {P:Program} {C:Class}
theorem zt(hC:∀main T,C main T→Closed P main T)(hT:C main T){rest:Cells}:∀(uh:List Nat) (fr:Frame) (s:St),fr.mode= .returning→fr.defers=uh.map eg→s.rw.Perm (mk uh++rest)→T (G {fr with defers:=[]} cs) ⟨s.ro,rest⟩→T (G fr cs) s
 | [],fr,s,_,hd,hp,h=>by
  have:fr={fr with defers:=[]}:=by rcases fr with ⟨a,b,c,d,e,f,g⟩;simp only[List.map_nil] at hd;subst hd;rfl
  rw[this]
  exact(hC main T hT).mono _ ⟨s.ro,rest⟩ _ ⟨[],by simpa [mk] using hp,fun b o hb=> .inl hb⟩ h
 |b::r,fr,s,hm,hd,hp,h=>by
  obtain⟨L,Rr,hs⟩:=List.append_of_mem (hp.mem_iff.2 (List.mem_append_left _ List.mem_cons_self))
  refine unwind_mark hC hT (.inl hm) (ds:=r.map eg) (by simpa using hd) hs ?_
  have Ri:(L++Rr).Perm (mk r++rest):=by
   rw[hs] at hp
   exact(List.perm_middle.symm.trans hp).cons_inv
  refine(hC main T hT).mono _ ⟨s.ro,L++Rr⟩ _ ⟨[(b,.deferred none)],?_,fun b o hb=> .inl hb⟩ (zt hC hT r _ _ hm rfl Ri h)
  exact List.perm_middle.trans (List.perm_append_singleton _ _).symm
theorem Ka(hC:∀main T,C main T→Closed P main T){c:Code}{args:Array Value} 
 (hf:P.funcs[f]?=some fn) (hb:fn.body=some c) (h:Wp C f none c (ac4 P fn R) ⟨args++Array.replicate (fn.ntmps-args.size) undef,[]⟩ s):Fn C P f args s R:=by
 intro main T hT cl cs k1 k2
 let b:Frame:={(default:Frame) with fn:=f,kind:= .normal,roundOf:=none}
 have ij:Frame.enter P f args .normal=aJ b ⟨args++Array.replicate (fn.ntmps-args.size) undef,[]⟩ [.code c]:=by
  simp[Frame.enter,aJ,hf,hb,b]
 rw[ij]
 refine h main T hT b [] (cl::cs) rfl (by simp[b]) rfl fun e a' s' q=>?_
 have rV:∀(todo:List Item),(∃uh rest,a'.defers=uh.map eg∧s'.rw.Perm (mk uh++rest)∧bN P (results fn a'.tmps) ⟨s'.ro,rest⟩ (fun v s'=>∃s0,s0.le s'∧R (.returned v) s0) (fun _ _=>False))→T (G {aJ b a' todo with mode:= .returning} (cl::cs)) s':=by
  intro todo ⟨uh,rest,hd,hp,hr⟩
  exact zt hC hT uh _ _ rfl hd hp (sC hC hT hf rfl rfl rfl rfl hr k1)
 cases e with
 |normal=>
  exact(hC main T hT).go rfl rfl (g':=G {aJ b a' [] with mode:= .returning} (cl::cs)) (fun w=>by simp[G,stepG,stepG.exec,aJ,b]) (rV _ q)
 |ret=>
  exact fun todo=>(hC main T hT).go rfl rfl (g':=G {aJ b a' (.code .ret::todo) with mode:= .returning} (cl::cs)) (fun w=>by simp[G,stepG,stepG.exec,aJ,b]) (rV _ q)
 |panic ch=>exact q.elim
 |exit id=>exact q.elim
 |goto l=>exact q.elim
 |outgrown=>exact q.elim
end
def XM(P:Program)(hm:P.follows .mixedOrders=true)(f:FuncId)(ro:Nat→Option Obj)(R:Ending→St→Prop):Cx:=⟨P,CP P,eY,hm,f,none,(sV P f).ntmps,[],ro,ac4 P (sV P f) R⟩
theorem akY(hm:P.follows .mixedOrders=true){ro:Nat→Option Obj}{L:Cells}(own:List Sg)(kn:Cells)(hk:Knows ro kn)(h:J (XM P hm f ro (RX ro Φ)) (kS P f args own kn))(hL:den own=L:=by rfl):eE P f args ro L Φ:=by
 subst hL
 unfold kS at h
 split at h<;>try exact h.elim
 rename_i fn hf
 split at h<;>try exact h.elim
 rename_i c hc
 cases hl:Nat.ble args.length fn.ntmps with
 |false=>rw[hl] at h;exact h.elim
 |true=>
  rw[hl] at h
  have uC:sV P f=fn:=by simp only[sV,hf]
  have:=h hk
  simp only[JP,XM,KQ,uC] at this
  refine Ka eY hf hc ?_
  have he:=kO args fn.ntmps (Nat.le_of_ble_eq_true hl)
  rw[←he] at this
  exact this
structure QM(X:Cx)(R:Ending→St→Prop)(uh:List Nat):Prop where
 q:X.Q=ac4 X.P (sV X.P X.fn) R
 d:X.D=uh.map eg
def Cx.dm(X:Cx)(bd:Nat):Cx:={X with D:=eg bd::X.D}
theorem qm0{hm:P.follows .mixedOrders=true}{ro:Nat→Option Obj}:QM (XM P hm f ro R) R []:=⟨rfl,rfl⟩
theorem QM.a{ro:Nat→Option Obj}(h:QM X R uh):QM (X.at ro) R uh:=⟨h.q,h.d⟩
theorem QM.m(h:QM X R uh):QM (X.dm bd) R (bd::uh):=⟨h.q,by simp[Cx.dm,h.d]⟩
theorem QM.w{aF5:List Nat}(h:QM X R uh):QM (X.wd (aF5.map eg)) R aF5:=⟨h.q,rfl⟩
def Cw(pm:List Nat):Option JS→Option JS
 |some ⟨p,e,w,kn⟩=>some ⟨p,e,dz pm 0 w,kn⟩
 |none=>none
section
variable {X:Cx} {o:Option JS}
theorem jrM(hq:QM X (RX pz Φ) uh)(v:Value)(pm hs ps:List Nat)(Y:Cells)(fJ:Sub pz X.ro)(hR:Φ v Y)(h0:dS pm o=some (mk uh):=by kernel_rfl)(h1:sS (jQ X.P X.n X.fn hs (Cw pm o))=some v:=by kernel_rfl)(h2:Rw (jQ X.P X.n X.fn hs (Cw pm o))=Rv (jQ X.P X.n X.fn hs (Cw pm o)):=by kernel_rfl)(h3:dS ps (Cw pm o)=some Y:=by kernel_rfl)(h4:Cq o=true:=by kernel_rfl):J X o:=by
 obtain⟨ex,e,w,kn,rfl,hex⟩:=sX h4
 simp only[Cw,jQ] at h1 h2 h3
 cases hr:BE X.P X.n e (dz pm 0 w) kn.c hs (sV X.P X.fn).results.toList with
 |none=>simp only[hr,sS] at h1;cases h1
 |some x=>
  rcases x with ⟨vs,q⟩
  simp only[hr,sS,Option.some.injEq,Rw,Rv] at h1 h2
  intro bV
  have rV:=tE bV hr (lZ h2)
  have hp:=bD h3
  have EL:=Od (s0:=⟨pz,Y⟩) (R:=RX pz Φ) hex rV h1 (dL hp fJ) ⟨v,Y,rfl,rfl,hR⟩
  have ht:bN X.P (results (sV X.P X.fn) (A X.n e X.D).tmps) ⟨X.ro,den (dz pm 0 w)⟩ (fun v s'=>∃s0,s0.le s'∧RX pz Φ (.returned v) s0) (fun _ _=>False):=by
   rcases hex with rfl|rfl<;>exact EL.2
  show X.Q ex (A X.n e X.D) ⟨X.ro,den w⟩
  rw[hq.q]
  have hm:∃uh rest,(A X.n e X.D).defers=uh.map eg∧(den w).Perm (mk uh++rest)∧bN X.P (results (sV X.P X.fn) (A X.n e X.D).tmps) ⟨X.ro,rest⟩ (fun v s'=>∃s0,s0.le s'∧RX pz Φ (.returned v) s0) (fun _ _=>False):=⟨uh,_,hq.d,bD h0,ht⟩
  rcases hex with rfl|rfl<;>exact hm
end
attribute [irreducible] Cw
def upQ(Q:Post):Post:=fun e a s=>∃s0,s0.le s∧Q e a s0
theorem jN.more(hT:Closed P main T){b:Frame}(hl:s.le s'):∀ {e:Exit} {a:Act},jN T b k cs e a s→jN T b k cs e a s'
 | .normal,_,h=>hT.mono _ _ _ hl h
 | .exit id,a,h=>by
  simp only[jN] at h ⊢
  cases hk:exitTo id k with
  |some k'=>rw[hk] at h;exact hT.mono _ _ _ hl h
  |none=>rw[hk] at h;exact fun todo ht=>hT.mono _ _ _ hl (h todo ht)
 | .ret,_,h=>fun todo=>hT.mono _ _ _ hl (h todo)
 | .panic _,_,h=>fun todo=>hT.mono _ _ _ hl (h todo)
 | .goto _,_,h=>h.elim
 | .outgrown,_,h=>h.elim
theorem aw0(hC:∀main T,C main T→Closed P main T){fn:FuncId}{az:Option Nat}{c:Code}{Q:Post}{a:Act}(h:Wp C fn az c (upQ Q) a s):Wp C fn az c Q a s:=
 fun main T hT b k cs h1 h2 h3 h4=>h main T hT b k cs h1 h2 h3 fun _ _ _ ⟨_,hl,hq⟩=>jN.more (hC _ _ hT) hl (h4 _ _ _ hq)
def ItX(P:Program)(g:FuncId)(fi ca:List Value)(ro:Nat→Option Obj)(own:Cells)(N:Nat)(El:(Nat→Option Obj)→Nat→List Value→Cells→Prop)(Ψ:Cells→Prop):Prop:=
 ∀(bl:Nat) (aB:Nat→Option Obj) (Inv:Nat→Cells→Prop) (Stop:Cells→Prop),Sub ro aB→
  (∀k vs LL B lT,k <N→El lT k vs LL→Inv k B→Sub aB lT→YX P bl vs lT (LL++B) (fun r B'=>(r= .bool true∧Inv (k+1) B')∨(r= .bool false∧Stop B')))→
  ∀B,Inv 0 B→eE P g (fi++[.func (.yield bl) #[] #[]]++ca) aB (own++B) (fun _ Y=>∃Z B',Y=Z++B'∧Ψ Z∧(Inv N B'∨Stop B'))
theorem Round.more(hC:∀main T,C main T→Closed P main T){l:Nat}{bd:Code}(hl:s.le s')(h:Round C l f tm as bd s R):Round C l f tm as bd s' R:=
 fun main T hT c cs k1 k2=>(hC _ _ hT).mono _ _ _ hl (h main T hT c cs k1 k2)
def rfV(P:Program)(n:Nat):Option JS→Option (FuncId×List Value×List Value×Nat)
 |some ⟨.code (.rangeFunc x ps _ _) _,e,_,_⟩=>match bh n e x with
  |some (.func (.func g) ⟨fi⟩ ⟨ca⟩)=>bif Bq P g then some (g,fi,ca,ps.size) else none
  |_=>none
 |_=>none
def lpO(X:Cx)(bd:Nat):Option JS→Loop
 |some ⟨.code (.rangeFunc _ ps a b) _,e,_,_⟩=>iD X.fn (A X.n e X.D).tmps ps a b bd
 |_=>iD X.fn #[] #[] .ret .ret bd
def aF1:Option JS→Code
 |some ⟨.code (.rangeFunc _ _ _ b) _,_,_,_⟩=>b
 |_=> .ret
def N7:List Tmp→List Value→Env→Env
 |t::ts,v::vs,e=>N7 ts vs (upd (some t) v e)
 |_,_,e=>e
theorem N6{D:List Deferred}:∀(ts:List Tmp) (vs:List Value) (e:Env),(ts.zip vs).foldl (fun(tm:Array Value) (x:Tmp×Value)=>tm.setIfInBounds x.1 x.2) (A n e D).tmps=(A n (N7 ts vs e) D).tmps
 | [],_,_=>rfl
 |_::_,[],_=>rfl
 |t::ts,v::vs,e=>by
  have:=aV n e D (some t) v
  simp only[Act.put] at this
  simp only[List.zip_cons_cons,List.foldl_cons,N7]
  rw[←N6 ts vs,←this]
def rdO(X:Cx)(bl bd:Nat)(vs:List Value)(w:List Sg)(o:Option JS):Option JS:=match o with
 |some ⟨.code (.rangeFunc _ ps a _) _,e,_,kn⟩=>some ⟨.code a [],N7 ps.toList vs e,.b bl (.loop (lpO X bd o))::w,⟨kn.c,[]⟩⟩
 |_=>none
def afO(jump:Option Code)(bd:Nat)(Z:Cells)(wi:List Sg)(is:List Nat):Option JS→Option JS
 |some ⟨.code _ k,e,w,kn⟩=>match jump with
  |none=>some ⟨Oz k,e,.b bd (.deferred (some [])):: .l Z::(wi++dz is 0 w),⟨kn.c,[]⟩⟩
  |some .ret=>some ⟨.fin .ret,e,.b bd (.deferred (some [])):: .l Z::(wi++dz is 0 w),⟨kn.c,[]⟩⟩
  |some (.exit id)=>match AM id k with
   |some p=>some ⟨p,e,.b bd (.deferred (some [])):: .l Z::(wi++dz is 0 w),⟨kn.c,[]⟩⟩
   |none=>none
  |_=>none
 |_=>none
def apg(bl:Nat)(Lp:Loop)(wf:ι→List Sg)(Inv:Nat→ι→Prop)(Sp:Code→ι→Prop)(k:Nat):Value→Cells→Prop:=fun r B=>
 (r= .bool true∧∃j,Inv (k+1) j∧B=(bl,.loop Lp)::den (wf j))∨(r= .bool false∧∃jump j,Sp jump j∧B=(bl,.loop {Lp with state:= .done,pending:=some jump})::den (wf j))
def Cx.rd(X:Cx)(bl:Nat)(ro:Nat→Option Obj)(Φ:Value→Cells→Prop)(body:Code):Cx:=⟨X.P,CP X.P,eY,X.hm,X.fn,some bl,X.n,[],ro,Hs (CP X.P) (RY ro Φ) bl X.fn body⟩
def Cx.re(X:Cx)(bl:Nat)(ro:Nat→Option Obj)(Φ:Value→Cells→Prop):Cx:=⟨X.P,CP X.P,eY,X.hm,X.fn,some bl,X.n,[],ro,BD (RY ro Φ) bl⟩
theorem Ku:∀(k:List KI),KQ (X.dm bd) k=KQ X k
 | []=>rfl
 | .seq _::k=>by simp only[KQ,Ku k];rfl
 | .block _::k=>by simp only[KQ,Ku k]
 | .next _::k=>by simp only[KQ,Ku k]
theorem Jm(Z W R:List α)(x y:α):((Z++x::W)++y::R).Perm (x::y::(Z++(W++R))):=by
 refine List.perm_middle.trans ?_
 rw[List.append_assoc,List.cons_append]
 exact(List.Perm.cons y List.perm_middle).trans (List.Perm.swap _ _ _)
section
variable {X:Cx} {o:Option JS}
theorem jrf{np:Nat}{Ψ:Cells→Prop}(ow:List Sg)(hit:ItX X.P g fi ca X.ro (den ow) N El Ψ)(WC:∀ro k vs LL,El ro k vs LL→vs.length=np)
 (wf:ι→List Sg)(Inv:Nat→ι→Prop)(Sp:Code→ι→Prop)(i0:ι)(h0:Inv 0 i0)(is:List Nat)
 (hb:∀bl bd k vs LL i lT,k <N→El lT k vs LL→Inv k i→Sub X.ro lT→J (X.rd bl lT (apg bl (lpO X bd o) wf Inv Sp k) (aF1 o)) (rdO X bl bd vs (wf i++[.l LL]) o))
 (hN:∀bd i Z,Inv N i→Ψ Z→J (X.dm bd) (afO none bd Z (wf i) is o))(hS:∀bd i Z jump,Sp jump i→Ψ Z→J (X.dm bd) (afO (some jump) bd Z (wf i) is o))
 (h1:rfV X.P X.n o=some (g,fi,ca,np):=by kernel_rfl)(h2:qX is o=some (ow++wf i0):=by kernel_rfl)(hf:(X.P.funcs[X.fn]?).isSome=true:=by kernel_rfl) (hr:X.az=none:=by rfl):J X o:=by
 unfold rfV at h1
 split at h1<;>try (cases h1;done)
 rename_i x params assign body k e w kn
 split at h1<;>try (cases h1;done)
 rename_i g' Ua y4 hx
 cases Gy:Bq X.P g' with
 |false=>rw[Gy] at h1;cases h1
 |true=>
  rw[Gy] at h1
  simp only[cond_true,Option.some.injEq,Prod.mk.injEq] at h1
  obtain⟨rfl,rfl,rfl,hnp⟩:=h1
  have ff:=kU Gy
  intro bV
  have hp:=lI h2
  rw[lv] at hp
  obtain⟨fn',uC⟩:=Option.isSome_iff_exists.1 hf
  show Wp X.C X.fn X.az (.rangeFunc x params assign body) (KQ X k) (A X.n e X.D) ⟨X.ro,den w⟩
  rw[hr]
  refine aw0 X.hC (zn X.hC (fi:=⟨Ua⟩) (ca:=⟨y4⟩) (by rw[ek];exact aD hx) ff fun bd bl _ _=>?_)
  rw[QT]
  have hy:=hit bl X.ro (fun k B=>∃i,Inv k i∧B=(bl,.loop (iD X.fn (A X.n e X.D).tmps params assign body bd))::den (wf i))
   (fun B=>∃jump i,Sp jump i∧B=(bl,.loop {iD X.fn (A X.n e X.D).tmps params assign body bd with state:= .done,pending:=some jump})::den (wf i)) (Sub.refl _) (fun k vs LL B lT hk hv hi hs=>?_) _ ⟨i0,h0,rfl⟩
  rotate_left
  ·obtain⟨i,hi,rfl⟩:=hi
   refine⟨iD X.fn (A X.n e X.D).tmps params assign body bd,List.mem_append_right _ List.mem_cons_self,(WC _ _ _ _ hv).trans hnp.symm,Round.more eY (s:=⟨lT,((bl,.loop (iD X.fn (A X.n e X.D).tmps params assign body bd))::den (wf i))++LL⟩) ⟨[],by rw[List.append_nil];exact List.perm_append_comm,fun b o hb=> .inl hb⟩ (C4 eY uC ?_)⟩
   have:=hb bl bd k vs LL i lT hk hv hi hs fun y hy=>hs _ _ (bV y hy)
   have Mn:den (.b bl (.loop (iD X.fn (A X.n e X.D).tmps params assign body bd))::(wf i++[.l LL]))=((bl,.loop (iD X.fn (A X.n e X.D).tmps params assign body bd))::den (wf i))++LL:=by rw[iI,lv];rfl
   rw[←Mn]
   have hyt:aaL (iD X.fn (A X.n e X.D).tmps params assign body bd) vs=(A X.n (N7 params.toList vs e) X.D).tmps:=by
    rw[←N6]
    simp only[aaL,iD]
    rw[←Array.foldl_toList,Array.toList_zip]
   rw[hyt]
   exact this
  refine Fn.weaken X.hC (Fn.mono (Fn.frame (fr:=(bd,.deferred (some []))::den (dz is 0 w)) (B:=[]) (ro:=X.ro) hy (fun _ h=>(by cases h)) ⟨?_,fun b o hb=> .inl hb,Sub.refl _⟩) fun en s' Di=>?_)
  ·refine List.Perm.trans (.cons _ (.cons _ ?_)) (Jm _ _ _ _ _).symm
   rw[←List.append_assoc]
   exact hp
  obtain⟨ym,⟨v,Y,rfl,rfl,Z,B',rfl,hΨ,hI⟩,hc⟩:=Di
  have hc1:s'.rw.Perm ((Z++B')++(bd,.deferred (some []))::den (dz is 0 w)):=hc.rw
  have key:∀(r0:Loop) (i:ι),B'=(bl,.loop r0)::den (wf i)→∃L Rr,s'.rw=L++(bl,.loop r0)::Rr∧∀r1,(⟨X.ro,den (.b bd (.deferred (some [])):: .l Z::(wf i++dz is 0 w))⟩:St).le ⟨s'.ro,L++(bl,.loop r1)::Rr⟩:=by
   intro r0 i hB
   subst hB
   have Zk:=hc1.trans (Jm _ _ _ _ _)
   obtain⟨L,Rr,hs⟩:=List.append_of_mem (Zk.mem_iff.2 List.mem_cons_self)
   refine⟨L,Rr,hs,fun r1=>dL (J:=[(bl,.loop r1)]) ?_ hc.keep⟩
   rw[hs] at Zk
   have hc3:=(List.perm_middle.symm.trans Zk).cons_inv
   rw[iI,gE,lv]
   exact List.perm_middle.trans ((List.Perm.cons _ hc3).trans (List.perm_append_singleton _ _).symm)
  rcases hI with ⟨i,hi,hB⟩| ⟨jump,i,hi,hB⟩
  ·obtain⟨L,Rr,hs,hle⟩:=key _ i hB
   refine⟨L,_,Rr,hs,by simp[iD],?_⟩
   refine⟨_,hle _,?_⟩
   have:=hN bd i Z hi hΨ bV
   rw[←Ku (bd:=bd)]
   exact tI (X:=X.dm bd) (kn:=⟨kn.c,[]⟩) this
  obtain⟨L,Rr,hs,hle⟩:=key _ i hB
  refine⟨L,_,Rr,hs,by simp,?_⟩
  have:=hS bd i Z jump hi hΨ
  cases jump with
  |ret=>
   refine⟨_,hle _,?_⟩
   rw[←Ku (bd:=bd)]
   exact zx (X:=X.dm bd) (this bV) k
  |exit id=>
   simp only[afO] at this
   cases hk:AM id k with
   |none=>rw[hk] at this;exact this.elim
   |some p=>
    rw[hk] at this
    refine⟨_,hle _,?_⟩
    rw[←Ku (bd:=bd)]
    exact wu (X:=X.dm bd) (kn:=⟨kn.c,[]⟩) hk (this bV)
  |_=>exact this.elim
end
theorem azN:(lpO X bd o).state= .ready∧(lpO X bd o).pending=none:=by
 unfold lpO
 split<;>exact⟨rfl,rfl⟩
attribute [irreducible] rfV lpO aF1 rdO afO
def bgO(body:Code):Option JS→Option (JS×Nat)
 |some ⟨.fin .normal,e,.b b (.loop r)::w,kn⟩=>match r.state with
  | .ready=>some (⟨.code body [],e,.b b (.loop {r with state:= .busy})::w,kn⟩,b)
  |_=>none
 |_=>none
def Eh:Option (JS×Nat)→Option JS
 |some (s,_)=>some s
 |none=>none
def R9:Option (JS×Nat)→Option Nat
 |some (_,b)=>some b
 |none=>none
def Ph:Option JS→Option (Option Code)
 |some ⟨.fin .normal,_,_,_⟩=>some none
 |some ⟨.fin .ret,_,_,_⟩=>some (some .ret)
 |some ⟨.fin (.exit id),_,_,_⟩=>some (some (.exit id))
 |_=>none
structure QY(X:Cx)(bl:Nat)(ro:Nat→Option Obj)(Φ:Value→Cells→Prop):Prop where
 q:X.Q=BD (RY ro Φ) bl
theorem Yg{ro:Nat→Option Obj}:QY (X.re bl ro Φ) bl ro Φ:=⟨rfl⟩
section
variable {X:Cx} {o:Option JS} {bl:Nat} {ro:Nat→Option Obj}
theorem jbg(h:J (X.re bl ro Φ) (Eh (bgO body o)))(h1:R9 (bgO body o)=some bl:=by kernel_rfl):J (X.rd bl ro Φ body) o:=by
 unfold bgO at h h1
 split at h<;>try exact h.elim
 rename_i e b r w kn
 split at h<;>try exact h.elim
 rename_i bS
 simp only[bS,R9,Option.some.injEq] at h1
 subst h1
 simp only[Eh] at h
 intro bV
 have hw:=h bV
 simp only[JP,Cx.rd,Hs,CQ]
 refine⟨[],r,den w,by rw[iI];rfl,bS,?_⟩
 simp only[JP,iI] at hw
 exact hw
theorem jyR{Lp:Loop}{jump:Option Code}{Y:Cells}(hq:QY X bl ro Φ)(fJ:Sub ro X.ro)(ps:List Nat)(qi:Φ (.bool jump.isNone) ((bl,.loop {Lp with state:=if jump.isNone then .ready else .done,pending:=jump})::Y))(h1:dS ps o=some ((bl,.loop {Lp with state:= .busy})::Y):=by kernel_rfl)(h2:Ph o=some jump:=by kernel_rfl):J X o:=by
 have main:∀s w kn e,o=some ⟨s,e,w,kn⟩→Ug (RY ro Φ) bl jump ⟨X.ro,den w⟩:=by
  intro s w kn e ho
  subst ho
  have hp:=bD h1
  obtain⟨L,Rr,hs⟩:=List.append_of_mem (hp.mem_iff.2 (List.mem_append_left _ List.mem_cons_self))
  refine⟨L,_,Rr,hs,_,_,rfl,?_,qi⟩
  have ni:den w=L++(bl,.loop {Lp with state:= .busy})::Rr:=hs
  have hp':(den w).Perm (((bl,.loop {Lp with state:= .busy})::Y)++den (dz ps 0 w)):=hp
  rw[ni] at hp'
  have Ri:=(List.perm_middle.symm.trans hp').cons_inv
  exact dL (J:=den (dz ps 0 w)) (List.perm_middle.trans (.cons _ Ri)) fJ
 unfold Ph at h2
 split at h2<;>try (cases h2;done)
 ·rename_i e w kn;cases h2;intro _;show X.Q .normal _ _;rw[hq.q];exact main _ _ _ _ rfl
 ·rename_i e w kn;cases h2;intro _;show X.Q .ret _ _;rw[hq.q];exact main _ _ _ _ rfl
 rename_i id e w kn;cases h2;intro _;show X.Q (.exit id) _ _;rw[hq.q];exact main _ _ _ _ rfl
theorem jyn{Lp:Loop}{wf:ι→List Sg}{Inv:Nat→ι→Prop}{Sp:Code→ι→Prop}{k:Nat}(hq:QY X bl ro (apg bl Lp wf Inv Sp k))(fJ:Sub ro X.ro)(j:ι)(h:Inv (k+1) j)(ps:List Nat)(hl:Lp.state= .ready∧Lp.pending=none:=by exact azN)(h1:dS ps o=some ((bl,.loop {Lp with state:= .busy})::den (wf j)):=by kernel_rfl)(h2:Ph o=some none:=by kernel_rfl):J X o:=
 jyR hq fJ ps (.inl ⟨rfl,j,h,by rcases Lp with ⟨a,b,c,d,e,f,g,i⟩;obtain⟨h1,h2⟩:=hl;dsimp only at h1 h2;subst h1 h2;rfl⟩) h1 h2
theorem jys{Lp:Loop}{wf:ι→List Sg}{Inv:Nat→ι→Prop}{Sp:Code→ι→Prop}{k:Nat}(hq:QY X bl ro (apg bl Lp wf Inv Sp k))(fJ:Sub ro X.ro)(jump:Code)(j:ι)(h:Sp jump j)(ps:List Nat)(h1:dS ps o=some ((bl,.loop {Lp with state:= .busy})::den (wf j)):=by kernel_rfl)(h2:Ph o=some (some jump):=by kernel_rfl):J X o:=
 jyR hq fJ ps (.inr ⟨rfl,jump,j,h,rfl⟩) h1 h2
end
attribute [irreducible] bgO Eh R9 Ph
def sa[DecidableEq κ](k:κ):List (κ×Value)→Nat→Option (Nat×Value)
 | [],_=>none
 |x::l,i=>if k=x.1 then some (i,x.2) else sa k l (i+1)
def lkM[DecidableEq κ](k:κ)(F:List (κ×Value)):Option Value:=(sa k F 0).map (·.2)
def tC(k:κ)(v:Value):List (κ×Value)→Nat→List (κ×Value)
 | [],_=>[]
 |_::l,0=>(k,v)::l
 |x::l,i+1=>x::tC k v l i
def mg[DecidableEq κ](k:κ)(v:Value)(F:List (κ×Value)):List (κ×Value):=match sa k F 0 with
 |some (i,_)=>tC k v F i
 |none=>F++[(k,v)]
structure Q3(P:Program)(T:TypeId){κ:Type}[DecidableEq κ](kv:κ→Value):Prop where
 chk:∀(b:Bool) (k:κ) {α:Type} {K:Unit→Sem α} {s:St} {Q:α→St→Prop} {E:Halt→St→Prop},bN P (K ()) s Q E→bN P (Instr.checkKey b 10000 T (kv k) >>= K) s Q E
 find:∀(k:κ) (es:List MapEntry) (F:List (κ×Value)),es.map (fun e=>(e.key,e.val))=F.map (fun x=>(kv x.1,x.2))→∀ {α:Type} {K:Option (Nat×Value)→Sem α} {s:St} {Q:α→St→Prop} {E:Halt→St→Prop},bN P (K (sa k F 0)) s Q E→bN P (Instr.findKey T (kv k) es >>= K) s Q E
 stay:∀k,Instr.sameBits 10000 (kv k) (kv k)=true
theorem qz[DecidableEq κ]{k:κ}:∀ {F:List (κ×Value)} {i j:Nat} {v:Value},sa k F i=some (j,v)→i≤j∧F[j-i]?=some (k,v)
 | [],_,_,_,h=>by cases h
 |x::l,i,j,v,h=>by
  simp only[sa] at h
  split at h
  ·rename_i hk
   cases h
   exact⟨Nat.le_refl _,by simp[hk]⟩
  obtain⟨h1,h2⟩:=qz h
  refine⟨by omega,?_⟩
  rw[show j-i=(j-(i+1))+1 by omega,List.getElem?_cons_succ];exact h2
theorem M0(a b:ByteArray):(a==b)=decide (a=b):=by
 have h:(a==b)=(a.data==b.data):=by cases a;cases b;rfl
 rw[h,Bool.eq_iff_iff]
 cases a;cases b
 simp
theorem Dm(a:ByteArray):∀(es:List MapEntry) (F:List (ByteArray×Value)) (i:Nat),es.map (fun e=>(e.key,e.val))=F.map (fun x=>(Value.string x.1,x.2))→Instr.findNow .string (.string a) es i=some (sa a F i)
 | [],[],_,_=>rfl
 | [],_::_,_,h=>by simp at h
 |_::_,[],_,h=>by simp at h
 |e::es,x::F,i,h=>by
  simp only[List.map_cons,List.cons.injEq,Prod.mk.injEq] at h
  obtain⟨⟨h1,h2⟩,h3⟩:=h
  simp only[Instr.findNow,h1,Instr.sameNow,sa,M0]
  by_cases hk:a=x.1
  ·simp[hk,h2]
  simp only[hk,decide_false,if_false]
  exact Dm a es F (i+1) h3
def CkD(P:Program)(dep:Nat)(T:TypeId)(v:Value):Prop:=∀(b:Bool) {α:Type} {K:Unit→Sem α} {s:St} {Q:α→St→Prop} {E:Halt→St→Prop},bN P (Instr.checkKey b dep T v >>= K) s Q E=bN P (K ()) s Q E
theorem aFS{T:TypeId}(tf:TF P T .string sz bw z ag)(a:ByteArray):CkD P (dep+1) T (.string a):=by
 intro b α K s Q E
 simp only[Instr.checkKey,aa,aX tf,ae]
theorem ars{T:TypeId}(tf:TF P T .string sz bw z ag):Q3 P T (fun(a:ByteArray)=>Value.string a) where
 chk b k α K s Q E h:=by rw[aFS (dep:=9999) tf k b];exact h
 find k es F he α K s Q E h:=by
  simp only[Instr.findKey,aa,aX tf,Dm k es F 0 he,ae]
  exact h
 stay k:=by simp[Instr.sameBits,M0]
def adW(P:Program)(T:TypeId):Bool:=match aW P T with
 |some ⟨.string,_,_,_⟩=>true
 |_=>false
theorem V4{T:TypeId}(h:adW P T=true):Q3 P T (fun(a:ByteArray)=>Value.string a):=by
 unfold adW at h
 split at h
 ·rename_i dM
  obtain⟨bw,tf⟩:=av dM
  exact ars tf
 cases h
theorem ItX.up{ro:Nat→Option Obj}{own:Cells}{Ψ:Cells→Prop}(h:ItX P g fi ca ro own N El Ψ)(hs:Sub ro aI):ItX P g fi ca aI own N El Ψ:=
 fun bl aB Inv Stop h1=>h bl aB Inv Stop (hs.trans h1)
def YOK(P:Program)(bl:Nat)(ro:Nat→Option Obj)(N:Nat)(El:(Nat→Option Obj)→Nat→List Value→Cells→Prop)(Inv:Nat→Cells→Prop)(Stop:Cells→Prop):Prop:=
 ∀k vs LL B lT,k <N→El lT k vs LL→Inv k B→Sub ro lT→YX P bl vs lT (LL++B) (fun r B'=>(r= .bool true∧Inv (k+1) B')∨(r= .bool false∧Stop B'))
theorem YOK.up{ro:Nat→Option Obj}{Inv:Nat→Cells→Prop}{Stop:Cells→Prop}(h:YOK P bl ro N El Inv Stop)(hs:Sub ro aI):YOK P bl aI N El Inv Stop:=
 fun k vs LL B lT h1 h2 h3 h4=>h k vs LL B lT h1 h2 h3 (hs.trans h4)
def Part(L:List α)(p:Nat)(m:List α):Prop:=∃a b,L=a++m++b∧a.length=p
theorem Part.get{L m:List α}{p:Nat}{x:α}(h:Part L p m)(hx:m[i]?=some x):p+i <L.length∧L[p+i]?=some x:=by
 obtain⟨a,b,rfl,rfl⟩:=h
 have hi:=(List.getElem?_eq_some_iff.1 hx).1
 have:(a++m++b)[a.length+i]?=some x:=by
  rw[List.append_assoc,List.getElem?_append_right (by omega),List.getElem?_append_left (by omega),show a.length+i-a.length=i by omega];exact hx
 exact⟨(List.getElem?_eq_some_iff.1 this).1,this⟩
theorem Part.flat{L:List β}{p:Nat}{G:α→List β}{l a b:List α}{s:α}(h:Part L p (l.flatMap G))(hl:l=a++[s]++b):Part L (p+(a.flatMap G).length) (G s):=by
 obtain⟨u,v,rfl,rfl⟩:=h
 subst hl
 exact⟨u++a.flatMap G,b.flatMap G++v,by simp[List.flatMap_append],by simp⟩
theorem NU{T:TypeId}[DecidableEq κ]{kv:κ→Value}(he:∀a b,EqD P 10000 T (kv a) (kv b) (decide (a=b)))(k:κ):∀(es:List MapEntry) (F:List (κ×Value)) (i:Nat),es.map (fun e=>(e.key,e.val))=F.map (fun x=>(kv x.1,x.2))→∀ {α:Type} {K:Option (Nat×Value)→Sem α} {s:St} {Q:α→St→Prop} {E:Halt→St→Prop},bN P (K (sa k F i)) s Q E→bN P (Instr.findAsking T (kv k) es i >>= K) s Q E
 | [],[],_,_,_,_,_,_,_,h=>h
 | [],_::_,_,h,_,_,_,_,_,_=>by simp at h
 |_::_,[],_,h,_,_,_,_,_,_=>by simp at h
 |e::es,x::F,i,h,α,K,s,Q,E,hK=>by
  simp only[List.map_cons,List.cons.injEq,Prod.mk.injEq] at h
  obtain⟨⟨h1,h2⟩,h3⟩:=h
  simp only[Instr.findAsking,aa,h1,Op.equal]
  rw[show Op.maxDepth=10000 from rfl,he k x.1]
  simp only[sa] at hK
  by_cases hk:k=x.1
  ·rw[if_pos hk] at hK
   simp only[hk,decide_true,if_true,ae,h2]
   exact hK
  rw[if_neg hk] at hK
  simp only[hk,decide_false,Bool.false_eq_true,if_false]
  exact NU he k es F (i+1) h3 hK
theorem Hb{T:TypeId}{k:IntKind}(tf:TF P T (.int k) sz bw z ag)(a:Int):CkD P (dep+1) T (.int k a):=by
 intro b α K s Q E
 simp only[Instr.checkKey,aa,aX tf,ae]
inductive A7(P:Program)(dep:Nat)(l:List Value):List Field→Prop
 |nil:A7 P dep l []
 |cons {f:Field} {fs:List Field} {v:Value} (hn:f.name≠ "_") (hv:HA P f.type l f.offset v) (he:CkD P dep f.type v) (ht:A7 P dep l fs):A7 P dep l (f::fs)
theorem QH{T:TypeId}{fields:Array Field}(tf:TF P T (.struct fields) sz bw z true)(hf:A7 P dep l fields.toList):CkD P (dep+1) T (.agg ⟨l⟩):=by
 intro b α K s Q E
 simp only[Instr.checkKey,aa,aX tf]
 rw[←Array.forIn_toList]
 generalize fields.toList=fl at hf
 clear tf
 induction hf with
 |nil=>simp only[List.forIn_nil,ae,aa]
 | @cons f fs v hn hv he ht ih=>
  simp only[List.forIn_cons,hn,ne_eq,not_false_eq_true,if_true,aa]
  rw[hv]
  simp only[aa]
  rw[he]
  simp only[ae]
  exact ih
theorem adu{T:TypeId}[DecidableEq κ]{kv:κ→Value}{d:TypeDesc}(tf:TF P T d sz bw z ag)(hl:∀k,∃l,kv k= .agg l)(hc:∀k,CkD P 10000 T (kv k))(he:∀a b,EqD P 10000 T (kv a) (kv b) (decide (a=b)))(hs:∀k,Instr.sameBits 10000 (kv k) (kv k)=true):Q3 P T kv where
 chk b k α K s Q E h:=by rw[hc k b];exact h
 find k es F hm α K s Q E h:=by
  simp only[Instr.findKey,aa,aX tf]
  cases es with
  |nil=>
   cases F with
   |nil=>exact h
   |cons x F=>simp at hm
  |cons e es=>
   have:Instr.findNow d (kv k) (e::es) 0=none:=by
    cases F with
    |nil=>simp at hm
    |cons x F=>
     simp only[List.map_cons,List.cons.injEq,Prod.mk.injEq] at hm
     obtain⟨l,Dh⟩:=hl k
     obtain⟨l2,qO⟩:=hl x.1
     simp only[Instr.findNow,hm.1.1,Dh,qO]
     cases d<;>rfl
   rw[this]
   exact NU he k _ F 0 hm h
 stay:=hs
def tb(kv:κ→Value)(F:List (κ×Value))(es:Array MapEntry)(ck:Nat):Prop:=
 es.toList.map (fun e=>(e.key,e.val))=F.map (fun x=>(kv x.1,x.2))∧(es.toList.map (·.born)).Nodup∧∀e∈es.toList,e.born <ck
def jV(r:Nat)(kv:κ→Value)(F:List (κ×Value))(L:Cells):Prop:=∃es ck,L=[(r,.map es ck)]∧tb kv F es ck
def ah1(s:St)(r:Nat)(kv:κ→Value)(F:List (κ×Value)):Prop:=∃es ck,s.has r (.map es ck)∧tb kv F es ck
theorem jV.has{kv:κ→Value}{F:List (κ×Value)}{L:Cells}(h:jV r kv F L)(hs:∀x∈L,s.has x.1 x.2):ah1 s r kv F:=by
 obtain⟨es,ck,rfl,hm⟩:=h
 exact⟨es,ck,hs _ List.mem_cons_self,hm⟩
theorem ah1.ext{kv:κ→Value}{F:List (κ×Value)}(h:ah1 s r kv F)(hs:Ext s s'):ah1 s' r kv F:=by
 obtain⟨es,ck,h1,h2⟩:=h
 exact⟨es,ck,hs _ _ h1,h2⟩
theorem jV.nil(r:Nat)(kv:κ→Value):jV r kv [] [(r,.map #[] 0)]:=⟨#[],0,rfl,rfl,List.nodup_nil,fun _ h=>(by cases h)⟩
section
variable {X:Cx} {o:Option JS}
def Pb[DecidableEq κ](z:Value)(ok:Bool)(k:κ)(F:List (κ×Value)):Value:=match lkM k F with
 |some v=>bif ok then .tuple ⟨[v,.bool true]⟩ else v
 |none=>bif ok then .tuple ⟨[z,.bool false]⟩ else z
def luV(P:Program)(n:Nat)(p:Oper)(e:Env):Option (TypeId×Value×Value×Value×Bool):=match p.op with
 | .lookup T x y ok=>match aW P T with
  |some ⟨.map K E,_,_,_⟩=>match aW P E with
   |some te=>match bh n e x with
    |some m=>match bh n e y with
     |some k=>some (K,m,k,Nu te.zero te.agg,ok)
     |none=>none
    |none=>none
   |none=>none
  |_=>none
 |_=>none
theorem jlu[DecidableEq κ]{kv:κ→Value}{F:List (κ×Value)}{K:TypeId}(k:κ)(z:Value)(ok:Bool)(ps:List Nat)(B:Cells)(hk:Q3 X.P K kv)(hm:∀s:St,Ext ⟨X.ro,[]⟩ s→(∀x∈B,s.has x.1 x.2)→ah1 s r kv F)(hj:J X (Lh B (Pb z ok k F) o))
 (hv:dE X.n (luV X.P X.n) o=some (K,.map (some r),kv k,z,ok):=by kernel_rfl)(hB:dS ps o=some B:=by kernel_rfl):J X o:=by
 refine jGN hv hB (fun s p e ho hh hf=>?_) hj
 subst ho
 unfold luV at hf
 split at hf<;>try (cases hf;done)
 rename_i T x y ok' ay
 split at hf<;>try (cases hf;done)
 rename_i K' E' _ _ _ dM
 split at hf<;>try (cases hf;done)
 rename_i te tV
 split at hf<;>try (cases hf;done)
 rename_i m hx
 split at hf<;>try (cases hf;done)
 rename_i k' hy
 simp only[Option.some.injEq,Prod.mk.injEq] at hf
 obtain⟨rfl,rfl,rfl,rfl,rfl⟩:=hf
 obtain⟨bw,tf⟩:=av dM
 obtain⟨AX,qM⟩:=av tV
 refine⟨by rw[ay];rfl,fun s0 Gk uW ops i ho rest hwt s' hs todo Q jH=>lJ X.hC ho rest hwt (by rw[ay];rfl) ?_ hs jH⟩
 intro s1 bW f hf K2 E2 hK
 obtain⟨es,ck,ju,Ce⟩:=(hm s0 Gk uW).ext bW
 simp only[execOp,ay,hf _ _ hx,hf _ _ hy,Instr.lookup,aa,aX tf]
 refine cA ju rfl rfl ?_
 simp only[ae,aa]
 refine hk.chk _ _ ?_
 simp only[aa]
 refine hk.find k _ F Ce.1 ?_
 simp only[Pb,lkM] at hK
 cases xJ:sa k F 0 with
 |none=>
  rw[xJ] at hK
  simp only[aa,j5 qM,ae]
  cases ok'<;>exact hK
 |some u=>
  obtain⟨i,v⟩:=u
  rw[xJ] at hK
  simp only[ae]
  cases ok'<;>exact hK
def aq8(p:Oper):Option Unit:=match p.op with
 | .makeMap _ none=>some ()
 |_=>none
theorem jmk(kv:κ→Value)(hj:∀r L,jV r kv [] L→J X (nj [] (.map (some r)) L o))(hv:fg X.n (fun p _=>aq8 p) o=some ():=by kernel_rfl):J X o:=by
 obtain⟨ops,i,todo,k,e,w,kn,p,rfl,ho,hw,hc⟩:=dr hv
 intro bV
 unfold aq8 at hc
 split at hc<;>try (cases hc;done)
 rename_i T ay
 rcases p with ⟨dst,op,ty,pos,cZ,g⟩
 dsimp only at ay;subst ay
 refine bR X.hC ho hw (by simp) ?_
 simp only[execOp,Instr.makeMap,Option.map_none,aa,og,ae]
 intro b hb
 have:=hj b _ (jV.nil b kv)
 rw[n9 ho] at this
 have:=this bV
 simp only[JP,gE,xk] at this
 show ab _ _ _ _ _ _ _ _
 rw[aV]
 exact this
def muV(P:Program)(n:Nat)(p:Oper)(e:Env):Option (TypeId×Value×Value×Value):=match p.op with
 | .mapUpdate T x y z| .insert T x y z=>match aW P T with
  |some ⟨.map K _,_,_,_⟩=>match bh n e x with
   |some m=>match bh n e y with
    |some k=>match bh n e z with
     |some v=>some (K,m,k,v)
     |none=>none
    |none=>none
   |none=>none
  |_=>none
 |_=>none
theorem EE(k:κ)(v:Value):∀(F:List (κ×Value)) (i:Nat),tC k v F i=F.set i (k,v)
 | [],_=>rfl
 |_::_,0=>rfl
 |x::l,i+1=>by simp only[tC,EE k v l i,List.set_cons_succ]
theorem FY{kv:κ→Value}{k:κ}{v:Value}:∀(es:List MapEntry) (F:List (κ×Value)) (i:Nat),es.map (fun e=>(e.key,e.val))=F.map (fun x=>(kv x.1,x.2))→(es.modify i fun e=>{e with key:=kv k,val:=v}).map (fun e=>(e.key,e.val))=(tC k v F i).map (fun x=>(kv x.1,x.2))
 | [],[],_,_=>by simp[tC]
 | [],_::_,_,h=>by simp at h
 |_::_,[],_,h=>by simp at h
 |e::es,x::F,0,h=>by
  simp only[List.map_cons,List.cons.injEq] at h
  simp[tC,h.2]
 |e::es,x::F,i+1,h=>by
  simp only[List.map_cons,List.cons.injEq] at h
  simp[tC,h.1,FY es F i h.2]
theorem wH{kx v:Value}:∀(es:List MapEntry) (i:Nat),(es.modify i fun e=>{e with key:=kx,val:=v}).map (·.born)=es.map (·.born)
 | [],i=>by simp
 |e::es,0=>by simp
 |e::es,i+1=>by simp[wH es i]
theorem jmu[DecidableEq κ]{kv:κ→Value}{F:List (κ×Value)}{K:TypeId}{L:Cells}(i:Nat)(k:κ)(v:Value)(hk:Q3 X.P K kv)(hm:jV r kv F L)(hj:∀L',jV r kv (mg k v F) L'→J X (nj [i] undef L' o))
 (hv:fg X.n (muV X.P X.n) o=some (K,.map (some r),kv k,v):=by kernel_rfl)(hB:dS [i] o=some L:=by kernel_rfl):J X o:=by
 obtain⟨ops,i0,todo,kk,e,w,kn,p,rfl,ho,hw,hc⟩:=dr hv
 intro bV
 rcases p with ⟨dst,op,ty,pos,cZ,g⟩
 have main:∀T x y z,(op= .mapUpdate T x y z∨op= .insert T x y z)→muV X.P X.n ⟨dst,.mapUpdate T x y z,ty,pos,cZ,g⟩ e=some (K,.map (some r),kv k,v)→ab X.C X.fn X.az ops (i0::todo) (KQ X kk) (A X.n e X.D) ⟨X.ro,den w⟩:=by
  intro T x y z heq hc
  simp only[muV] at hc
  split at hc<;>try (cases hc;done)
  rename_i K' E' _ _ _ dM
  split at hc<;>try (cases hc;done)
  rename_i m hx
  split at hc<;>try (cases hc;done)
  rename_i k' hy
  split at hc<;>try (cases hc;done)
  rename_i v' hz
  simp only[Option.some.injEq,Prod.mk.injEq] at hc
  obtain⟨rfl,rfl,rfl,rfl⟩:=hc
  obtain⟨bw,tf⟩:=av dM
  have hp:=bD hB
  obtain⟨es,ck,rfl,Ce⟩:=hm
  obtain⟨L1,R1,bW⟩:=List.append_of_mem (hp.mem_iff.2 (List.mem_append_left _ List.mem_cons_self))
  have hle:∀L',jV r kv (mg k v' F) [(r,L')]→ab X.C X.fn X.az ops todo (KQ X kk) (A X.n (upd dst undef e) X.D) ⟨X.ro,L1++(r,L')::R1⟩:=by
   intro L' hL
   have:=hj _ hL
   rw[n9 ho] at this
   have:=this bV
   simp only[JP,gE] at this
   refine this.more X.hC (dL (J:=[]) ?_ (Sub.refl _))
   have hp':(den w).Perm ([(r,.map es ck)]++den (dz [i] 0 w)):=hp
   have aPz:den w=L1++(r,.map es ck)::R1:=bW
   rw[aPz] at hp'
   have Ri:=(List.perm_middle.symm.trans hp').cons_inv
   rw[List.append_nil]
   exact List.perm_middle.trans (List.Perm.cons _ Ri)
  have ju:(⟨X.ro,den w⟩:St).has r (.map es ck):= .inr (by show _∈den w;rw[show den w=_ from bW];exact fD)
  refine bR X.hC ho hw (by rcases heq with rfl|rfl<;>simp) ?_
  have hex:∀f:Operand→Value,execOp f ⟨dst,op,ty,pos,cZ,g⟩=(do Instr.mapUpdate T (f x) (f y) (f z);pure .skip:Sem Next):=by
   intro f;rcases heq with rfl|rfl<;>simp only[execOp]
  rw[hex,aD hx,aD hy,aD hz]
  simp only[Instr.mapUpdate,aa,aX tf]
  refine cA ju rfl rfl ?_
  simp only[aa]
  refine hk.chk _ _ ?_
  simp only[aa]
  refine hk.find k _ F Ce.1 ?_
  have fin:∀ob,jV r kv (mg k v' F) [(r,ob)]→upon X.C X.P X.az dst (A X.n e X.D) (fun a' s'=>ab X.C X.fn X.az ops todo (KQ X kk) a' s') (KQ X kk) .skip ⟨X.ro,L1++(r,ob)::R1⟩:=by
   intro ob hL
   show ab _ _ _ _ _ _ _ _
   have:=hle ob hL
   rw[←aV] at this
   exact this
  cases xJ:sa k F 0 with
  |some u=>
   obtain⟨j,u⟩:=u
   have Rp:=qz xJ
   simp only[Nat.sub_zero] at Rp
   have aQw:((es[j]?).map (·.key)).getD (kv k)=kv k:=by
    have h1:(es.toList.map (fun e=>(e.key,e.val)))[j]?=some (kv k,u):=by rw[Ce.1];simp[Rp.2]
    simp only[List.getElem?_map,Array.getElem?_toList] at h1
    cases he:es[j]? with
    |none=>rfl
    |some e1=>rw[he] at h1;simp at h1;simp[h1.1]
   simp only[aa,Instr.keyThatStays,aQw,hk.stay,if_true,ae]
   refine eo rfl bW rfl<|fin _ ⟨_,_,rfl,?_,?_,?_⟩
   ·simp only[Array.toList_modify,mg,xJ]
    exact FY _ _ _ Ce.1
   ·simp only[Array.toList_modify,wH];exact Ce.2.1
   intro e1 h1
   have:e1.born∈((es.toList.modify j fun e=>{e with key:=kv k,val:=v'}).map (·.born)):=List.mem_map_of_mem (by simpa using h1)
   rw[wH] at this
   obtain⟨e2,h3,h4⟩:=List.mem_map.1 this
   rw[←h4];exact Ce.2.2 e2 h3
  |none=>
   refine eo rfl bW rfl<|fin _ ⟨_,_,rfl,?_,?_,?_⟩
   ·simp only[Array.toList_push,List.map_append,mg,xJ,Ce.1];rfl
   ·simp only[Array.toList_push,List.map_append,List.map_cons,List.map_nil]
    refine List.nodup_append.2 ⟨Ce.2.1,by simp,?_⟩
    intro a ha b hb
    obtain⟨e2,h3,rfl⟩:=List.mem_map.1 ha
    have:=Ce.2.2 e2 h3
    simp only[List.mem_singleton] at hb
    omega
   intro e1 h1
   simp only[Array.toList_push,List.mem_append,List.mem_singleton] at h1
   rcases h1 with h1|rfl
   ·have:=Ce.2.2 e1 h1;omega
   exact Nat.lt_succ_self _
 have Zk:=hc
 unfold muV at hc
 split at hc<;>try (cases hc;done)
 ·rename_i T x y z ay
  dsimp only at ay
  exact main T x y z (.inl ay) (by rw[←Zk,ay])
 rename_i T x y z ay
 dsimp only at ay
 refine main T x y z (.inr ay) ?_
 rw[←Zk,ay];rfl
end
attribute [irreducible] luV aq8 muV
section
variable {X:Cx} {o:Option JS}
def Kq(P:Program)(n:Nat)(p:Oper)(e:Env):Option (FuncId×List Value):=match p.op with
 | .call ⟨.invoke x name,xs,_⟩=>match bh n e x with
  |some (.iface t v)=>match bn P (method (P.types.size+Made.depth) t v name) with
   |some (f,r)=>match xN n e xs.toList with
    |some vs=>bif Bq P f then some (f,r::vs) else none
    |none=>none
   |none=>none
  |_=>none
 |_=>none
theorem ahA(h:Kq P n p e=some (f,vs)):FF P f∧∃x name xs at_ t v r ws,p.op= .call ⟨.invoke x name,xs,at_⟩∧bh n e x=some (.iface t v)∧bn P (method (P.types.size+Made.depth) t v name)=some (f,r)∧xN n e xs.toList=some ws∧vs=r::ws:=by
 unfold Kq at h
 split at h<;>try (cases h;done)
 rename_i x name xs at_ ay
 split at h<;>try (cases h;done)
 rename_i t v hx
 split at h<;>try (cases h;done)
 rename_i f0 r hm
 split at h<;>try (cases h;done)
 rename_i ws rR
 cases hb:Bq P f0 with
 |false=>rw[hb] at h;cases h
 |true=>
  rw[hb] at h
  simp only[cond_true,Option.some.injEq,Prod.mk.injEq] at h
  obtain⟨rfl,rfl⟩:=h
  exact⟨kU hb,x,name,xs,at_,t,v,r,ws,ay,hx,hm,rR,rfl⟩
theorem jpI{V:Value}(hf:∀aB,Sub X.ro aB→de X.P f vs aB V)(hj:J X (Lh [] V o))(h1:dE X.n (Kq X.P X.n) o=some (f,vs):=by kernel_rfl)(h3:dS [] o=some []:=by kernel_rfl):J X o:=by
 refine jGN h1 h3 (fun s p e ho hh hc=>?_) hj
 obtain⟨ff,x,name,xs,at_,t,v,r,ws,ay,hx,hm,rR,rfl⟩:=ahA hc
 rcases p with ⟨dst,op,ty,pos,cZ,g⟩
 dsimp only at ay;subst ay
 refine⟨rfl,fun s0 Gk uW ops i sO rest hw s' hs todo Q hk=>?_⟩
 refine bR X.hC sO hw (by simp) ?_
 have e1:=aD (aZ (rest:=rest) hx)
 have e2:xs.map (ev X.n (e++rest))=⟨ws⟩:=r5 (xg rR)
 simp only[execOp,resolve,e1,e2,ae]
 have hex:((#[Value.iface t v]++(⟨ws⟩:Array Value)).extract 1 (#[Value.iface t v]++(⟨ws⟩:Array Value)).size)=⟨ws⟩:=by simp
 have h0:(#[Value.iface t v]++(⟨ws⟩:Array Value))[0]?=some (.iface t v):=by simp
 simp only[invoke,h0,hex,callMethod,aa,eW]
 refine aU hm ?_
 have mQ:(#[r]++⟨ws⟩:Array Value)=⟨r::ws⟩:=by simp
 rw[mQ]
 refine j6 ff ?_
 have hu:=(de.use (s:=⟨X.ro,[]⟩) (sz:=s') (fun b o hb=>hs _ _ (Gk _ _ hb)) (fun aB h1=>hf aB fun b ob hb=>h1 b ob (.inl hb))).weaken X.hC
 refine Fn.mono hu fun en s1 Di=>?_
 obtain⟨rfl,hle⟩:=Di
 show ab _ _ _ _ _ _ _ _
 rw[aV]
 exact hk.more X.hC hle
theorem jS{f:Oper→Env→Option β}{r:β}(ps:List Nat)(B:Cells)(hv:fg X.n f o=some r)(hB:dS ps o=some B)
 (hy:∀p e,f p e=some r→(∀c,p.op≠ .defer c)∧∀(R:Cells) (Q:Next→St→Prop) (E:Halt→St→Prop),(∀v L',Φ v L'→Q (.value v) ⟨X.ro,L'++R⟩)→bN X.P (execOp (ev X.n e) p) ⟨X.ro,B++R⟩ Q E)
 (hj:∀v L',Φ v L'→J X (nj ps v L' o)):J X o:=by
 obtain⟨ops,i,todo,k,e,w,kn,p,rfl,ho,hw,hc⟩:=dr hv
 intro bV
 have hp:=bD hB
 obtain⟨hd,ht⟩:=hy p e hc
 have:ab X.C X.fn X.az ops (i::todo) (KQ X k) (A X.n e X.D) ⟨X.ro,B++den (dz ps 0 w)⟩:=by
  refine bR X.hC ho hw hd<|ht _ _ _ fun v L' qi=>?_
  have:=hj v L' qi
  rw[n9 ho] at this
  have:=this bV
  simp only[JP,gE] at this
  show ab _ _ _ _ _ _ _ _
  rw[aV]
  exact this
 have hle:(⟨X.ro,B++den (dz ps 0 w)⟩:St).le ⟨X.ro,den w⟩:=⟨[],by rw[List.append_nil];exact hp,fun b o hb=> .inl hb⟩
 exact this.more X.hC hle
end
attribute [irreducible] Kq
section
variable {X:Cx} {o:Option JS}
def iaA(P:Program)(n:Nat)(p:Oper)(e:Env):Option (Nat×Nat×Int×Nat×Nat):=match p.op with
 | .indexAddr T x y=>match aW P T with
  |some ⟨.array len E,_,_,_⟩=>match aW P E with
   |some te=>match bh n e x with
    |some (.pointer (some ⟨b,off,none⟩))=>match bh n e y with
     |some (.int _ ix)=>some (b,off,ix,len,te.size)
     |_=>none
    |_=>none
   |none=>none
  |_=>none
 |_=>none
theorem Gc{len:Nat}(ix:Int)(hi:0≤ix∧ix <len)(hj:J X (j8 (.pointer (some ⟨b,off+ix.toNat*sz,none⟩)) o))(hv:dE X.n (iaA X.P X.n) o=some (b,off,ix,len,sz):=by kernel_rfl):J X o:=by
 refine jG hv (fun s p e ho hh hf=>?_) hj
 unfold iaA at hf
 split at hf<;>try (cases hf;done)
 rename_i T x y ay
 split at hf<;>try (cases hf;done)
 rename_i azS E _ _ _ dM
 split at hf<;>try (cases hf;done)
 rename_i te tV
 split at hf<;>try (cases hf;done)
 rename_i b' aqU hx
 split at hf<;>try (cases hf;done)
 rename_i ik ix' hy
 simp only[Option.some.injEq,Prod.mk.injEq] at hf
 obtain⟨rfl,rfl,rfl,rfl,rfl⟩:=hf
 obtain⟨bw,tf⟩:=av dM
 obtain⟨AX,qM⟩:=av tV
 have key:∀s,Yields X.P X.n e p s (.pointer (some ⟨b',aqU+ix'.toNat*te.size,none⟩)):=by
  intro s s' ni f hf K E hK
  simp only[execOp,ay,Instr.indexAt,Instr.sureAddr,hf _ _ hx,hf _ _ hy,asIntOf,aa,ae,aX tf,hi,and_self,if_true,cd qM,dK]
  exact hK
 exact⟨by rw[ay];rfl,fun _=>key _,fun _=>key⟩
def saV(P:Program)(n:Nat)(p:Oper)(e:Env):Option (Nat×Nat×Int×Nat):=match p.op with
 | .slice T x none (some z) none=>match aW P T with
  |some ⟨.array len E,_,_,_⟩=>match aW P E with
   |some _=>match bh n e x with
    |some (.pointer (some ⟨b,off,none⟩))=>match bh n e z with
     |some (.int _ ix)=>some (b,off,ix,len)
     |_=>none
    |_=>none
   |none=>none
  |_=>none
 |_=>none
theorem jah{len:Nat}(hi:Int)(hl:0≤hi∧hi≤len)(hj:J X (j8 (.slice (some ⟨b,off,none⟩) hi.toNat len) o))(hv:dE X.n (saV X.P X.n) o=some (b,off,hi,len):=by kernel_rfl):J X o:=by
 refine jG hv (fun s p e ho hh hf=>?_) hj
 unfold saV at hf
 split at hf<;>try (cases hf;done)
 rename_i T x z ay
 split at hf<;>try (cases hf;done)
 rename_i azS E _ _ _ dM
 split at hf<;>try (cases hf;done)
 rename_i te tV
 split at hf<;>try (cases hf;done)
 rename_i b' aqU hx
 split at hf<;>try (cases hf;done)
 rename_i ik ix' hy
 simp only[Option.some.injEq,Prod.mk.injEq] at hf
 obtain⟨rfl,rfl,rfl,rfl⟩:=hf
 obtain⟨bw,tf⟩:=av dM
 obtain⟨AX,qM⟩:=av tV
 have key:∀s,Yields X.P X.n e p s (.slice (some ⟨b',aqU,none⟩) ix'.toNat azS):=by
  intro s s' ni f hf K E hK
  simp only[execOp,ay,Option.map_some,Option.map_none,Instr.sliceAt,Instr.sliceBounds,Instr.sliceBound,Instr.sureAddr,hf _ _ hx,hf _ _ hy,asIntOf,aa,ae,aX tf,Option.isSome_none,Bool.false_eq_true,if_false,hl,and_self,if_true,cd qM,Nat.zero_mul,dK,Nat.add_zero,ite_self,Nat.sub_zero]
  exact hK
 exact⟨by rw[ay];rfl,fun _=>key _,fun _=>key⟩
end
theorem oy{v:Value}(h:s.has b (.cells ⟨l⟩ t fz))(hv:nth l off=some v):cy s b off 1 [v]:=
 ⟨_,_,_,h,by rw[rO] at hv;simp[iP (show off+1≤l.length by have:=(List.getElem?_eq_some_iff.1 hv).1;omega),List.drop_eq_getElem_cons (List.getElem?_eq_some_iff.1 hv).1,(List.getElem?_eq_some_iff.1 hv).2]⟩
theorem ab0{o m:Nat}{v:Value}(h:cy s b o m l)(hv:nth l off=some v):cy s b (o+off) 1 [v]:=
 h.part off 1 (by rw[rO] at hv;simp[iP (show off+1≤l.length by have:=(List.getElem?_eq_some_iff.1 hv).1;omega),List.drop_eq_getElem_cons (List.getElem?_eq_some_iff.1 hv).1,(List.getElem?_eq_some_iff.1 hv).2])
open Go.ConcR (KK wgBlock WgAt stA smA rd wr)
def TT(T:Goroutine→St→Prop)(b:Frame)(zc:List Item)(cs:List Frame)(n:Nat)(D:List Deferred)(ro:Nat→Option Obj)(o:Option JS):Prop:=
 ∀e w kn,o=some ⟨.fin .normal,e,w,kn⟩→Knows ro kn.c→T (G (aJ b (A n e D) zc) cs) ⟨ro,den w⟩
def CT(hm:P.follows .mixedOrders=true)(hT:Closed P main T)(b:Frame)(zc:List Item)(cs:List Frame)(n:Nat)(D:List Deferred)(ro:Nat→Option Obj):Cx:=
 ⟨P,fun m T'=>m=main∧T'=T,by rintro _ _ ⟨rfl,rfl⟩;exact hT,hm,b.fn,none,n,D,ro,jN T b zc cs⟩
def T8:Option JS→Bool
 |some ⟨.fin .normal,_,_,_⟩=>true
 |_=>false
def opO(ops:Array Oper)(todo:List Nat):Option JS→Option JS
 |some ⟨.fin .normal,e,w,kn⟩=>some ⟨.ops ops todo [],e,w,⟨kn.c,[]⟩⟩
 |_=>none
def cdO(c:Code):Option JS→Option JS
 |some ⟨.fin .normal,e,w,kn⟩=>some ⟨.code c [],e,w,⟨kn.c,[]⟩⟩
 |_=>none
def stO(dst:Option Tmp)(v:Value):Option JS→Option JS
 |some ⟨p,e,w,kn⟩=>some ⟨p,upd dst v e,w,kn⟩
 |none=>none
def nwO(dst:Option Tmp)(v:Value)(q:Nat)(ob:Obj):Option JS→Option JS
 |some ⟨p,e,w,kn⟩=>some ⟨p,upd dst v e,.b q ob::w,kn⟩
 |none=>none
def adO(L:Cells):Option JS→Option JS
 |some ⟨p,e,w,kn⟩=>some ⟨p,e,.l L::w,kn⟩
 |none=>none
def evO(n:Nat)(x:Operand):Option JS→Option Value
 |some ⟨_,e,_,_⟩=>bh n e x
 |none=>none
def aTW(n:Nat)(xs:List Operand):Option JS→Option (List Value)
 |some ⟨_,e,_,_⟩=>xN n e xs
 |none=>none
def vaO(P:Program)(n:Nat)(a:Oper):Option JS→Option Value
 |some ⟨_,e,_,_⟩=>aa6 P n e a
 |none=>none
theorem ZD(h:T8 o=true):∃e w kn,o=some ⟨.fin .normal,e,w,kn⟩:=by
 unfold T8 at h
 split at h
 ·exact⟨_,_,_,rfl⟩
 cases h
def ZA(f:FuncId)(k:CallKind):Frame:={(default:Frame) with fn:=f,kind:=k,roundOf:=none}
section
variable {P:Program} {main:Bool} {T:Goroutine→St→Prop} {b:Frame} {zc:List Item} {cs:List Frame} {n:Nat} {D:List Deferred} {ro:Nat→Option Obj} {o:Option JS} {ops:Array Oper}
theorem abr(h:TT T b zc cs n D ro o)(hQ:X.Q=jN T b zc cs)(hn:X.n=n)(hD:X.D=D)(Ar:X.ro=ro)(h1:T8 o=true):J X o:=by
 subst hn hD Ar
 obtain⟨e,w,kn,rfl⟩:=ZD h1
 intro bV
 show X.Q .normal _ _
 rw[hQ]
 exact h _ _ _ rfl bV
theorem xC{hm:P.follows .mixedOrders=true}{hT:Closed P main T}(h:TT T b zc cs n D ro o)(h1:T8 o=true:=by kernel_rfl):J (CT hm hT b zc cs n D ro) o:=abr h rfl rfl rfl rfl h1
theorem ax1{hm:P.follows .mixedOrders=true}{hT:Closed P main T}(h:TT T b zc cs n D ro o)(h1:T8 o=true:=by kernel_rfl):J ((CT hm hT b zc cs n D pz).at ro) o:=abr h rfl rfl rfl rfl h1
theorem ax0{hm:P.follows .mixedOrders=true}{hT:Closed P main T}(h:TT T b zc cs n (eg bd::D) ro o)(h1:T8 o=true:=by kernel_rfl):J ((CT hm hT b zc cs n D ro).dm bd) o:=abr h rfl rfl rfl rfl h1
theorem vq(hm:P.follows .mixedOrders=true)(hT:Closed P main T)(hj:J (CT hm hT b zc cs n D ro) (opO ops todo o))(hk:b.kind≠ .early:=by decide)(hr:b.roundOf=none:=by rfl):TT T b (.inRegion ops todo::zc) cs n D ro o:=by
 rintro e w kn rfl bV
 exact hj bV main T ⟨rfl,rfl⟩ b zc cs rfl hk hr fun e a s q=>q
theorem ax2(hm:P.follows .mixedOrders=true)(hT:Closed P main T){c:Code}(hj:J (CT hm hT b zc cs n D ro) (cdO c o))(hk:b.kind≠ .early:=by decide)(hr:b.roundOf=none:=by rfl):TT T b (.code c::zc) cs n D ro o:=by
 rintro e w kn rfl bV
 exact hj bV main T ⟨rfl,rfl⟩ b zc cs rfl hk hr fun e a s q=>q
theorem tSt(hT:Closed P main T)(ef:Env)(wf:List Sg)(ps:List Nat)(h:∀rest,TT T b zc cs n D ro (some ⟨.fin .normal,ef++rest,wf,⟨[],[]⟩⟩))(h1:uz (pw ef) o=some ef:=by kernel_rfl)(h2:qX ps o=some wf:=by kernel_rfl)(h3:lkE (pw ef) ef=some ef:=by kernel_rfl):TT T b zc cs n D ro o:=by
 rintro e w kn rfl bV
 obtain⟨rest,he⟩:=gu (n:=n) (D:=D) (kJ (by rw[sL] at h1;exact h1)) (kJ h3)
 rw[he]
 exact hT.mono _ ⟨ro,den wf⟩ _ (dL (lI h2) (Sub.refl _)) (h rest _ _ _ rfl fun _ h=>(by cases h))
section
variable {k:List Item} {rest l:List Code} (hT:Closed P main T)
include hT
theorem pY(hl:gN l= .region id ops false::rest)(h:∀l',gN l'=rest→TT T b (.inRegion ops (List.range ops.size)::(l'.map .code++k)) cs n D ro o):TT T b (l.map .code++k) cs n D ro o:=
 fun e w kn ho bV=>dG hT hl fun l' yN=>h l' yN e w kn ho bV
theorem U8{c:Operand}{x y:Code}{t q:Bool}(hl:gN l= .cond c x y::rest)(hq:q=t)(h:∀l',gN l'=rest→TT T b (.code (if t then x else y)::(l'.map .code++k)) cs n D ro o)(hc:evO n c o=some (.bool q):=by kernel_rfl):TT T b (l.map .code++k) cs n D ro o:=by
 subst hq
 rintro e w kn rfl bV
 exact Ae hT hl (by rw[ek];exact aD hc) fun l' yN=>h l' yN e w kn rfl bV
theorem KL{c:Code}(hl:gN l= .block id c::rest)(h:∀l',gN l'=rest→TT T b ([c].map .code++(.inBlock id::(l'.map .code++k))) cs n D ro o):TT T b (l.map .code++k) cs n D ro o:=
 fun e w kn ho bV=>vI hT hl fun l' yN=>h l' yN e w kn ho bV
theorem anl{c:Code}(hl:gN l= .loop c::rest)(h:∀l',gN l'=rest→TT T b ([c].map .code++(.inLoop c::(l'.map .code++k))) cs n D ro o):TT T b (l.map .code++k) cs n D ro o:=
 fun e w kn ho bV=>Ls hT hl fun l' yN=>h l' yN e w kn ho bV
theorem anm{c:Code}(hl:gN l=c::rest)(h:∀l',gN l'=rest→TT T b (.code c::(l'.map .code++k)) cs n D ro o):TT T b (l.map .code++k) cs n D ro o:=
 fun e w kn ho bV=>nQ hT hl fun l' yN=>h l' yN e w kn ho bV
theorem anj(h:TT T b k cs n D ro o):TT T b (.code .skip::k) cs n D ro o:=fun e w kn ho bV=>MJ hT (h e w kn ho bV)
theorem ann{k':List Item}(hk:exitTo id k=some k')(h:TT T b k' cs n D ro o):TT T b (.code (.exit id)::k) cs n D ro o:=fun e w kn ho bV=>MK hT hk (h e w kn ho bV)
theorem ano(h:TT T b k cs n D ro o):TT T b (.inBlock id::k) cs n D ro o:=fun e w kn ho bV=>Cu hT (h e w kn ho bV)
theorem U7(h:TT T b k cs n D ro o):TT T b (.inRegion ops []::k) cs n D ro o:=fun e w kn ho bV=>iq hT (h e w kn ho bV)
theorem abt{c:Code}(h:TT T b ([c].map .code++(.inLoop c::k)) cs n D ro o):TT T b (.inLoop c::k) cs n D ro o:=fun e w kn ho bV=>y6 hT (h e w kn ho bV)
theorem axW{a:Oper}{f:Nat→Value}{ob:Obj}(ho:ops[i]?=some a) (hg:a.guard=none) (sP:∀e q,SI P (execOp (ev n e) a) q=some (ob,f q)) (hk:b.kind≠ .early) (hr:b.roundOf=none)
 (h:∀q,TT T b (.inRegion ops todo::k) cs n D ro (nwO a.dst (f q) q ob o)):TT T b (.inRegion ops (i::todo)::k) cs n D ro o:=by
 rintro e w kn rfl bV
 refine sG hT ho (dq _ _ hg) hk hr ?_
 rw[ek]
 refine FT (f:=f) (fun q _=>⟨_,rfl,?_⟩) _ (sP e)
 rw[aV]
 have:=h q _ _ _ rfl bV
 rw[iI] at this
 exact this
theorem axT{a:Oper}(v:Value)(ho:ops[i]?=some a) (hg:a.guard=none) (hk:b.kind≠ .early) (hr:b.roundOf=none) (h:TT T b (.inRegion ops todo::k) cs n D ro (stO a.dst v o)) (hv:vaO P n a o=some v:=by kernel_rfl):TT T b (.inRegion ops (i::todo)::k) cs n D ro o:=by
 rintro e w kn rfl bV
 refine sG hT ho (dq _ _ hg) hk hr ?_
 rw[ek]
 refine zq hv _ (Ext.refl _) _ (fun _ _ h=>aD h) _ _ ⟨v,rfl,?_⟩
 rw[aV]
 exact h _ _ _ rfl bV
theorem tLd{a:Oper}(v:Value)(ho:ops[i]?=some a) (hg:a.guard=none) (ay:a.op= .load U x) (ht:(aW P U).map (·.agg)=some false) (hk:b.kind≠ .early) (hr:b.roundOf=none) (hb:∀e w kn,o=some ⟨.fin .normal,e,w,kn⟩→(⟨ro,den w⟩:St).has q (.cells ⟨[v]⟩ t fz))
 (h:TT T b (.inRegion ops todo::k) cs n D ro (stO a.dst v o)) (hx:evO n x o=some (.pointer (some ⟨q,0,none⟩)):=by kernel_rfl):TT T b (.inRegion ops (i::todo)::k) cs n D ro o:=by
 rintro e w kn rfl bV
 refine sG hT ho (dq _ _ hg) hk hr ?_
 rw[ek]
 cases dM:aW P U with
 |none=>rw[dM] at ht;cases ht
 |some z=>
 rw[dM] at ht
 simp only[Option.map_some,Option.some.injEq] at ht
 obtain⟨bw,tf⟩:=av dM
 rw[ht] at tf
 simp only[execOp,ay,Instr.loadAt,aD hx,Instr.sureAddr,loadVar,aa,ae,kA tf,Bool.false_eq_true,if_false]
 refine vo ⟨[v],t,fz,hb _ _ _ rfl,rfl⟩ ⟨v,rfl,?_⟩
 rw[aV]
 exact h _ _ _ rfl bV
theorem aMg{a:Oper}(v:Value)(ho:ops[i]?=some a) (hg:a.guard=none) (ay:a.op= .load U x) (ht:(aW P U).map (·.agg)=some false) (hk:b.kind≠ .early) (hr:b.roundOf=none) (ps:List Nat) (t:TypeId)
 (h:TT T b (.inRegion ops todo::k) cs n D ro (stO a.dst v o)) (hx:evO n x o=some (.pointer (some ⟨q,0,none⟩)):=by kernel_rfl) (hd:dS ps o=some [(q,.cells ⟨[v]⟩ t (0,0))]:=by kernel_rfl):TT T b (.inRegion ops (i::todo)::k) cs n D ro o:=
 tLd hT v ho hg ay ht hk hr (fz:=(0,0)) (t:=t) (q:=q) (fun e w kn he=>by
  subst he
  exact .inr ((bD hd).mem_iff.2 (List.mem_append_left _ (List.mem_singleton.2 rfl)))) h hx
end
theorem ap3(hT:Closed P main T){a:Oper}{xs:Array Operand}(ho:ops[i]?=some a) (hg:a.guard=none) (ay:a.op= .defer ⟨.value (.func f),xs,ats⟩) (hk:b.kind≠ .early) (hr:b.roundOf=none)
 (h:TT T b k cs n ({target:= .fn (.func f) ⟨[]⟩,args:=⟨vs⟩}::D) ro (stO a.dst undef o)) (hx:aTW n xs.toList o=some vs:=by kernel_rfl):TT T b (.inRegion ops [i]::k) cs n D ro o:=by
 rintro e w kn rfl bV
 have hC:∀m T',(fun m T'=>m=main∧T'=T:Class) m T'→Closed P m T':=by rintro _ _ ⟨rfl,rfl⟩;exact hT
 have key:ab (fun m T'=>m=main∧T'=T) b.fn none ops [i] (jN T b k cs) (A n e D) ⟨ro,den w⟩:=by
  refine Lr (P:=P) hC ho (dq _ _ hg) (.inl rfl) ?_
  rw[ek]
  have e1:ev n e (.func f)= .func (.func f) #[] #[]:=rfl
  have e2:xs.map (ev n e)=⟨vs⟩:=r5 hx
  simp only[execOp,ay,resolve,e1,Deferred.ofValue,ae,e2]
  refine⟨rfl,?_⟩
  have hA:({A n e D with defers:={target:= .fn (.func f) ⟨[]⟩,args:=⟨vs⟩}::(A n e D).defers}:Act).put a.dst undef=A n (upd a.dst undef e) ({target:= .fn (.func f) ⟨[]⟩,args:=⟨vs⟩}::D):=by
   rw[←aV];rfl
  have he:(⟨[]⟩:Array Value)++(⟨vs⟩:Array Value)=⟨vs⟩:=by simp
  rw[he]
  have:=h _ _ _ rfl bV
  rw[←hA] at this
  exact fun m T' hc b' k' HV h1 h2 h3 h4=>by
   obtain⟨rfl,rfl⟩:=hc
   exact iq hT (h4 .normal _ _ this)
 exact key main T ⟨rfl,rfl⟩ b k cs rfl hk hr fun e a s q=>q
end
attribute [irreducible] T8 opO cdO
structure ahX(L:Nat→Option Obj)(X:Cells)(ro aI:Nat→Option Obj):Prop where
 of:∀q o,L q=some o→(q,o)∈X
 on:∀q o,(q,o)∈X→L q=some o
 sub:Sub ro aI
 kn:Knows aI X
 nd:(X.map (·.1)).Nodup
 ap:∀q o,(q,o)∈X→ro q=none
def bkO(L:Cells):Option JS→Option JS
 |some ⟨p,e,w,_⟩=>some ⟨p,e,.l L::w,⟨[],[]⟩⟩
 |none=>none
def Sf(ps:List Nat):Option JS→Option Cells
 |some ⟨_,_,w,_⟩=>some (den (dz ps 0 w))
 |none=>none
def V0:Option JS→Option JS
 |some ⟨p,e,_,kn⟩=>some ⟨p,e,[],⟨kn.c,[]⟩⟩
 |none=>none
theorem Cy:∀(w:List Sg) (k:Nat),dz [] k w=w
 | [],_=>rfl
 |x::w,k=>by
  simp only[dz,aY]
  rw[Cy w]
  rfl
theorem ahX.back{L:Nat→Option Obj}{X:Cells}{ro roK:Nat→Option Obj}{rwK:Cells}(h:ahX L X ro aI)(hs:Sub aI roK):
 (∀w,aQ ⟨roK,rwK⟩ w→(∀b o,L b=some o→w.heap[b]?=some o)→aQ ⟨ro,X++rwK⟩ w)∧∀b,(⟨ro,X++rwK⟩:St).knows b→L b≠none∨(⟨roK,rwK⟩:St).knows b:=by
 refine⟨fun w hw hL=>⟨fun q o hq=>hw.ro q o (hs _ _ (h.sub _ _ hq)),fun q o hq=>?_,?_,fun q o hq=>?_⟩,fun q hq=>?_⟩
 ·rcases List.mem_append.1 hq with hq|hq
  ·exact hL q o (h.on q o hq)
  exact hw.rw q o hq
 ·show ((X++rwK).map (·.1)).Nodup
  rw[List.map_append,List.nodup_append]
  refine⟨h.nd,hw.nodup,fun q hq q' EL e=>?_⟩
  subst e
  obtain⟨⟨q1,o1⟩,h1,rfl⟩:=List.mem_map.1 hq
  obtain⟨⟨q2,o2⟩,h2,e2⟩:=List.mem_map.1 EL
  simp only at e2
  subst e2
  have h3:=hs _ _ (h.kn _ h1)
  have h4:=hw.apart _ _ h2
  dsimp only at h3 h4
  rw[h4] at h3
  cases h3
 ·show ro q=none
  rcases List.mem_append.1 hq with hq|hq
  ·exact h.ap q o hq
  have h2:roK q=none:=hw.apart q o hq
  cases hr:ro q with
  |none=>rfl
  |some o'=>rw[hs _ _ (h.sub _ _ hr)] at h2;cases h2
 rcases hq with hq| ⟨o,hq⟩
 ·have hq:ro q≠none:=hq
  cases hr:ro q with
  |none=>exact absurd hr hq
  |some o'=>exact .inr (.inl (by show roK q≠none;rw[hs _ _ (h.sub _ _ hr)];simp))
 rcases List.mem_append.1 hq with h'|h'
 ·exact .inl (by rw[h.on q o h'];simp)
 exact .inr (.inr ⟨o,h'⟩)
section
variable {ι:Type} {E:dO ι} {Q:Machine→Outcome→World→Trace→Prop} {b:Frame} {zc:List Item} {cs:List Frame} {n:Nat} {D:List Deferred} {ro:Nat→Option Obj} {o:Option JS} {ops:Array Oper} {L:Nat→Option Obj}
theorem ap2{tm:Bool}(iw ic:Nat)(X:Cells)(iM:Closed E.P true (TL E.P eC (fun _=>none) (Calm E.os E.out) Q))
 (h:∀L aI,ahX L X ro aI→E.Wg≠E.Ch→L E.Ch=none→TT (TM E L Q 0 false [] 0) b zc cs n D aI (V0 o))
 (hW:dS [iw,ic] o=some [(E.Wg,wgBlock E.ty 0 0),(E.Ch,.chan 0 #[] false 0 0 tm)]:=by kernel_rfl)(hX:Sf [iw,ic] o=some X:=by kernel_rfl):TT (TL E.P eC (fun _=>none) (Calm E.os E.out) Q) b zc cs n D ro o:=by
 rintro e w kn rfl bV
 refine Closed.jK iM rfl fun⟨w0,Wl⟩=>?_
 have hp:=bD hW
 simp only[Sf,Option.some.injEq] at hX
 have Ri:=hp
 dsimp only at Ri
 rw[hX] at Ri
 have hm:∀x,x∈den w↔x=(E.Wg,wgBlock E.ty 0 0)∨x=(E.Ch,.chan 0 #[] false 0 0 tm)∨x∈X:=fun x=>by
  rw[Ri.mem_iff]
  simp
 have lY:=(Ri.map (·.1)).nodup_iff.1 Wl.nodup
 simp only[List.cons_append,List.nil_append,List.map_cons,List.nodup_cons,List.mem_cons,not_or] at lY
 obtain⟨⟨dR,hW1⟩,hC1,PB⟩:=lY
 have zg:∀x∈X,x∈den w:=fun x hx=>(hm x).2 (.inr (.inr hx))
 have aCy:(E.Wg,wgBlock E.ty 0 0)∈den w:=(hm _).2 (.inl rfl)
 have afV:(E.Ch,Obj.chan 0 #[] false 0 0 tm)∈den w:=(hm _).2 (.inr (.inl rfl))
 have Mk:∀y∈X,y.1≠E.Wg∧y.1≠E.Ch:=fun y hy=>⟨fun e=>hW1 (e▸List.mem_map.2 ⟨_,hy,rfl⟩),fun e=>hC1 (e▸List.mem_map.2 ⟨_,hy,rfl⟩)⟩
 let L:Nat→Option Obj:=fun q=>(X.find? fun y=>y.1==q).map (·.2)
 have TK:∀q o,L q=some o→(q,o)∈X:=fun q o hq=>by
  obtain⟨y,hy,rfl⟩:=Option.map_eq_some_iff.1 hq
  obtain⟨h1,h2⟩:=oI hy
  subst h2
  exact h1
 have aSw:∀q o,(q,o)∈X→L q=some o:=fun q o hq=>by
  show (X.find? fun y=>y.1==q).map (·.2)=some o
  rw[wo PB hq];rfl
 have TN:L E.Ch=none:=by
  cases hq:L E.Ch with
  |none=>rfl
  |some o=>exact absurd rfl (Mk _ (TK _ _ hq)).2
 have mQ:∀q o,(q,o)∈X→ro q=none:=fun q o hq=>Wl.apart q o (zg _ hq)
 have fJ:Sub ro (St.freeze ⟨ro,X⟩).ro:=fun q o hq=>St.nO (s:=⟨ro,X⟩) hq fun q o hq=>mQ q o hq
 have ae7:∀q,(∃o,(q,o)∈den w)→(q=E.Wg∨q=E.Ch)→¬(St.freeze ⟨ro,X⟩).knows q:=by
  rintro q ⟨o,ho⟩ hq (hk| ⟨o',EM⟩)
  ·simp only[St.freeze] at hk
   split at hk
   ·rename_i y hy
    obtain⟨h1,h2⟩:=oI hy
    have:=Mk _ h1
    rcases hq with e|e
    ·exact this.1 (h2.trans e)
    exact this.2 (h2.trans e)
   exact hk (Wl.apart q o ho)
  cases EM
 have aBz:ahX L X ro (St.freeze ⟨ro,X⟩).ro:=⟨TK,aSw,fJ,fun x hx=>St.sU (s:=⟨ro,X⟩) (by rcases x with ⟨q,o⟩;exact hx) PB,PB,mQ⟩
 refine NP (E:=E) (L:=L) (s':=St.freeze ⟨ro,X⟩) rfl dR aCy ⟨tm,afV⟩ ?_ (ae7 _ ⟨_,aCy⟩ (.inl rfl)) (ae7 _ ⟨_,afV⟩ (.inr rfl)) (fun q ⟨o,ho⟩=>by cases ho) (fun q o hq=>⟨.inr (zg _ (TK _ _ hq)),Mk _ (TK _ _ hq)⟩) ?_
 ·refine⟨den w,by simp[St.freeze],fun q o hq=>?_⟩
  simp only[St.freeze] at hq
  split at hq
  ·rename_i y hy
   obtain⟨h1,h2⟩:=oI hy
   cases hq
   subst h2
   exact .inr (zg _ h1)
  exact .inl hq
 exact(h L _ aBz dR TN _ _ _ rfl (bV.up fJ)).1
theorem aMj{os:List ι}{a:Oper}{bs:List Nat}(h:TT (TM E L Q 1 false os 0) b k cs n D ro (stO a.dst (.tuple #[]) o))(ho:ops[0]?=some a) (hg:a.guard=none) (ay:a.op= .call ⟨.value (.func f),#[x,.const (.int .i64 1)],ats⟩) (hf:FF E.P f) (hk:b.kind≠ .early) (hr:b.roundOf=none) (It:os.length <E.max)
 (afx:Hf E.P E.ty os.length (Frame.enter E.P f #[.pointer (some ⟨E.Wg,0,none⟩),.int .i64 1] .normal)=some bs) (hbs:∀b∈bs,b=E.Wg) (hx:evO n x o=some (.pointer (some ⟨E.Wg,0,none⟩)):=by kernel_rfl):TT (TM E L Q 0 false os 0) b (.inRegion ops [0]::k) cs n D ro o:=by
 rintro e w kn rfl bV
 have hT:Closed E.P true (TM E L Q 0 false os 0):=fw (E:=E) false os (fun e=>(by cases e))
 have TJ:Closed E.P true (TM E L Q 1 false os 0):=fw (E:=E) false os (fun e=>(by cases e))
 refine OJ (rest:=[]) hT ho hg hk hr ay hf ?_
 have nu:(#[x,.const (.int .i64 1)]:Array Operand).map (A n e D).eval= #[.pointer (some ⟨E.Wg,0,none⟩),.int .i64 1]:=by
  rw[ek]
  simp only[List.map_toArray,List.map_cons,List.map_nil,aD hx]
  rfl
 rw[nu]
 refine⟨Kp (E:=E) afx hbs It ?_,fun e=>(by cases e)⟩
 rw[fQ,ho]
 simp only[Option.bind_some]
 rw[aV]
 exact(iq TJ (h _ _ _ rfl bV)).1
theorem tGo{os:List ι}(oo:ι){a:Oper}(L1:Cells)(ho:ops[i]?=some a) (hg:a.guard=none) (ay:a.op= .go ⟨.value y,#[],ats⟩) (hk:b.kind≠ .early) (hr:b.roundOf=none)
 (h:∀aI,Sub ro aI→Knows aI L1→eS E.P false (E.IM oo) (born E.P {target:= .fn (.func f) ⟨ca⟩,args:= #[]}) ⟨aI,[]⟩∧TT (TM E L Q 0 false (os++[oo]) 0) b (.inRegion ops todo::k) cs n D aI (V0 (stO a.dst undef o)))
 (hy:evO n y o=some (.func (.func f) ⟨[]⟩ ⟨ca⟩):=by kernel_rfl) (hL:Sf [] o=some L1:=by kernel_rfl):TT (TM E L Q 1 false os 0) b (.inRegion ops (i::todo)::k) cs n D ro o:=by
 rintro e w kn rfl bV
 have TJ:Closed E.P true (TM E L Q 1 false os 0):=fw (E:=E) false os (fun e=>(by cases e))
 refine Closed.jK TJ rfl fun pH=>?_
 obtain⟨w0,Wl⟩:=pH
 have lY:((den w).map (·.1)).Nodup:=Wl.nodup
 have mQ:∀q o,(q,o)∈den w→ro q=none:=Wl.apart
 have fJ:Sub ro (St.freeze ⟨ro,den w⟩).ro:=fun q o hq=>St.nO (s:=⟨ro,den w⟩) hq mQ
 have as9:Knows (St.freeze ⟨ro,den w⟩).ro L1:=fun x hx=>St.sU (s:=⟨ro,den w⟩) (by rcases x with ⟨q,o⟩;simp only[Sf,Option.some.injEq] at hL;rw[←hL,Cy] at hx;exact hx) lY
 obtain⟨h1,h2⟩:=h _ fJ as9
 have bS:=fun w'=>EV (P:=E.P) (main:=true) (b:=b) (a:=A n e D) (k:=k) (cs:=cs) (rest:=todo) ho hg hk hr ay (by rw[ek];exact aD hy) w'
 have:=h2 _ _ _ rfl (bV.up fJ)
 rw[←aV] at this
 exact⟨TC.mono (St.Cn ⟨ro,den w⟩) (IW (E:=E) (o:=oo) (s:=St.freeze ⟨ro,den w⟩) rfl rfl (fun w' _=>bS w') h1 this.1),fun e=>(by cases e)⟩
theorem ap6{os:List ι}{a:Oper}(L1:Cells)(ho:ops[i]?=some a) (hg:a.guard=none) (ay:a.op= .go ⟨.value y,#[],ats⟩) (hk:b.kind≠ .early) (hr:b.roundOf=none)
 (h:∀aI,Sub ro aI→Knows aI L1→E.closes ⟨aI,[]⟩ (born E.P {target:= .fn (.func f) ⟨ca⟩,args:= #[]})∧TT (TM E L Q 0 true os 0) b (.inRegion ops todo::k) cs n D aI (V0 (stO a.dst undef o)))
 (hy:evO n y o=some (.func (.func f) ⟨[]⟩ ⟨ca⟩):=by kernel_rfl) (hL:Sf [] o=some L1:=by kernel_rfl):TT (TM E L Q 0 false os 0) b (.inRegion ops (i::todo)::k) cs n D ro o:=by
 rintro e w kn rfl bV
 have TJ:Closed E.P true (TM E L Q 0 false os 0):=fw (E:=E) false os (fun e=>(by cases e))
 refine Closed.jK TJ rfl fun pH=>?_
 obtain⟨w0,Wl⟩:=pH
 have lY:((den w).map (·.1)).Nodup:=Wl.nodup
 have mQ:∀q o,(q,o)∈den w→ro q=none:=Wl.apart
 have fJ:Sub ro (St.freeze ⟨ro,den w⟩).ro:=fun q o hq=>St.nO (s:=⟨ro,den w⟩) hq mQ
 have as9:Knows (St.freeze ⟨ro,den w⟩).ro L1:=fun x hx=>St.sU (s:=⟨ro,den w⟩) (by rcases x with ⟨q,o⟩;simp only[Sf,Option.some.injEq] at hL;rw[←hL,Cy] at hx;exact hx) lY
 obtain⟨h1,h2⟩:=h _ fJ as9
 have bS:=fun w'=>EV (P:=E.P) (main:=true) (b:=b) (a:=A n e D) (k:=k) (cs:=cs) (rest:=todo) ho hg hk hr ay (by rw[ek];exact aD hy) w'
 have:=h2 _ _ _ rfl (bV.up fJ)
 rw[←aV] at this
 exact⟨TC.mono (St.Cn ⟨ro,den w⟩) (IX (E:=E) (s:=St.freeze ⟨ro,den w⟩) rfl rfl (fun w' _=>bS w') h1 this.1),fun e=>(by cases e)⟩
theorem ank{os:List ι}{a:Oper}{rc:Operand}{z:Value}{X:Cells}{aB:Nat→Option Obj}(hl:ahX L X pz aB)(bW:Sub aB ro)(TN:L E.Ch=none)(ho:ops[0]?=some a) (hg:a.guard=none) (Rh:∀ρ,bn E.P (execOp ρ a)=some (.comm #[{chan:=ρ rc,send:=none,zero:=z}] true (.recv true))) (hk:b.kind≠ .early) (hr:b.roundOf=none)
 (JW:∀a' oo b' v Y,os=a'++oo::b'→E.UI oo v Y→TT (TM E L Q 0 true (a'++b') 0) b (.inRegion ops todo::k) cs n D ro (adO Y (stO a.dst (.tuple #[v,.bool true]) o)))
 (qp:os=[]→TT (TL E.P eC (fun _=>none) (Calm E.os E.out) Q) b (.inRegion ops todo::k) cs n D pz (bkO X (stO a.dst (.tuple #[z,.bool false]) o)))
 (hx:evO n rc o=some (.chan (some E.Ch)):=by kernel_rfl):TT (TM E L Q 0 true os 0) b (.inRegion ops (0::todo)::k) cs n D ro o:=by
 rintro e w kn rfl bV
 have hT:Closed E.P true (TM E L Q 0 true os 0):=fw (E:=E) true os (fun _=>rfl)
 refine Closed.jK hT rfl fun pH=>?_
 have hvc:ev n e rc= .chan (some E.Ch):=aD hx
 have bS:∀w',stepG E.P true (G (aJ b (A n e D) (.inRegion ops (0::todo)::k)) cs) w'= .comm (G (aJ b (A n e D) (.inRegion ops (0::todo)::k)) cs) #[rcase E.Ch z] true (.recv true) w' #[]:=by
  intro w'
  have zh:=kN b (A n e D) (.inRegion ops (0::todo)::k)
  simp only[aJ] at zh
  have hw:Region.wanted a (yielded ops (A n e D).tmps)=true:=dq _ _ hg
  have jH:(b.kind==CallKind.early)=false:=by simpa using hk
  have gL:stepG E.P true (G (aJ b (A n e D) (.inRegion ops (0::todo)::k)) cs) w'=stepG.apply E.P true (aJ b (A n e D) (.inRegion ops (0::todo)::k)) cs none (execOp (A n e D).eval a) w':=by
   simp only[G,stepG,stepG.exec,aJ,ho,Option.map_some,Option.getD_some,hw,if_true,stepG.oper,Frame.oper?,zh]
   rw[hr]
  have bU:=tD (Rh (ev n e)) w' #[]
  rw[hvc] at bU
  rw[gL,ek]
  simp only[stepG.apply,if_true,bU,aJ,jH,Bool.false_eq_true,if_false]
  simp[seen_none,GStep.after,G,rcase]
 have pF:∀v,Conc.served (G (aJ b (A n e D) (.inRegion ops (0::todo)::k)) cs) v=G (aJ b (A n (upd a.dst v e) D) (.inRegion ops todo::k)) cs:=by
  intro v
  have:=fQ b (A n e D) ops 0 todo k v
  rw[ho] at this
  simp only[Option.bind_some] at this
  rw[aV] at this
  simp only[Conc.served,G] at this ⊢
  rw[this]
 have tZ:os=[]→∀pc (g:Goroutine),g.status= .running→(∀w',stepG E.P true g w'= .comm (G (aJ b (A n e D) (.inRegion ops (0::todo)::k)) cs) #[rcase E.Ch z] true (.recv true) w' #[])→
  TL E.P (jh pc) L (HC E pc) Q g ⟨ro,den w⟩:=by
  intro tq pc g hg' asl
  obtain⟨hb1,gh⟩:=hl.back (rwK:=den w) bW
  refine U0 (E:=E) (z:=z) (s':=⟨pz,X++den w⟩) TN hg' (fun w' _=>asl w') hb1 gh ?_
  rw[pF]
  have:=qp tq _ _ _ rfl fun x hx=>(by cases hx)
  rw[gE] at this
  exact this
 refine⟨U3 (E:=E) (z:=z) rfl (fun w' _=>bS w') (fun a' oo b' v Y tq oC=>?_) fun tq pc=>⟨tZ tq pc _ rfl bS,tZ tq pc _ rfl fun w'=>bS w'⟩,fun _ tq pc=>tZ tq pc _ rfl bS⟩
 rw[pF]
 have:=JW a' oo b' v Y tq oC _ _ _ rfl bV
 rw[gE] at this
 exact this.1
theorem axV{oo:ι}{a:Oper}{sc sv:Operand}{v:Value}{Y:Cells}(ys:List Nat)(ho:ops[i]?=some a) (hg:a.guard=none) (hse:∀ρ,execOp ρ a=Sem.pure (.comm #[{chan:=ρ sc,send:=some (ρ sv),zero:= .tuple #[]}] true .send)) (hk:b.kind≠ .early) (hr:b.roundOf=none)
 (hs:E.UI oo v Y) (h:TT (eS E.P false E.HE) b (.inRegion ops todo::k) cs n D ro (Cw ys (stO a.dst undef o)))
 (hx:evO n sc o=some (.chan (some E.Ch)):=by kernel_rfl) (hv:evO n sv o=some v:=by kernel_rfl) (hY:dS ys o=some Y:=by kernel_rfl):TT (eS E.P false (E.IM oo)) b (.inRegion ops (i::todo)::k) cs n D ro o:=by
 rintro e w kn rfl bV
 refine eS.stop ?_
 have:=h e w kn
 refine⟨rfl,G (aJ b (A n e D) (.inRegion ops (i::todo)::k)) cs,v,.tuple #[],Y,den (dz ys 0 w),bD hY,hs,fun w' pH=>?_,?_⟩
 ·have he:=kN b (A n e D) (.inRegion ops (i::todo)::k)
  simp only[aJ] at he
  have atq:ev n e sc= .chan (some E.Ch):=aD hx
  have atp:ev n e sv=v:=aD hv
  have hw:Region.wanted a (yielded ops (A n e D).tmps)=true:=dq _ _ hg
  have jH:(b.kind==CallKind.early)=false:=by simpa using hk
  have aAH:=hse (ev n e)
  rw[atq,atp] at aAH
  have gL:stepG E.P false (G (aJ b (A n e D) (.inRegion ops (i::todo)::k)) cs) w'=stepG.apply E.P true (aJ b (A n e D) (.inRegion ops (i::todo)::k)) cs none (execOp (A n e D).eval a) w':=by
   simp only[G,stepG,stepG.exec,aJ,ho,Option.map_some,Option.getD_some,hw,if_true,stepG.oper,Frame.oper?,he]
   rw[hr]
  rw[gL,ek,aAH]
  simp only[stepG.apply,if_true,Sem.runT,aJ,jH,Bool.false_eq_true,if_false]
  simp[seen_none,GStep.after,G,scase]
 have pF:Conc.served (G (aJ b (A n e D) (.inRegion ops (i::todo)::k)) cs) undef=G (aJ b (A n (upd a.dst undef e) D) (.inRegion ops todo::k)) cs:=by
  have:=fQ b (A n e D) ops i todo k undef
  rw[ho] at this
  simp only[Option.bind_some] at this
  rw[aV] at this
  simp only[Conc.served,G] at this ⊢
  rw[this]
 rw[pF]
 exact h _ _ _ (by simp only[Cw,stO]) bV
theorem apZ{dn:Nat}{bs:List Nat}(hf:E.P.funcs[b.fn]?=some fn) (As:fn.results= #[]) (yR:Bq E.P dn=true) (Dj:xp E.P E.ty E.max (Frame.enter E.P dn #[.pointer (some ⟨E.Wg,0,none⟩)] .deferred)=some bs) (hbs:∀b∈bs,b=E.Wg) (ps:List Nat) (hk:b.kind= .deferred) (hr:b.roundOf=none)
 (hd:dS ps o=some [(bd,.deferred (some []))]:=by kernel_rfl):TT (eS E.P false E.HE) b [] [cI E.P] n [eg bd,{target:= .fn (.func dn) ⟨[]⟩,args:=⟨[.pointer (some ⟨E.Wg,0,none⟩)]⟩}] ro o:=by
 rintro e w kn rfl bV
 have hT2:=dQ E.P false E.HE
 refine hT2.go rfl rfl (g':=G {aJ b (A n e [eg bd,{target:= .fn (.func dn) ⟨[]⟩,args:=⟨[.pointer (some ⟨E.Wg,0,none⟩)]⟩}]) [] with mode:= .returning} [cI E.P]) (fun w=>by simp[G,stepG,stepG.exec,aJ,hr]) ?_
 have hp:=bD hd
 obtain⟨Lw,Rr,hs⟩:=List.append_of_mem (hp.mem_iff.2 (List.mem_append_left _ (List.mem_singleton.2 rfl)))
 refine unwind_mark (C:=CA E.P) (fun _ _ h=>h) hT2 (.inl rfl) (fr:={aJ b (A n e [eg bd,{target:= .fn (.func dn) ⟨[]⟩,args:=⟨[.pointer (some ⟨E.Wg,0,none⟩)]⟩}]) [] with mode:= .returning}) rfl hs<|jB (C:=CA E.P) (fun _ _ h=>h) hT2 (.inl rfl) (kU yR) (ds:=[]) rfl<|eS.stop ?_
 have hq:QuitsD E.P 2 0 (G {aJ b (A n e []) [] with mode:= .returning} [cI E.P]):=n5 rfl rfl hk hf As
 exact He (E:=E) (c:={aJ b (A n e []) [] with mode:= .returning}) (.inl rfl) hq Dj hbs
end
theorem ax3{S:Goroutine→St→Prop}{c:Code}{ro:Nat→Option Obj}(hf:P.funcs[f]?=some fn) (hb:fn.body=some c) (hn:fn.ntmps=n) (ff:Bq P f=true) (hle:Nat.ble ca.length n=true)
 (h:TT (eS P false S) (ZA f .deferred) ([c].map .code++[]) [cI P] n [] ro (some ⟨.fin .normal,fU 0 ca,[],⟨[],[]⟩⟩)):eS P false S (born P {target:= .fn (.func f) ⟨ca⟩,args:= #[]}) ⟨ro,[]⟩:=by
 have hT:=dQ P false S
 refine jB (C:=CA P) (fun _ _ h=>h) hT (fr:={(default:Frame) with fn:=P.funcs.size,defers:=[{target:= .fn (.func f) ⟨ca⟩,args:= #[]}],mode:= .panicking [goexitEntry]}) (.inr ⟨_,rfl⟩) (kU ff) rfl ?_
 show eS P false S (G (Frame.enter P f (#[]++⟨ca⟩) .deferred) [cI P]) ⟨ro,[]⟩
 have ij:Frame.enter P f (#[]++⟨ca⟩) .deferred=aJ (ZA f .deferred) (A n (fU 0 ca) []) [.code c]:=by
  rw[←kO ca n (Nat.le_of_ble_eq_true hle)]
  simp[Frame.enter,aJ,hf,hb,hn,ZA]
 rw[ij]
 exact h _ _ _ rfl fun x hx=>(by cases hx)
theorem ajt{E:dO ι}{x:Kx}(hx:x.OK E.P E.ty){bs:List Nat}(Pq:AT E.P E.ty E.max (Frame.enter E.P x.wait #[.pointer (some ⟨E.Wg,0,none⟩)] .normal)=some bs)(hbs:∀b∈bs,b=E.Wg)
 {ro:Nat→Option Obj}{a:Oper}(hq:ro q=some (.cells ⟨[.chan (some E.Ch)]⟩ t fz))(ho0:x.q1[0]?=some a) (hg0:a.guard=none) (aPV:a.op= .load U y) (ht:(aW E.P U).map (·.agg)=some false)
 (hy:evO x.n y (some ⟨.fin .normal,fo x.o0.dst (.tuple #[]) (fU 0 [.pointer (some ⟨E.Wg,0,none⟩),.pointer (some ⟨q,0,none⟩)]),[],⟨[],[]⟩⟩)=some (.pointer (some ⟨q,0,none⟩)))
 (hc:evO x.n x.cx (stO a.dst (.chan (some E.Ch)) (some ⟨.fin .normal,fo x.o0.dst (.tuple #[]) (fU 0 [.pointer (some ⟨E.Wg,0,none⟩),.pointer (some ⟨q,0,none⟩)]),[],⟨[],[]⟩⟩))=some (.chan (some E.Ch))):
 E.closes ⟨ro,[]⟩ (born E.P {target:= .fn (.func x.f) ⟨[.pointer (some ⟨E.Wg,0,none⟩),.pointer (some ⟨q,0,none⟩)]⟩,args:= #[]}):=by
 obtain⟨fn,hf,As,Rj⟩:=hx.fn
 obtain⟨hbf,rX,qR⟩:=hx.bf
 have hk:x.b.kind≠ .early:=by rw[rX];simp
 have Pw:∀g g',g.status= .running→g'.status= .running→(∀w,stepG E.P false g w= .go g' w #[])→E.closes ⟨ro,[]⟩ g'→E.closes ⟨ro,[]⟩ g:=
  fun g g' hg _ bS ⟨q,hq⟩=>⟨q+1,hg,g',fun w _=>bS w,hq⟩
 refine Pw _ _ rfl rfl (Hn (kU hx.ff) _) ?_
 have GC:(#[]++(⟨[.pointer (some ⟨E.Wg,0,none⟩),.pointer (some ⟨q,0,none⟩)]⟩:Array Value))= #[.pointer (some ⟨E.Wg,0,none⟩),.pointer (some ⟨q,0,none⟩)]:=by simp
 rw[GC]
 refine T3 (iB:=[]) (cs:=[cI E.P]) Pw (hx.enter _ _)<|Hc (E:=E) ?_ Pq hbs
 have hT:=dQ E.P false E.IL
 show eS E.P false E.IL (G ((aJ x.b (A x.n (fU 0 [.pointer (some ⟨E.Wg,0,none⟩),.pointer (some ⟨q,0,none⟩)]) []) (.inRegion x.q0 (0::[])::[.code x.rest])).finish (.tuple #[])) [cI E.P]) ⟨ro,[]⟩
 rw[fQ,hx.op0,aV]
 simp only[Option.bind_some]
 rw[jY]
 refine iq hT ?_
 obtain⟨id,aek⟩:=hx.rest
 refine dG (l:=[x.rest]) (k:=[]) hT aek fun l2 qO=>?_
 have:=gB qO
 subst this
 rw[hx.size]
 have key:TT (eS E.P false E.IL) x.b (.inRegion x.q1 (0::[1])::[]) [cI E.P] x.n [] ro (some ⟨.fin .normal,fo x.o0.dst (.tuple #[]) (fU 0 [.pointer (some ⟨E.Wg,0,none⟩),.pointer (some ⟨q,0,none⟩)]),[],⟨[],[]⟩⟩):=by
  refine tLd hT (.chan (some E.Ch)) ho0 hg0 aPV ht hk qR (q:=q) (t:=t) (fz:=fz) (fun _ _ _ _=> .inl hq) ?_ hy
  intro e w kn he bV
  refine eS.stop ?_
  have hx2:ev x.n e x.cx= .chan (some E.Ch):=by
   rw[he] at hc
   exact aD hc
  obtain⟨ho,hg,ats,ay⟩:=hx.op
  have hq:(E.P.funcs[x.b.fn]?).any (·.norace)=false:=by rw[hbf,hf];simpa using Rj
  refine⟨rfl,?_,G (x.b.at (Act.put (A x.n e []) x.oc.dst (.tuple #[])) (.inRegion x.q1 []::[])) [cI E.P],fun w s r tm hc=>?_,4,?_⟩
  ·simp[mayWake,G,aJ,ho,ay]
  ·rw[Cs qR]
   have:=stepG_close (P:=E.P) (main:=false) (b:=x.b) (a:=A x.n e []) (kk:=[]) (cs:=[cI E.P]) (rest:=[]) ho (dq x.oc _ hg) hk ay (by rw[ek];exact hx2) hc hq
   exact this
  rw[←Cs qR]
  refine .ctl (g':=G (aJ x.b (Act.put (A x.n e []) x.oc.dst (.tuple #[])) []) [cI E.P]) rfl (fun w=>by simp[G,stepG,stepG.exec,aJ])<|.ctl (g':=G {aJ x.b (Act.put (A x.n e []) x.oc.dst (.tuple #[])) [] with mode:= .returning} [cI E.P]) rfl (fun w=>by simp[G,stepG,stepG.exec,aJ,qR])<|n5 rfl ?_ rX (by show E.P.funcs[x.b.fn]?=_;rw[hbf];exact hf) As
  show (Act.put (A x.n e []) x.oc.dst (.tuple #[])).defers=[]
  rw[aV];rfl
 exact key _ _ _ rfl fun x hx=>(by cases hx)
theorem jpF{V:Value}(lp:List Nat)(B:Cells)(Gy:Bq X.P f=true)(hf:∀aB,Sub X.ro aB→Knows aB B→de X.P f vs aB V)(hj:J X (Lh B V o))(h1:dE X.n (ahz X.n) o=some (f,vs):=by kernel_rfl)(h3:dS lp o=some B:=by kernel_rfl):J X o:=by
 refine jGN h1 h3 (fun s p e ho hh hc=>?_) hj
 have hcb:x6 X.P X.n p e=some (f,vs):=by unfold x6;rw[hc];simp only[Gy,cond_true]
 obtain⟨ff,x,xs,at_,fi,ca,ws,ay,hx,rR,rfl⟩:=qE hcb
 rcases p with ⟨dst,op,ty,pos,cZ,g⟩
 dsimp only at ay;subst ay
 refine⟨rfl,fun s0 Gk uW ops i sO rest hw s' hs todo Q hk=>?_⟩
 have hez:Ext ⟨X.ro,B⟩ s':=fun b ob hb=>hs _ _ (hb.elim (fun h=>Gk _ _ (.inl h)) fun h=>uW (b,ob) h)
 exact OW X.hC sO hw (aZ hx) ff (xg rR) (QT fi ws ca) hez (fun aB h1=>hf aB (Ff h1) fun y hy=>h1 _ _ (.inr hy)) hk
def bgI(body:Code)(i:Nat):Option JS→Option (JS×Nat)
 |some ⟨.fin .normal,e,w,kn⟩=>match yy w i with
  |some (.b b (.loop r))=>match r.state with
   | .ready=>some (⟨.code body [],e,Sb w i (.b b (.loop {r with state:= .busy})),kn⟩,b)
   |_=>none
  |_=>none
 |_=>none
theorem jbI{ro:Nat→Option Obj}(i:Nat)(h:J (X.re bl ro Φ) (Eh (bgI body i o)))(h1:R9 (bgI body i o)=some bl:=by kernel_rfl):J (X.rd bl ro Φ body) o:=by
 unfold bgI at h h1
 split at h<;>try (simp only[Eh] at h;exact h.elim)
 rename_i e w kn
 split at h<;>try (simp only[Eh] at h;exact h.elim)
 rename_i b r hn
 split at h<;>try (simp only[Eh] at h;exact h.elim)
 rename_i bS
 simp only[hn,bS,R9,Option.some.injEq] at h1
 subst h1
 simp only[Eh] at h
 intro bV
 have hw:=h bV
 obtain⟨L,R,h2,h3⟩:=zw hn
 simp only[JP,Cx.rd,Hs,CQ]
 refine⟨L,r,R,h2,bS,?_⟩
 simp only[JP,h3] at hw
 exact hw
theorem tGe{b:Frame}{D:List Deferred}{ro:Nat→Option Obj}(h:TT T b zc cs n D ro (geO o)):TT T b zc cs n D ro o:=by
 rintro e w kn rfl bV
 have:=h e (.l []::w) kn (by simp only[geO]) bV
 rw[gE] at this
 exact this
def abS:Option JS→Option JS
 |some ⟨.fin .normal,e,w,kn⟩=>some ⟨.fin .ret,e,w,kn⟩
 |_=>none
theorem apY{c:Code}{ro:Nat→Option Obj}{L:Cells}(hf:P.funcs[f]?=some fn) (hb:fn.body=some c) (hn:fn.ntmps=n) (hle:Nat.ble args.length n=true)
 (h:TT T (ZA f .normal) ([c].map .code++[]) cs n [] ro (some ⟨.fin .normal,fU 0 args,[.l L],⟨[],[]⟩⟩)):T (G (Frame.enter P f ⟨args⟩ .normal) cs) ⟨ro,L⟩:=by
 have ij:Frame.enter P f ⟨args⟩ .normal=aJ (ZA f .normal) (A n (fU 0 args) []) [.code c]:=by
  rw[←kO args n (Nat.le_of_ble_eq_true hle)]
  simp[Frame.enter,aJ,hf,hb,hn,ZA]
 rw[ij]
 exact h _ _ _ rfl fun x hx=>(by cases hx)
theorem aMf(hm:P.follows .mixedOrders=true)(hT:Closed P main T){cl:Frame}{MM:List Frame}{ro:Nat→Option Obj}(v:Value)(hs ps:List Nat)(Y:Cells)(hf:P.funcs[f]?=some fn)
 (hk:T (G (cl.finish v) MM) ⟨ro,Y⟩) (h1:sS (jQ P n f hs (abS o))=some v:=by kernel_rfl) (h2:Rw (jQ P n f hs (abS o))=Rv (jQ P n f hs (abS o)):=by kernel_rfl) (h3:dS ps o=some Y:=by kernel_rfl):TT T (ZA f .normal) (.code .ret::zc) (cl::MM) n [] ro o:=by
 rintro e w kn rfl bV
 simp only[abS] at h1 h2
 simp only[jQ] at h1 h2
 cases hr:BE P n e w kn.c hs (sV P f).results.toList with
 |none=>simp only[hr,sS] at h1;cases h1
 |some x=>
  rcases x with ⟨vs,q⟩
  simp only[hr,sS,Option.some.injEq,Rw,Rv] at h1 h2
  have rV:=tE (X:=⟨P,fun m T'=>m=main∧T'=T,by rintro _ _ ⟨rfl,rfl⟩;exact hT,hm,f,none,n,[],ro,fun _ _ _=>True⟩) bV hr (lZ h2)
  have hp:=bD h3
  have uC:sV P f=fn:=by simp only[sV,hf]
  have EL:=Od (s0:=⟨ro,Y⟩) (R:=fun en s'=>∃v,en= .returned v∧T (G (cl.finish v) MM) s') (.inl rfl) rV h1 (dL hp (Sub.refl _)) ⟨v,rfl,hk⟩
  rw[uC] at EL
  refine hT.go rfl rfl (g':=G {aJ (ZA f .normal) (A n e []) (.code .ret::zc) with mode:= .returning} (cl::MM)) (fun w=>by simp[G,stepG,stepG.exec,aJ,ZA])<|sC (C:=CA P) (fun _ _ h=>h) (T:=T) hT hf (fr:={aJ (ZA f .normal) (A n e []) (.code .ret::zc) with mode:= .returning}) rfl rfl rfl rfl (R:=fun en s'=>∃v,en= .returned v∧T (G (cl.finish v) MM) s') EL.2 (fun v s' hv=>?_)
  obtain⟨v',hv',ht⟩:=hv
  cases hv'
  exact ht
attribute [irreducible] V0 bkO bgI Sf abS
def Bs(P:Program)(f:FuncId)(args:List Value)(ro:Nat→Option Obj)(own:Cells)(Φ:Value→Cells→Prop):Prop:=
 ∀fr,Fn (C0 P) P f ⟨args⟩ ⟨ro,own++fr⟩ (fun en s'=>∃v Y,en= .returned v∧(⟨ro,Y++fr⟩:St).le s'∧Φ v Y)
theorem Bs.mono{ro:Nat→Option Obj}{own:Cells}{Φ':Value→Cells→Prop}(h:Bs P f args ro own Φ)(hk:∀v X,Φ v X→Φ' v X):Bs P f args ro own Φ':=
 fun fr=>Fn.mono (h fr) fun _ _ ⟨v,X,h1,h2,h3⟩=>⟨v,X,h1,h2,hk v X h3⟩
abbrev RC(ro:Nat→Option Obj)(fr:Cells)(Φ:Value→Cells→Prop):Ending→St→Prop:=fun en s'=>∃v Y,en= .returned v∧(⟨ro,Y++fr⟩:St).le s'∧Φ v Y
def XC(P:Program)(hm:P.follows .mixedOrders=true)(f:FuncId)(ro:Nat→Option Obj)(R:Ending→St→Prop):Cx:=⟨P,C0 P,xq,hm,f,none,(sV P f).ntmps,[],ro,rq P (sV P f) R⟩
theorem qC{hm:P.follows .mixedOrders=true}{ro:Nat→Option Obj}:QR (XC P hm f ro R) R:=⟨rfl,rfl⟩
theorem J9(hC:∀main T,C main T→Closed P main T){c:Code}(hf:P.funcs[f]?=some fn) (hb:fn.body=some c) (hl:Nat.ble args.length fn.ntmps=true) (h:Wp C f none c (rq P fn R) (A fn.ntmps (fU 0 args) []) s):Fn C P f ⟨args⟩ s R:=by
 refine Ql hC hf hb ?_
 have he:=kO args fn.ntmps (Nat.le_of_ble_eq_true hl)
 rw[←he] at h
 exact h
theorem yG(hm:P.follows .mixedOrders=true){ro:Nat→Option Obj}{L:Cells}(own:List Sg)(kn:Cells)(hk:Knows ro kn)(h:∀fr,J (XC P hm f ro (RC ro fr Φ)) (kS P f args (own++[.l fr]) kn))(hL:den own=L:=by rfl):Bs P f args ro L Φ:=by
 subst hL
 intro fr
 have h:=h fr
 unfold kS at h
 split at h<;>try exact h.elim
 rename_i fn hf
 split at h<;>try exact h.elim
 rename_i c hc
 cases hl:Nat.ble args.length fn.ntmps with
 |false=>rw[hl] at h;exact h.elim
 |true=>
  rw[hl] at h
  have uC:sV P f=fn:=by simp only[sV,hf]
  have:=h hk
  simp only[JP,XC,KQ,uC] at this
  have hd:den (own++[.l fr])=den own++fr:=by rw[lv];rfl
  rw[hd] at this
  exact J9 xq hf hc hl this
section
variable {X:Cx} {o:Option JS}
theorem Gd{own:Cells}(ps:List Nat)(hC:∀main T,X.C main T→C0 X.P main T)(hf:Bs X.P f vs X.ro own Φ)(hj:∀v Y,Φ v Y→J X (nj ps v Y o))(h1:fg X.n (x6 X.P X.n) o=some (f,vs):=by kernel_rfl)(h2:dS ps o=some own:=by kernel_rfl):J X o:=by
 obtain⟨ops,i,todo,k,e,w,kn,p,rfl,ho,hw,hc⟩:=dr h1
 obtain⟨ff,x,xs,at_,fi,ca,ws,ay,hx,rR,rfl⟩:=qE hc
 intro bV
 rcases p with ⟨dst,op,ty,pos,cZ,g⟩
 dsimp only at ay;subst ay
 have hp:=bD h2
 have uC:Fn X.C X.P f ⟨fi++ws++ca⟩ ⟨X.ro,den w⟩ (fun en s'=>∃v Y,en= .returned v∧(⟨X.ro,Y++den (dz ps 0 w)⟩:St).le s'∧Φ v Y):=fun main T hT c cs k1 k2=>
  (X.hC main T hT).mono _ ⟨X.ro,own++den (dz ps 0 w)⟩ _ (dL (J:=[]) (by rw[List.append_nil];exact hp) (Sub.refl _)) (Fn.weaken hC (hf _) main T hT c cs k1 k2)
 refine tR (fi:=⟨fi⟩) (ca:=⟨ca⟩) (ws:=fi++ws++ca) X.hC ho hw hx ff rR (QT fi ws ca) uC (fun v' s' hr=>?_) (fun ch s' hr=>by obtain⟨_,_,e,_⟩:=hr;cases e) (fun s' hr=>by obtain⟨_,_,e,_⟩:=hr;cases e)
 obtain⟨v,Y,hv,hle,qi⟩:=hr
 cases hv
 have:=hj _ Y qi
 rw[n9 ho] at this
 have:=this bV
 simp only[JP,gE] at this
 exact this.more X.hC hle
theorem HG(hq:QR X (RC pz fr Φ))(v:Value)(ps:List Nat)(Y:Cells)(fJ:Sub pz X.ro)(hR:Φ v Y)(h1:sS (jQ X.P X.n X.fn [] o)=some v:=by kernel_rfl)(h2:Rw (jQ X.P X.n X.fn [] o)=Rv (jQ X.P X.n X.fn [] o):=by kernel_rfl)(h3:dS ps o=some (Y++fr):=by kernel_rfl)(h4:Cq o=true:=by kernel_rfl):J X o:=
 aE hq v [] ps (Y++fr) fJ ⟨v,Y,rfl,St.le_refl _,hR⟩ h1 h2 h3 h4
end
noncomputable def Fu(P:Program)(g:FuncId):Func:=match H7 P g with
 |some (gn,_,_)=>gn
 |none=>default
noncomputable def H6(P:Program)(g:FuncId):Tmp:=match H7 P g with
 |some (_,t,_)=>t
 |none=>0
noncomputable def recC(P:Program)(g:FuncId):Code:=match H7 P g with
 |some (_,_,c)=>c
 |none=> .skip
def aqr(P:Program)(g:FuncId):Bool:=(H7 P g).isSome
theorem ajI(h:aqr P g=true):H7 P g=some (Fu P g,H6 P g,recC P g):=by
 unfold aqr at h
 unfold Fu H6 recC
 cases hr:H7 P g with
 |none=>rw[hr] at h;cases h
 |some x=>rcases x with ⟨a,b,c⟩;rfl
noncomputable def XD(P:Program)(hm:P.follows .mixedOrders=true)(f:FuncId)(ro:Nat→Option Obj)(R:Ending→St→Prop)(g:FuncId):Cx:=⟨P,CP P,eY,hm,f,none,(sV P f).ntmps,[],ro,Uh (CP P) P (sV P f) g (Fu P g) (H6 P g) (recC P g) R⟩
theorem aOq(hm:P.follows .mixedOrders=true){ro:Nat→Option Obj}{L:Cells}(g:FuncId)(own:List Sg)(kn:Cells)(hk:Knows ro kn)(h:J (XD P hm f ro (RX ro Φ) g) (kS P f args own kn))(hL:den own=L:=by rfl)(ael:aqr P g=true:=by kernel_rfl):eE P f args ro L Φ:=by
 subst hL
 unfold kS at h
 split at h<;>try exact h.elim
 rename_i fn hf
 split at h<;>try exact h.elim
 rename_i c hc
 cases hl:Nat.ble args.length fn.ntmps with
 |false=>rw[hl] at h;exact h.elim
 |true=>
  rw[hl] at h
  have uC:sV P f=fn:=by simp only[sV,hf]
  have:=h hk
  simp only[JP,XD,KQ,uC] at this
  exact GR eY hf hc rfl hl (ajI ael) this
def dfV(n:Nat)(p:Oper)(e:Env):Option (FuncId×List Value):=match p.op with
 | .defer ⟨.value x,⟨[]⟩,⟨[]⟩⟩=>match bh n e x with
  |some (.func (.func f) ⟨[]⟩ ⟨ca⟩)=>some (f,ca)
  |_=>none
 |_=>none
theorem auZ(h:dfV n p e=some (f,ca)):∃x,p.op= .defer ⟨.value x,#[],#[]⟩∧bh n e x=some (.func (.func f) ⟨[]⟩ ⟨ca⟩):=by
 unfold dfV at h
 split at h<;>try (cases h;done)
 rename_i x ay
 split at h<;>try (cases h;done)
 rename_i hx
 cases h
 exact⟨x,ay,hx⟩
def skO:Option JS→Option JS
 |some ⟨.ops ops (i::todo) k,e,w,kn⟩=>match ops[i]? with
  |some p=>some ⟨.ops ops todo k,upd p.dst undef e,w,kn⟩
  |none=>none
 |_=>none
def Pn(t:Tmp)(rest:Code)(ca:List Value):Option JS→Option JS
 |some ⟨.fin _,_,w,kn⟩=>some ⟨.code rest [],upd (some t) .nilIface (fU 0 ca),w,⟨kn.c,[]⟩⟩
 |_=>none
def rwS:Option JS→Option (List Sg)
 |some s=>some s.rw
 |none=>none
section
variable {X:Cx} {o:Option JS}
theorem jdf(hj:J (X.wd ({target:= .fn (.func f) ⟨ca⟩,args:= #[]}::X.D)) (skO o))(h1:fg X.n (dfV X.n) o=some (f,ca):=by kernel_rfl)(hr:X.az=none:=by rfl):J X o:=by
 obtain⟨ops,i,todo,k,e,w,kn,p,rfl,ho,hw,hc⟩:=dr h1
 obtain⟨x,ay,hx⟩:=auZ hc
 intro bV
 rcases p with ⟨dst,op,ty,pos,cZ,g⟩
 dsimp only at ay;subst ay
 simp only[skO,ho] at hj
 have:=hj bV
 simp only[JP,Q4] at this
 show ab X.C X.fn X.az ops (i::todo) (KQ X k) (A X.n e X.D) ⟨X.ro,den w⟩
 rw[hr]
 have h2:(X.wd ({target:= .fn (.func f) ⟨ca⟩,args:= #[]}::X.D)).az=none:=hr
 rw[h2] at this
 exact aka X.hC ho hw hx this
structure QD(X:Cx)(g:FuncId)(R:Ending→St→Prop)(ca:List Value):Prop where
 q:X.Q=Uh X.C X.P (sV X.P X.fn) g (Fu X.P g) (H6 X.P g) (recC X.P g) R
 d:X.D=[{target:= .fn (.func g) ⟨ca⟩,args:= #[]}]
theorem jrD(hq:QD X g R ca)(v:Value)(hs ps:List Nat)(Y:Cells)(k:Nat)(fJ:Sub pz X.ro)(hR:R (.returned v) ⟨pz,Y⟩)(hl:Nat.ble ca.length (Fu X.P g).ntmps=true:=by kernel_rfl)
 (h1:sS (jQ X.P X.n X.fn hs o)=some v:=by kernel_rfl)(h2:Rw (jQ X.P X.n X.fn hs o)=Rv (jQ X.P X.n X.fn hs o):=by kernel_rfl)(h3:dS ps o=some Y:=by kernel_rfl)(h4:Cq o=true:=by kernel_rfl)
 (h5:Cq (res (adv X.P (Fu X.P g).ntmps k [] (Pn (H6 X.P g) (recC X.P g) ca o)))=true:=by kernel_rfl)(h6:rwS (res (adv X.P (Fu X.P g).ntmps k [] (Pn (H6 X.P g) (recC X.P g) ca o)))=rwS o:=by kernel_rfl)
 (h7:lhs (adv X.P (Fu X.P g).ntmps k [] (Pn (H6 X.P g) (recC X.P g) ca o))=rhs (adv X.P (Fu X.P g).ntmps k [] (Pn (H6 X.P g) (recC X.P g) ca o)):=by kernel_rfl):J X o:=by
 obtain⟨ex,e,w,kn,rfl,hex⟩:=sX h4
 simp only[jQ] at h1 h2
 cases hr:BE X.P X.n e w kn.c hs (sV X.P X.fn).results.toList with
 |none=>simp only[hr,sS] at h1;cases h1
 |some x=>
  rcases x with ⟨vs,q⟩
  simp only[hr,sS,Option.some.injEq,Rw,Rv] at h1 h2
  intro bV
  have rV:=tE bV hr (lZ h2)
  have hp:=bD h3
  have EL:=Od (s0:=⟨pz,Y⟩) (R:=R) hex rV h1 (dL hp fJ) hR
  have ht:bN X.P (results (sV X.P X.fn) (A X.n e X.D).tmps) ⟨X.ro,den w⟩ (fun v s'=>∃s0,s0.le s'∧R (.returned v) s0) (fun _ _=>False):=by
   rcases hex with rfl|rfl<;>exact EL.2
  show X.Q ex (A X.n e X.D) ⟨X.ro,den w⟩
  rw[hq.q]
  refine⟨hex.symm,ca,hl,hq.d,?_⟩
  let X2:Cx:=⟨X.P,X.C,X.hC,X.hm,g,none,(Fu X.P g).ntmps,[],X.ro,fun e2 a2 s2=>(e2= .normal∨e2= .ret)∧a2.defers=[]∧bN X.P (results (sV X.P X.fn) (A X.n e X.D).tmps) s2 (fun v s3=>∃s0,s0.le s3∧R (.returned v) s0) (fun _ _=>False)⟩
  have hj:J X2 (Pn (H6 X.P g) (recC X.P g) ca (some ⟨.fin ex,e,w,kn⟩)):=by
   refine jd k [] ?_ h7
   have h5':=h5
   have h6':=h6
   obtain⟨ex2,e2,w2,kn2,tW,aQW⟩:=sX h5'
   show J X2 (res (adv X.P (Fu X.P g).ntmps k [] (Pn (H6 X.P g) (recC X.P g) ca (some ⟨.fin ex,e,w,kn⟩))))
   rw[tW] at h6' ⊢
   simp only[rwS,Option.some.injEq] at h6'
   subst h6'
   exact fun _=>⟨aQW.symm,rfl,ht⟩
  simp only[Pn] at hj
  exact hj bV
end
attribute [irreducible] skO Pn rwS dfV
def uB(r ck:Nat)(seen:List Nat):Obj:= .mapIter (some r) ck ⟨seen⟩ ck
def cF(es:Array MapEntry)(seen:List Nat):List MapEntry:=es.toList.filter fun e=> !seen.contains e.born
theorem B7(es:Array MapEntry):cF es []=es.toList:=by simp[cF]
theorem YH{es:Array MapEntry}{e:MapEntry}:e∈cF es (seen++[b])↔e∈cF es seen∧e.born≠b:=by
 simp only[cF,List.mem_filter,Bool.not_eq_true',List.contains_eq_mem,List.mem_append,List.mem_singleton,decide_eq_false_iff_not,not_or,and_assoc]
theorem F6{es:Array MapEntry}{e:MapEntry}(h:e∈cF es seen):(cF es (seen++[e.born])).length <(cF es seen).length:=by
 have:cF es (seen++[e.born])=(cF es seen).filter fun x=> !decide (x.born=e.born):=by
  simp only[cF,List.filter_filter]
  refine List.filter_congr fun x _=>?_
  simp only[List.contains_eq_mem,List.mem_append,List.mem_singleton,Bool.decide_or,Bool.not_or]
  rw[Bool.and_comm]
 rw[this]
 exact List.length_filter_lt_length_iff_exists.2 ⟨e,h,by simp⟩
def mrV(P:Program)(n:Nat)(p:Oper)(e:Env):Option Value:=match p.op with
 | .range T x=>match aW P T with
  |some ⟨.map _ _,_,_,_⟩=>bh n e x
  |_=>none
 |_=>none
def nmV(n:Nat)(p:Oper)(e:Env):Option Value:=match p.op with
 | .next x false=>bh n e x
 |_=>none
def enV(n:Nat)(p:Oper)(e:Env):Option Value:=match p.op with
 | .entry x=>bh n e x
 |_=>none
theorem IY{Q:β→St→Prop}{E:Halt→St→Prop}{k:Nat→Sem β}(hn:0 <n)(h:∀j,j <n→bN P (k j) s Q E):bN P (choose (.mapNext n) >>= k) s Q E:=by
 show (if (Question.mapNext n).forced=true then _ else _)
 split
 ·exact h 0 hn
 exact fun q=>h _ (Nat.mod_lt _ hn)
section
variable {X:Cx} {o:Option JS}
theorem jmR{es:Array MapEntry}(hm:X.ro r=some (.map es ck))(hj:∀b,J X (nj [] (.pointer (some ⟨b,0,none⟩)) [(b,uB r ck [])] o))(hv:fg X.n (mrV X.P X.n) o=some (.map (some r)):=by kernel_rfl)(hB:dS [] o=some []:=by kernel_rfl):J X o:=by
 refine jS (Φ:=fun v L'=>∃b,v= .pointer (some ⟨b,0,none⟩)∧L'=[(b,uB r ck [])]) [] [] hv hB (fun p e hf=>?_) (fun v L' qi=>?_)
 ·unfold mrV at hf
  split at hf<;>try (cases hf;done)
  rename_i T x ay
  split at hf<;>try (cases hf;done)
  rename_i dM
  obtain⟨bw,tf⟩:=av dM
  refine⟨by rw[ay];simp,fun R Q E hQ=>?_⟩
  simp only[execOp,ay,Instr.range,aa,aX tf,aD hf]
  refine cA (.inl hm) rfl rfl ?_
  simp only[aa,ae,og]
  intro b hb
  exact hQ _ _ ⟨b,rfl,rfl⟩
 obtain⟨b,rfl,rfl⟩:=qi
 exact hj b
theorem jmN{kv:κ→Value}{F:List (κ×Value)}{es:Array MapEntry}(i:Nat)(hm:X.ro r=some (.map es ck))(hE:tb kv F es ck)
 (hT:∀k v e,(k,v)∈F→e∈cF es seen→e.key=kv k→e.val=v→J X (nj [i] (.tuple ⟨[.bool true,kv k,v]⟩) [(it,uB r ck (seen++[e.born]))] o))
 (hF:cF es seen=[]→J X (nj [i] (.tuple ⟨[.bool false]⟩) [(it,uB r ck seen)] o))
 (hv:fg X.n (nmV X.n) o=some (.pointer (some ⟨it,0,none⟩)):=by kernel_rfl)(hB:dS [i] o=some [(it,uB r ck seen)]:=by kernel_rfl):J X o:=by
 refine jS (Φ:=fun v L'=>(∃e,e∈cF es seen∧v= .tuple ⟨[.bool true,e.key,e.val]⟩∧L'=[(it,uB r ck (seen++[e.born]))])∨(cF es seen=[]∧v= .tuple ⟨[.bool false]⟩∧L'=[(it,uB r ck seen)])) [i] _ hv hB (fun p e hf=>?_) (fun v L' qi=>?_)
 ·unfold nmV at hf
  split at hf<;>try (cases hf;done)
  rename_i x ay
  refine⟨by rw[ay];simp,fun R Q E hQ=>?_⟩
  simp only[execOp,ay,Instr.next,aa,aD hf]
  have hs:(⟨X.ro,[(it,uB r ck seen)]++R⟩:St).rw=[]++(it,uB r ck seen)::R:=rfl
  refine cA (o:=uB r ck seen) (.inr (by rw[hs];exact fD)) rfl rfl ?_
  simp only[uB,aa]
  refine cA (.inl hm) rfl rfl ?_
  simp only[aa]
  have hb:=hE.2.2
  have bS:¬((!(⟨seen⟩:Array Nat).isEmpty&& !es.isEmpty&&es.all (·.born≥ck))=true):=by
   intro h
   simp only[Bool.and_eq_true,Bool.not_eq_true',Array.all_eq_true,decide_eq_true_eq] at h
   obtain⟨⟨_,h1⟩,h2⟩:=h
   have uU:0 <es.size:=by
    rcases Nat.eq_zero_or_pos es.size with h0|h0
    ·simp[Array.isEmpty,h0] at h1
    exact h0
   have:=h2 0 uU
   have:=hb es[0] (by simp)
   omega
  rw[if_neg bS]
  have xS:(es.filter fun e=> !(⟨seen⟩:Array Nat).contains e.born)=⟨cF es seen⟩:=by
   rcases es with ⟨l⟩
   simp[cF]
  have hold:((⟨cF es seen⟩:Array MapEntry).filter fun e=>decide (e.born <ck))=⟨cF es seen⟩:=by
   have:(cF es seen).filter (fun e=>decide (e.born <ck))=cF es seen:=List.filter_eq_self.2 fun e he=>decide_eq_true (hb e (List.mem_filter.1 he).1)
   simp[this]
  have sP:((⟨cF es seen⟩:Array MapEntry).filter fun e=>decide (e.born≥ck))=⟨[]⟩:=by
   have:(cF es seen).filter (fun e=>decide (e.born≥ck))=[]:=List.filter_eq_nil_iff.2 fun e he=>by
    have:=hb e (List.mem_filter.1 he).1
    simp only[decide_eq_true_eq];omega
   simp[this]
  simp only[xS,hold,sP]
  cases hl:cF es seen with
  |nil=>
   simp only[List.isEmpty_toArray,List.isEmpty_nil,if_true]
   refine IY (by simp) fun j hj=>?_
   have hc:(#[(none:Option MapEntry)]++((⟨[]⟩:Array MapEntry)++⟨[]⟩).map some)[j]?=some none:=by
    simp at hj
    subst hj;simp
   show bN X.P ((match (#[(none:Option MapEntry)]++((⟨[]⟩:Array MapEntry)++⟨[]⟩).map some)[j]? with|some (some e)=>_|some none=>_|none=>_) >>= fun v=>pure (Next.value v)) _ _ _
   rw[hc]
   exact hQ _ _ (.inr ⟨hl,rfl,rfl⟩)
  |cons e0 l=>
   have hem:(⟨e0::l⟩:Array MapEntry).isEmpty=false:=by simp
   simp only[hem,Bool.false_eq_true,if_false]
   have GC:(#[]++((⟨e0::l⟩:Array MapEntry)++⟨[]⟩).map some:Array (Option MapEntry))=⟨(e0::l).map some⟩:=by simp
   rw[GC]
   refine IY (by simp) fun k cG=>?_
   have cG:k <(e0::l).length:=by simpa using cG
   have hk:(⟨(e0::l).map some⟩:Array (Option MapEntry))[k]?=some (some (e0::l)[k]):=by
    rw[List.getElem?_toArray,List.getElem?_map,List.getElem?_eq_getElem cG];rfl
   show bN X.P ((match (⟨(e0::l).map some⟩:Array (Option MapEntry))[k]? with|some (some e)=>_|some none=>_|none=>_) >>= fun v=>pure (Next.value v)) _ _ _
   rw[hk]
   simp only[aa]
   have ni:(⟨X.ro,[(it,Obj.mapIter (some r) ck ⟨seen⟩ ck)]++R⟩:St).rw=[]++(it,Obj.mapIter (some r) ck ⟨seen⟩ ck)::R:=rfl
   refine eo (o:= .mapIter (some r) ck ((⟨seen⟩:Array Nat).push (e0::l)[k].born) ck) rfl ni rfl ?_
   have hp:(⟨seen⟩:Array Nat).push (e0::l)[k].born=⟨seen++[(e0::l)[k].born]⟩:=by simp
   rw[hp]
   have:=hQ (.tuple ⟨[.bool true,(e0::l)[k].key,(e0::l)[k].val]⟩) [(it,uB r ck (seen++[(e0::l)[k].born]))] (.inl ⟨_,by rw[hl];exact List.getElem_mem cG,rfl,rfl⟩)
   exact this
 rcases qi with ⟨e,he,rfl,rfl⟩| ⟨h1,rfl,rfl⟩
 ·have:(e.key,e.val)∈F.map (fun x=>(kv x.1,x.2)):=by
   rw[←hE.1];exact List.mem_map_of_mem (f:=fun e:MapEntry=>(e.key,e.val)) (List.mem_filter.1 he).1
  obtain⟨⟨k,v⟩,h1,h2⟩:=List.mem_map.1 this
  simp only[Prod.mk.injEq] at h2
  have:=hT k v e h1 he h2.1.symm h2.2.symm
  rwa[h2.1,h2.2] at this
 exact hF h1
theorem jmE{kv:κ→Value}{F:List (κ×Value)}{es:Array MapEntry}{e:MapEntry}{k:κ}{v:Value}(i:Nat)(hm:X.ro r=some (.map es ck))(hE:tb kv F es ck)(he:e∈cF es seen)(hk:e.key=kv k)(hvl:e.val=v)
 (hj:J X (nj [i] (.tuple ⟨[kv k,v]⟩) [(it,uB r ck (seen++[e.born]))] o))
 (hv:fg X.n (enV X.n) o=some (.pointer (some ⟨it,0,none⟩)):=by kernel_rfl)(hB:dS [i] o=some [(it,uB r ck (seen++[e.born]))]:=by kernel_rfl):J X o:=by
 refine jS (Φ:=fun w L'=>w= .tuple ⟨[kv k,v]⟩∧L'=[(it,uB r ck (seen++[e.born]))]) [i] _ hv hB (fun p en hf=>?_) (fun w L' qi=>?_)
 ·unfold enV at hf
  split at hf<;>try (cases hf;done)
  rename_i x ay
  refine⟨by rw[ay];simp,fun R Q E hQ=>?_⟩
  simp only[execOp,ay,Instr.entry,aa,aD hf]
  have hs:(⟨X.ro,[(it,uB r ck (seen++[e.born]))]++R⟩:St).rw=[]++(it,uB r ck (seen++[e.born]))::R:=rfl
  refine cA (o:=uB r ck (seen++[e.born])) (.inr (by rw[hs];exact fD)) rfl rfl ?_
  have rX:(⟨seen++[e.born]⟩:Array Nat).back?=some e.born:=by simp[Array.back?]
  simp only[uB,rX,aa]
  refine cA (.inl hm) rfl rfl ?_
  have hfe:es.find? (fun x=>x.born==e.born)=some e:=by
   rcases es with ⟨l⟩
   have WC:e∈l:=(List.mem_filter.1 he).1
   have lY:(l.map (·.born)).Nodup:=hE.2.1
   simp only[List.find?_toArray]
   clear hm hE he hj hv hB hs hQ
   induction l with
   |nil=>cases WC
   |cons y l ih=>
    simp only[List.map_cons,List.nodup_cons,List.mem_map,not_exists,not_and] at lY
    rcases List.mem_cons.1 WC with rfl|h
    ·simp
    have:y.born≠e.born:=fun h2=>lY.1 e h h2.symm
    rw[List.find?_cons_of_neg (by simpa using this)]
    exact ih h lY.2
  simp only[bne_self_eq_false,Bool.false_eq_true,if_false,hfe,ae,aa]
  exact hQ _ _ ⟨by rw[hk,hvl],rfl⟩
 obtain⟨rfl,rfl⟩:=qi
 exact hj
end
theorem SR{kv:κ→Value}{F:List (κ×Value)}{es:Array MapEntry}(hE:tb kv F es ck){e x:MapEntry}(he:e∈cF es seen)(hx:x∈cF es seen):x=e∨x∈cF es (seen++[e.born]):=by
 by_cases h:x.born=e.born
 ·left
  have lY:=hE.2.1
  have h1:=(List.mem_filter.1 he).1
  have h2:=(List.mem_filter.1 hx).1
  generalize es.toList=l at lY h1 h2
  induction l with
  |nil=>cases h1
  |cons y l ih=>
   simp only[List.map_cons,List.nodup_cons,List.mem_map,not_exists,not_and] at lY
   rcases List.mem_cons.1 h1 with k1|k1
   ·rcases List.mem_cons.1 h2 with k2|k2
    ·rw[k1,k2]
    exact absurd (by rw[h,k1]) (lY.1 x k2)
   rcases List.mem_cons.1 h2 with k2|k2
   ·exact absurd (by rw[←h,k2]) (lY.1 e k1)
   exact ih lY.2 k1 k2
 exact .inr (YH.2 ⟨hx,h⟩)
def msV(P:Program)(n:Nat)(p:Oper)(e:Env):Option (TypeId×List Value):=match p.op with
 | .makeSlice T x y=>match aW P T with
  |some ⟨.slice E,_,_,_⟩=>match aW P E with
   |some te=>match bh n e x,bh n e y with
    |some (.int .i64 a),some (.int .i64 b)=>bif (decide (a=2)&&decide (b=2))&&(Nat.beq te.size 1&&Nat.ble (tz P E) 65536) then some (E,te.zero) else none
    |_,_=>none
   |none=>none
  |_=>none
 |_=>none
theorem jmS{E:TypeId}{z:Value}(hj:∀b,J X (nj [] (.slice (some ⟨b,0,none⟩) 2 2) [(b,.cells ⟨[z,z]⟩ E (0,0))] o))(hv:fg X.n (msV X.P X.n) o=some (E,[z]):=by kernel_rfl)(hB:dS [] o=some []:=by kernel_rfl):J X o:=by
 refine jS (Φ:=fun v L'=>∃b,v= .slice (some ⟨b,0,none⟩) 2 2∧L'=[(b,.cells ⟨[z,z]⟩ E (0,0))]) [] [] hv hB (fun p e hf=>?_) (fun v L' qi=>?_)
 ·unfold msV at hf
  split at hf<;>try (cases hf;done)
  rename_i T x y ay
  split at hf<;>try (cases hf;done)
  rename_i E' _ _ _ dM
  split at hf<;>try (cases hf;done)
  rename_i te tV
  split at hf<;>try (cases hf;done)
  rename_i a b hx hy
  cases hc:((decide (a=2)&&decide (b=2))&&(Nat.beq te.size 1&&Nat.ble (tz X.P E') 65536)) with
  |false=>rw[hc] at hf;cases hf
  |true=>
   rw[hc] at hf
   simp only[cond_true,Option.some.injEq,Prod.mk.injEq] at hf
   obtain⟨rfl,hz⟩:=hf
   simp only[Bool.and_eq_true,decide_eq_true_eq,Nat.beq_eq,Nat.ble_eq] at hc
   obtain⟨⟨rfl,rfl⟩,uU,hby⟩:=hc
   obtain⟨byT,tf⟩:=av dM
   obtain⟨bw,jP⟩:=av tV
   obtain⟨i,hi,hi1,Tu,hi3⟩:=jP.info
   have alH:bw≤65536:=by simp only[tz,hi] at hby;omega
   have atS:¬((bw:Int)*2>2^48):=by omega
   have w2:IntKind.i64.wrap 2=2:=kz 2 (by omega)
   have iM:(Nu [z] te.agg).cells=⟨[z]⟩:=by rw[←hz];exact dY jP
   have GC:((Array.range ((2:Int).toNat*1)).map fun x=>(⟨[z]⟩:Array Value)[x % (⟨[z]⟩:Array Value).size]!)=⟨[z,z]⟩:=by apply Array.ext';simp[Nat.mod_one,List.range,List.range.loop]
   refine⟨by rw[ay];simp,fun R Q E hQ=>?_⟩
   simp only[execOp,ay,Instr.makeSlice,aD hx,aD hy,asInt,asIntOf,aa,aX tf,ae,nC hi,Tu,w2,atS,show ¬((2:Int) <0) by omega,show ¬((2:Int)>2) by omega,decide_false,Bool.or_self,Bool.false_eq_true,if_false]
   refine su ?_
   simp only[aa,cd jP,uU,show ¬((2:Int).toNat*1=0) by decide,if_false,j5 jP,ae,hz,iM,GC,jm]
   intro b hb
   exact hQ _ _ ⟨b,rfl,rfl⟩
 obtain⟨b,rfl,rfl⟩:=qi
 exact hj b
def amz(body:Code):Option JS→Option (JS×Nat)
 |some ⟨.fin .normal,e,.b c oc:: .b b (.loop r)::w,kn⟩=>match r.state with
  | .ready=>some (⟨.code body [],e,.b c oc:: .b b (.loop {r with state:= .busy})::w,kn⟩,b)
  |_=>none
 |_=>none
theorem aAg{ro:Nat→Option Obj}(h:J (X.re bl ro Φ) (Eh (amz body o)))(h1:R9 (amz body o)=some bl:=by kernel_rfl):J (X.rd bl ro Φ body) o:=by
 unfold amz at h h1
 split at h<;>try (unfold Eh at h;exact h.elim)
 rename_i e c oc b r w kn
 split at h<;>try (unfold Eh at h;exact h.elim)
 rename_i bS
 unfold R9 at h1
 unfold Eh at h
 simp only[bS,Option.some.injEq] at h1
 subst h1
 intro bV
 have hw:=h bV
 simp only[JP,Cx.rd,Hs,CQ]
 refine⟨[(c,oc)],r,den w,by rw[iI,iI];rfl,bS,?_⟩
 simp only[JP,iI] at hw
 exact hw
theorem aAc{hm:P.follows .mixedOrders=true}{ro:Nat→Option Obj}(own:List Sg)(kn:Cells)(hk:Knows ro kn)(h:J (XM P hm f ro R) (kS P f args own kn)):Fn (CP P) P f ⟨args⟩ ⟨ro,den own⟩ R:=by
 unfold kS at h
 split at h<;>try exact h.elim
 rename_i fn hf
 split at h<;>try exact h.elim
 rename_i c hc
 cases hl:Nat.ble args.length fn.ntmps with
 |false=>rw[hl] at h;exact h.elim
 |true=>
  rw[hl] at h
  have uC:sV P f=fn:=by simp only[sV,hf]
  have:=h hk
  simp only[JP,XM,KQ,uC] at this
  refine Ka eY hf hc ?_
  have he:=kO args fn.ntmps (Nat.le_of_ble_eq_true hl)
  rw[←he] at this
  exact this
section
variable {X:Cx} {o:Option JS}
theorem aOr(hq:QM X R uh)(v:Value)(pm hs ps:List Nat)(Y:Cells)(fJ:Sub pz X.ro)(hR:R (.returned v) ⟨pz,Y⟩)(h0:dS pm o=some (mk uh):=by kernel_rfl)(h1:sS (jQ X.P X.n X.fn hs (Cw pm o))=some v:=by kernel_rfl)(h2:Rw (jQ X.P X.n X.fn hs (Cw pm o))=Rv (jQ X.P X.n X.fn hs (Cw pm o)):=by kernel_rfl)(h3:dS ps (Cw pm o)=some Y:=by kernel_rfl)(h4:Cq o=true:=by kernel_rfl):J X o:=by
 obtain⟨ex,e,w,kn,rfl,hex⟩:=sX h4
 simp only[Cw,jQ] at h1 h2 h3
 cases hr:BE X.P X.n e (dz pm 0 w) kn.c hs (sV X.P X.fn).results.toList with
 |none=>simp only[hr,sS] at h1;cases h1
 |some x=>
  rcases x with ⟨vs,q⟩
  simp only[hr,sS,Option.some.injEq,Rw,Rv] at h1 h2
  intro bV
  have rV:=tE bV hr (lZ h2)
  have hp:=bD h3
  have EL:=Od (s0:=⟨pz,Y⟩) (R:=R) hex rV h1 (dL hp fJ) hR
  have ht:bN X.P (results (sV X.P X.fn) (A X.n e X.D).tmps) ⟨X.ro,den (dz pm 0 w)⟩ (fun v s'=>∃s0,s0.le s'∧R (.returned v) s0) (fun _ _=>False):=by
   rcases hex with rfl|rfl<;>exact EL.2
  show X.Q ex (A X.n e X.D) ⟨X.ro,den w⟩
  rw[hq.q]
  have hm:∃uh rest,(A X.n e X.D).defers=uh.map eg∧(den w).Perm (mk uh++rest)∧bN X.P (results (sV X.P X.fn) (A X.n e X.D).tmps) ⟨X.ro,rest⟩ (fun v s'=>∃s0,s0.le s'∧R (.returned v) s0) (fun _ _=>False):=⟨uh,_,hq.d,bD h0,ht⟩
  rcases hex with rfl|rfl<;>exact hm
end
attribute [irreducible] mrV nmV enV uB msV amz
end Go.L
