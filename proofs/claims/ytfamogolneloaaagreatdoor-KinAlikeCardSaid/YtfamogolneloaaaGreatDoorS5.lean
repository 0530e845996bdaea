/- Part 5 of the proof. -/
import Derived.Test.YtfamogolneloaaaGreatDoorS4
set_option maxRecDepth 100000
set_option linter.all false
namespace Go.L
open Go Go.Conc
variable {Φ:Value→Cells→Prop} {P:Program} {R:Ending→St→Prop} {f g:FuncId} {todo seen uJ:List Nat} {κ ι α β:Type} {El:(Nat→Option Obj)→Nat→List Value→Cells→Prop} {pZ aK:Nat→Option Obj} {T:Goroutine→St→Prop} {vs ca args z l fi:List Value} {o o1:Option JS} {i n r bl sz bD bd off b id ck dep N q it:Nat} {k Ag:List Item} {s s':St} {ats:Array TypeId} {X:Cx} {tm:Array Value} {cs:List Frame} {fn:Func} {C:Class} {main ag:Bool} {fz:Nat×Nat} {rest e:Env} {as body:Code} {x y:Operand} {p:Oper} {fr:Cells} {t U:TypeId}
section
variable {X:Cx} {o:Option JS}
def nxV(n:Nat)(p:Oper)(e:Env):Option Nat:=match p.op with
 | .next x true=>match bp n e x with
  |some (.pointer (some ⟨r,0,none⟩))=>some r
  |_=>none
 |_=>none
theorem aev(h:nxV n p e=some r):∃x,p.op= .next x true∧bp n e x=some (.pointer (some ⟨r,0,none⟩)):=by
 unfold nxV at h
 split at h<;>try (cases h;done)
 rename_i aA
 split at h<;>try (cases h;done)
 rename_i hx
 cases h
 exact⟨_,aA,hx⟩
def TA(i:Nat)(v:Value)(b:Nat)(ob:Obj):Option JS→Option JS
 |some ⟨.ops ops (j::todo) k,e,w,kn⟩=>match ops[j]? with
  |some p=>some ⟨.ops ops todo k,upd p.dst v e,.b b ob::dL [i] 0 w,kn⟩
  |none=>none
 |_=>none
theorem jnA{b:ByteArray}{p:Nat}{c:UInt8}(r i:Nat)(hp:b.data.toList[p]?=some c) (ha:c.toNat <128) (hj:J X (TA i (.tuple ⟨[.bool true,.int .i64 p,.int .i32 c.toNat]⟩) r (.stringIter b (p+1)) o))
 (hv:fx X.n (nxV X.n) o=some r:=by kernel_rfl) (hB:eA [i] o=some [(r,.stringIter b p)]:=by kernel_rfl):J X o:=by
 obtain⟨ops,i0,todo,kk,ev,w0,kn,q,rfl,ho,hw,hc⟩:=dG hv
 obtain⟨x,aA,hx⟩:=aev hc
 intro bY
 rcases q with ⟨dst,op,ty,pos,db,g⟩
 dsimp only at aA;subst aA
 refine wm X.hC (bL hB) (al1 X.hC ho hw hx hp ha ?_)
 simp only[TA,ho] at hj
 have:=hj bY
 simp only[JP,iW] at this
 exact this
theorem jnZ{b:ByteArray}{p:Nat}(r i:Nat)(hp:b.data.toList[p]?=none) (hj:J X (TA i (.tuple ⟨[.bool false]⟩) r (.stringIter b p) o))
 (hv:fx X.n (nxV X.n) o=some r:=by kernel_rfl) (hB:eA [i] o=some [(r,.stringIter b p)]:=by kernel_rfl):J X o:=by
 obtain⟨ops,i0,todo,kk,ev,w0,kn,q,rfl,ho,hw,hc⟩:=dG hv
 obtain⟨x,aA,hx⟩:=aev hc
 intro bY
 rcases q with ⟨dst,op,ty,pos,db,g⟩
 dsimp only at aA;subst aA
 refine wm X.hC (bL hB) (al0 X.hC ho hw hx hp ?_)
 simp only[TA,ho] at hj
 have:=hj bY
 simp only[JP,iW] at this
 exact this
theorem jcG{own:Cells}{Φ:Value→(Nat→Option Obj)→Cells→Prop}(ps:List Nat)(hf:FnG X.P f vs X.ro own Φ)(hj:∀v aK Y,Sub X.ro aK→Φ v aK Y→J (X.at aK) (nH ps v Y o))(h1:fx X.n (yG X.P X.n) o=some (f,vs):=by kernel_rfl)(h2:eA ps o=some own:=by kernel_rfl):J X o:=by
 obtain⟨ops,i,todo,k,e,w,kn,p,rfl,ho,hw,hc⟩:=dG h1
 obtain⟨ff,x,xs,at_,fi,ca,ws,aA,hx,sB,rfl⟩:=qZ hc
 intro bY
 rcases p with ⟨dst,op,ty,pos,db,g⟩
 dsimp only at aA;subst aA
 have hp:=bL h2
 refine ur (fi:=⟨fi⟩) (ca:=⟨ca⟩) (ws:=fi++ws++ca) X.hC ho hw hx ff sB (Sq fi ws ca) (Fn.weaken X.hC (FnG.use (s:=⟨X.ro,den w⟩) hp hf)) (fun v' s' hr=>?_) (fun ch s' hr=>by obtain⟨_,_,_,e,_⟩:=hr;cases e) (fun s' hr=>by obtain⟨_,_,_,e,_⟩:=hr;cases e)
 obtain⟨v,aK,Y,hv,hs,qF,hle⟩:=hr
 cases hv
 have:=hj _ aK Y hs qF
 rw[oC ho] at this
 have:=this (bY.up hs)
 simp only[JP,gI,IC] at this
 exact this.more X.hC hle
def aiS(n:Nat)(p:Oper)(e:Env):Option (FuncId×List Value):=match p.op with
 | .call ⟨.value (.func f),xs,_⟩=>match yj n e xs.toList with
  |some vs=>some (f,vs)
  |none=>none
 |_=>none
theorem NU(h:aiS n p e=some (f,vs)):∃xs at_,p.op= .call ⟨.value (.func f),xs,at_⟩∧yj n e xs.toList=some vs:=by
 unfold aiS at h
 split at h<;>try (cases h;done)
 rename_i aA
 split at h<;>try (cases h;done)
 rename_i hx
 cases h
 exact⟨_,_,aA,hx⟩
theorem jib{a:ByteArray}{b:Int}(ef:EF X.P f Extern.BytealgIndexByte.indexByte)(hj:J X (kB (.int .i64 (QH a b.toNat.toUInt8)) o))(hv:dP X.n (aiS X.n) o=some (f,[.string a,.int .u8 b]):=by kernel_rfl):J X o:=by
 refine jGS hv (fun s p e _ hf=>?_) hj
 obtain⟨xs,at_,aA,hx⟩:=NU hf
 rcases p with ⟨dst,op,ty,pos,db,g⟩
 dsimp only at aA;subst aA
 exact⟨fun ops i tz rest hw s' hs todo Q hk=>aeq X.hC tz hw ef (xN hx) hk,fun hk=>by cases hk⟩
theorem aQL{v:Value}(ef:EF X.P f Extern.AbiNoEscape.same)(hj:J X (kB v o))(hv:dP X.n (aiS X.n) o=some (f,[v]):=by kernel_rfl):J X o:=by
 refine jGS hv (fun s p e _ hf=>?_) hj
 obtain⟨xs,at_,aA,hx⟩:=NU hf
 rcases p with ⟨dst,op,ty,pos,db,g⟩
 dsimp only at aA;subst aA
 exact⟨fun ops i tz rest hw s' hs todo Q hk=>alZ X.hC tz hw ef (xN hx) hk,fun hk=>by cases hk⟩
def mmV(n:Nat)(p:Oper)(e:Env):Option (Bool×Value×Value):=match p.op with
 | .call ⟨.builtin .min,⟨[x,y]⟩,⟨[_,_]⟩⟩=>match bp n e x with
  |some v=>match bp n e y with
   |some w=>some (true,v,w)
   |none=>none
  |none=>none
 | .call ⟨.builtin .max,⟨[x,y]⟩,⟨[_,_]⟩⟩=>match bp n e x with
  |some v=>match bp n e y with
   |some w=>some (false,v,w)
   |none=>none
  |none=>none
 |_=>none
theorem jmn{k:IntKind}{a b:Int}(hj:J X (kB (.int k (min a b)) o))(hv:dP X.n (mmV X.n) o=some (true,.int k a,.int k b):=by kernel_rfl):J X o:=by
 refine SQ hv (fun s p e _ hf=>?_) hj
 unfold mmV at hf
 split at hf<;>try (cases hf;done)
 ·rename_i aA
  split at hf<;>try (cases hf;done)
  rename_i hx
  split at hf<;>try (cases hf;done)
  rename_i hy
  cases hf
  rcases p with ⟨dst,op,ty,pos,db,g⟩
  dsimp only at aA;subst aA
  exact fun s0 ops i tz rest hw s' hs todo Q hk=>ate X.hC tz hw (bk hx) (bk hy) hk
 split at hf<;>try (cases hf;done)
 split at hf<;>cases hf
theorem jmx{k:IntKind}{a b:Int}(hj:J X (kB (.int k (max a b)) o))(hv:dP X.n (mmV X.n) o=some (false,.int k a,.int k b):=by kernel_rfl):J X o:=by
 refine SQ hv (fun s p e _ hf=>?_) hj
 unfold mmV at hf
 split at hf<;>try (cases hf;done)
 ·split at hf<;>try (cases hf;done)
  split at hf<;>cases hf
 rename_i aA
 split at hf<;>try (cases hf;done)
 rename_i hx
 split at hf<;>try (cases hf;done)
 rename_i hy
 cases hf
 rcases p with ⟨dst,op,ty,pos,db,g⟩
 dsimp only at aA;subst aA
 exact fun s0 ops i tz rest hw s' hs todo Q hk=>atf X.hC tz hw (bk hx) (bk hy) hk
theorem jsx(i b off:Nat)(c l:List Value)(t:TypeId)(h1:∀v∈l,single v=true)(hb:Nat.ble (off+l.length) c.length=true)(hj:J X (TA i undef b (.cells ⟨dI c off l⟩ t (0,0)) o))(hv:fx X.n (alm X.P X.n) o=some (⟨b,off,none⟩,l,l.length):=by kernel_rfl)(h2:eA [i] o=some [(b,.cells ⟨c⟩ t (0,0))]:=by kernel_rfl):J X o:=by
 obtain⟨ops,i0,todo,kk,ev,w,kn,p,rfl,ho,hw,hc⟩:=dG hv
 obtain⟨T,x,y,d,bD,z,ag,u,aA,tf,hx,hy,hu⟩:=WC hc
 intro bY
 rcases p with ⟨dst,op,ty,pos,db,g⟩
 dsimp only at aA;subst aA
 refine wm X.hC (bL h2)<|ost X.hC ho hw tf hx hy hu rfl h1 (Nat.le_of_ble_eq_true hb) ?_
 simp only[TA,ho] at hj
 have:=hj bY
 simp only[JP,iW] at this
 exact this
def aiV(P:Program)(n:Nat)(p:Oper)(e:Env):Option (List Value×Int×Nat×Nat×Bool):=match p.op with
 | .index T x y=>match aZ P T with
  |some ⟨.array len E,_,_,_⟩=>match aZ P E with
   |some te=>match bp n e x with
    |some (.agg ⟨l⟩)=>match bp n e y with
     |some (.int _ ix)=>some (l,ix,len,te.size,te.agg)
     |_=>none
    |_=>none
   |none=>none
  |_=>none
 |_=>none
theorem jai{v:Value}(ix:Int)(len sz:Nat)(ag:Bool)(hi:0≤ix∧ix <len)(hp:Gy ag l (ix.toNat*sz) sz=some v)(hj:J X (kB v o))(hv:dP X.n (aiV X.P X.n) o=some (l,ix,len,sz,ag):=by kernel_rfl):J X o:=by
 refine SQ hv (fun s p e _ hf=>?_) hj
 unfold aiV at hf
 split at hf<;>try (cases hf;done)
 rename_i aA
 split at hf<;>try (cases hf;done)
 rename_i ee
 split at hf<;>try (cases hf;done)
 rename_i te uy
 split at hf<;>try (cases hf;done)
 rename_i hx
 split at hf<;>try (cases hf;done)
 rename_i hy
 cases hf
 obtain⟨b1,tf⟩:=aw ee
 obtain⟨b2,rh⟩:=aw uy
 rcases p with ⟨dst,op,ty,pos,db,g⟩
 dsimp only at aA;subst aA
 exact fun s0 ops i tz rest hw s' hs todo Q hk=>aer X.hC tz hw tf rh (bk hx) (bk hy) hi hp hk
def Bz(m:Nat)(e:Env):Option JS→Option JS
 |some ⟨.ops ops todo k,_,w,kn⟩=>some ⟨.ops ops (todo.drop m) k,e,w,kn⟩
 |_=>none
theorem jj(m:Nat)(e:Env)(hj:∀rest,J X (Bz m (e++rest) o))(h:(∀o',Bz 0 [] o'=Bz m [] o→uW (pU e) o'=some e→J X o')→J X o)(hd:lkE (pU e) e=some e:=by kernel_rfl):J X o:=by
 refine h fun o' h1 h2=>?_
 cases o' with
 |none=>simp[uW] at h2
 |some s'=>
  rcases s' with ⟨p',e',w',kn'⟩
  cases o with
  |none=>exact(hj []).elim
  |some s=>
   rcases s with ⟨p,e0,w,kn⟩
   cases p' with
   |ops bdR acS k'=>
    cases p with
    |ops ops todo k=>
     simp only[Bz,Option.some.injEq,JS.mk.injEq,Pos.ops.injEq,List.drop_zero,true_and] at h1
     obtain⟨⟨rfl,rfl,rfl⟩,rfl,rfl⟩:=h1
     rw[tt] at h2
     obtain⟨r,hr⟩:=gA (n:=X.n) (D:=X.D) (kV h2) (kV hd)
     intro bY
     have:=hj r bY
     show ab _ _ _ _ _ _ (A X.n e' X.D) _
     rw[hr]
     exact this
    |_=>simp[Bz] at h1
   |_=>cases p<;>simp[Bz] at h1<;>exact(hj []).elim
end
attribute [irreducible] Bz TA
section
variable {X:Cx} {o:Option JS}
def atx(i:Nat)(rest:Env)(todo:List Nat):Option JS→Option JS
 |some ⟨.H0 ops base Pl _ k,_,w,kn⟩=>some ⟨.ops ops (i::todo) k,cw ops base i Pl++rest,w,kn⟩
 |_=>none
def LK(X:Cx)(i:Nat)(o:Option JS)(rest:Env)(todo:List Nat):Prop:=match o with
 |some ⟨.H0 ops base Pl Sl k,_,w,kn⟩=>∀v s',(∀j u,(j,u)∈pending ops i Sl→tb ops X.n base Pl j=false→(∀B,(j,B)∈kn.nd→Ext ⟨X.ro,[]⟩ s'→(∀x∈B,s'.has x.1 x.2)→fe X.C X.fn X.aB ops X.n X.D j u (cw ops base j Pl) s')→fe X.C X.fn X.aB ops X.n X.D j u (cw ops base j Pl) ⟨X.ro,den w⟩→fe X.C X.fn X.aB ops X.n X.D j u (cw ops base j Pl) s')→
  (PF X kn.nd ops base ((i,v)::Pl) (pending ops i Sl)→tL X.C X.fn X.aB ops X.n X.D base ((i,v)::Pl) (pending ops i Sl) (KQ X k) s')→ab X.C X.fn X.aB ops todo (KQ X k) (A X.n (upd (aQ ops i) v (cw ops base i Pl++rest)) X.D) s'
 |_=>True
def Xw(is:List Nat):Option JS→Bool
 |some ⟨.H0 ops _ Pl Sl _,_,_,_⟩=>fP ops&&((is.all fun i=>Nat.blt i ops.size&& !ba i (ak Pl))&&(nodupB (ak Pl)&&(pG ops (ak Pl)&&(fQ (ak Sl) (ak Pl)&&(aek ops (ak Pl) is&& !is.isEmpty)))))
 |_=>false
def aj0(X:Cx)(o:Option JS):List Nat→Prop
 | []=>True
 |i::is=>(∀rest todo,LK X i o rest todo→J X (atx i rest todo o))∧aj0 X o is
theorem mX(is:List Nat)(h:aj0 X o is)(hb:Xw is o=true:=by kernel_rfl):J X o:=by
 unfold Xw at hb
 split at hb<;>try (cases hb;done)
 rename_i ops base Pl Sl k e w kn
 simp only[Bool.and_eq_true,Bool.not_eq_true'] at hb
 obtain⟨h1,h2,h3,h4,h5,h6,h7⟩:=hb
 intro bY hpf
 refine abB is h1 h2 h3 h4 h5 h6 ?_ h7
 clear h6 h7
 induction is with
 |nil=>trivial
 |cons i is ih=>
  simp only[List.all_cons,Bool.and_eq_true,Bool.not_eq_true'] at h2
  refine⟨fun rest todo hk=>h.1 rest todo (fun v s' hp ha=>?_) bY,ih h.2 h2.2⟩
  have jz:∀x,x∈pending ops i Sl→x∈Sl:=fun x hx=>(List.mem_filter.1 hx).1
  refine hk v s' (fun j u IP bW=>?_) (ha ⟨fun j u IP hpb s0=>?_,fun j u B IP hB s0 G7 vo=>?_⟩)
  ·cases hpb:tb ops X.n base Pl j with
   |true=>exact hpf.1 j u (jz _ IP) hpb s'
   |false=>exact hp j u IP hpb (fun B hB hx hb=>hpf.2 j u B (jz _ IP) hB s' hx hb) bW
  ·have OG:j∈ak Sl:=aP.2 ⟨u,jz _ IP⟩
   have q9:i∉bu ops j:=fun hd=>by
    have h8:=bO.1 h5 j OG
    have h9:=bO.1 (List.all_eq_true.1 h4 j h8) i hd
    rw[aJ.2 h9] at h2;exact absurd h2.1.2 (by simp)
   rw[cY q9]
   exact hpf.1 j u (jz _ IP) (by simp only[tb,cY q9] at hpb;exact hpb) s0
  have OG:j∈ak Sl:=aP.2 ⟨u,jz _ IP⟩
  have q9:i∉bu ops j:=fun hd=>by
   have h8:=bO.1 h5 j OG
   have h9:=bO.1 (List.all_eq_true.1 h4 j h8) i hd
   rw[aJ.2 h9] at h2;exact absurd h2.1.2 (by simp)
  rw[cY q9]
  exact hpf.2 j u B (jz _ IP) hB s0 G7 vo
theorem aM(i:Nat)(h:∀rest todo,LK X i o rest todo→J X (atx i rest todo o))(hb:Xw [i] o=true:=by kernel_rfl):J X o:=mX [i] ⟨h,trivial⟩ hb
def VS(i:Nat):Option JS→Option JS→Option JS
 |some ⟨.H0 ops base Pl Sl k,e,_,kn⟩,some ⟨.ops _ _ _,e',w',kn'⟩=>some ⟨.H0 ops base ((i,match aQ ops i with
  |some d=>(ij e' d).getD undef
  |none=>undef)::Pl) (pending ops i Sl) k,e,w',⟨kn'.c,kn.nd⟩⟩
 |_,_=>none
def bkL(i:Nat)(rest:Env)(todo:List Nat):Option JS→Option JS→Option JS
 |some ⟨.H0 ops base Pl _ k,_,_,_⟩,some ⟨_,e',w',kn'⟩=>some ⟨.ops ops todo k,upd (aQ ops i) (match aQ ops i with
  |some d=>(ij e' d).getD undef
  |none=>undef) (cw ops base i Pl++rest),w',kn'⟩
 |_,_=>none
theorem VM(h:bkL i rest todo o o1=o1)(h1:o1≠none):∃ops base Pl Sl k e w kn v w' kn',o=some ⟨.H0 ops base Pl Sl k,e,w,kn⟩∧o1=some ⟨.ops ops todo k,upd (aQ ops i) v (cw ops base i Pl++rest),w',kn'⟩:=by
 unfold bkL at h
 split at h
 ·simp only[Option.some.injEq,JS.mk.injEq] at h
  obtain⟨rfl,h,_⟩:=h
  exact⟨_,_,_,_,_,_,_,_,_,_,_,rfl,by rw[h]⟩
 exact(h1 h.symm).elim
def rwO:Option JS→List Sg
 |some s=>s.rw
 |none=>[]
theorem bI(hK:LK X i o rest todo)(is:List Nat)(hj:J X (VS i o o1))(hc:bkL i rest todo o o1=o1:=by kernel_rfl)(h2:rB is o1=some (rwO o):=by kernel_rfl):J X o1:=by
 by_cases eg:o1=none
 ·subst eg
  cases o with
  |none=>exact hj
  |some s=>rcases s with ⟨p,e,w,kn⟩;cases p<;>exact hj
 obtain⟨kD,base,Pl,Sl,k,e,w,kn,v,w',kn',rfl,rfl⟩:=VM hc eg
 intro bY
 have hp:=lY h2
 have hv:(match aQ kD i with
  |some d=>(ij (upd (aQ kD i) v (cw kD base i Pl++rest)) d).getD undef
  |none=>undef)=v∨aQ kD i=none:=by
  cases hd:aQ kD i with
  |none=>exact .inr rfl
  |some d=>left;simp[upd,ij]
 have hj:=hj bY
 simp only[VS,JP] at hj
 have key:=hK (match aQ kD i with
  |some d=>(ij (upd (aQ kD i) v (cw kD base i Pl++rest)) d).getD undef
  |none=>undef) ⟨X.ro,den w'⟩ (fun j u _ _ _ hs=>hs.ext fun b ob hb=>?_) hj
 ·show ab _ _ _ _ _ _ _ _
  rcases hv with hv|hv
  ·rw[hv] at key;exact key
  rw[hv] at key ⊢;exact key
 rcases hb with hb|hb
 ·exact .inl hb
 exact .inr (hp.mem_iff.2 (List.mem_append_left _ hb))
def ad5(i:Nat):Option JS→Bool
 |some ⟨.H0 ops _ _ Sl _,_,_,_⟩=>(pending ops i Sl).isEmpty
 |_=>false
theorem eo(hK:LK X i o rest todo)(hj:J X (VS i o o1))(hc:bkL i rest todo o o1=o1:=by kernel_rfl)(h2:ad5 i o=true:=by kernel_rfl):J X o1:=by
 by_cases eg:o1=none
 ·subst eg
  cases o with
  |none=>exact hj
  |some s=>rcases s with ⟨p,e,w,kn⟩;cases p<;>exact hj
 obtain⟨kD,base,Pl,Sl,k,e,w,kn,v,w',kn',rfl,rfl⟩:=VM hc eg
 intro bY
 have hv:(match aQ kD i with
  |some d=>(ij (upd (aQ kD i) v (cw kD base i Pl++rest)) d).getD undef
  |none=>undef)=v∨aQ kD i=none:=by
  cases hd:aQ kD i with
  |none=>exact .inr rfl
  |some d=>left;simp[upd,ij]
 have hj:=hj bY
 simp only[VS,JP] at hj
 have hpe:pending kD i Sl=[]:=by simpa [ad5] using h2
 have key:=hK (match aQ kD i with
  |some d=>(ij (upd (aQ kD i) v (cw kD base i Pl++rest)) d).getD undef
  |none=>undef) ⟨X.ro,den w'⟩ (fun j u IP=>by rw[hpe] at IP;cases IP) hj
 show ab _ _ _ _ _ _ _ _
 rcases hv with hv|hv
 ·rw[hv] at key;exact key
 rw[hv] at key ⊢;exact key
def ndG:List (Nat×Cells)→Nat→Option Cells
 | [],_=>none
 | (i,B)::l,j=>bif Nat.beq i j then some B else ndG l j
theorem Xm{j:Nat}{B:Cells}:∀ {l:List (Nat×Cells)},ndG l j=some B→(j,B)∈l
 | (i,C)::l,h=>by
  simp only[ndG] at h
  cases hb:Nat.beq i j with
  |true=>
   rw[hb] at h;simp only[cond_true,Option.some.injEq] at h;subst h
   have:=Nat.eq_of_beq_eq_true hb;subst this
   exact List.mem_cons_self
  |false=>rw[hb] at h;simp only[cond_false] at h;exact List.mem_cons_of_mem _ (Xm h)
structure Rk where
 a:List Value
 b:List Value
 c:List (Option Cells)
 d:List (Option Cells)
def aH5(ps:List Nat)(w:List Sg):Option Cells:=bif GC ps then (match PW ps w with
 |some x=>some (den x)
 |none=>none) else none
def rkL(P:Program)(n:Nat)(ops:Array Oper)(base:Env)(Pl:List (Nat×Value))(nd:List (Nat×Cells))(w:List Sg)(kn:Cells):List (List Nat)→List (Nat×Value)→Option Rk
 |_,[]=>some ⟨[],[],[],[]⟩
 |hs,(j,u)::r=>bif tb ops n base Pl j then rkL P n ops base Pl nd w kn hs r else (match hs with
  |h::hs=>match ndG nd j with
   |some B=>match rkL P n ops base Pl nd w kn hs r with
    |some ⟨a,b,c,d⟩=>some ⟨a,b,aH5 h w::c,some B::d⟩
    |none=>none
   |none=>match ops[j]? with
    |some p=>match wR ops n (cw ops base j Pl) p.guard with
     |some true=>match p.op with
      | .load T x=>match bp n (cw ops base j Pl) x with
       |some (.pointer (some ⟨b,off,none⟩))=>match BE w kn (h.headD 0) with
        |some (b',l)=>match ldv P T l off with
         |some v=>match rkL P n ops base Pl nd w kn hs r with
          |some ⟨a1,b1,c,d⟩=>some ⟨v:: .int .i64 b'::a1,u:: .int .i64 b::b1,c,d⟩
          |none=>none
         |none=>none
        |none=>none
       |_=>none
      |_=>none
     |_=>none
    |none=>none
  | []=>none)
theorem MA{ops:Array Oper}{base:Env}{Pl:List (Nat×Value)}{nd:List (Nat×Cells)}{w:List Sg}{kn:Cells}(bY:Knows X.ro kn):∀ {l:List (Nat×Value)} {hs:List (List Nat)} {k:Rk},rkL X.P X.n ops base Pl nd w kn hs l=some k→k.a=k.b→k.c=k.d→∀j u,(j,u)∈l→tb ops X.n base Pl j=false→
 (∀B,(j,B)∈nd→Ext ⟨X.ro,[]⟩ ⟨X.ro,den w⟩→(∀x∈B,(⟨X.ro,den w⟩:St).has x.1 x.2)→fe X.C X.fn X.aB ops X.n X.D j u (cw ops base j Pl) ⟨X.ro,den w⟩)→fe X.C X.fn X.aB ops X.n X.D j u (cw ops base j Pl) ⟨X.ro,den w⟩
 | [],_,_,_,_,_,j,u,h,_,_=>by cases h
 | (j0,u0)::r,hs,k,h,BX,hcd,j,u,hm,hpj,mw=>by
  simp only[rkL] at h
  cases hpb:tb ops X.n base Pl j0 with
  |true=>
   rw[hpb] at h;simp only[cond_true] at h
   rcases List.mem_cons.1 hm with h1|h1
   ·cases h1;rw[hpb] at hpj;cases hpj
   exact MA bY h BX hcd j u h1 hpj mw
  |false=>
   rw[hpb] at h;simp only[cond_false] at h
   split at h<;>try (cases h;done)
   rename_i h0 bB
   split at h
   ·rename_i B hB
    split at h<;>try (cases h;done)
    rename_i a b c d hr
    cases h
    simp only[List.cons.injEq] at hcd
    rcases List.mem_cons.1 hm with h1|h1
    ·cases h1
     refine mw B (Xm hB) NT fun x hx=> .inr ?_
     have hw:=hcd.1
     unfold aH5 at hw
     cases ho:GC h0 with
     |false=>rw[ho] at hw;cases hw
     |true=>
      rw[ho] at hw;simp only[cond_true] at hw
      split at hw<;>try (cases hw;done)
      rename_i y hy
      simp only[Option.some.injEq] at hw;subst hw
      exact(xG hy ho).mem_iff.2 (List.mem_append_left _ hx)
    exact MA bY hr BX hcd.2 j u h1 hpj mw
   split at h<;>try (cases h;done)
   rename_i p hp
   have E0:aQ ops j0=p.dst:=by simp only[aQ,hp,Option.bind_some]
   split at h<;>try (cases h;done)
   rename_i hg
   split at h<;>try (cases h;done)
   rename_i T x aA
   split at h<;>try (cases h;done)
   rename_i b0 off hx
   split at h<;>try (cases h;done)
   rename_i b' l hc
   split at h<;>try (cases h;done)
   rename_i v hv
   split at h<;>try (cases h;done)
   rename_i a1 b1 c d hr
   cases h
   simp only[List.cons.injEq,Value.int.injEq,true_and] at BX
   obtain⟨rfl,hb,BX⟩:=BX
   have hb:b'=b0:=by omega
   subst hb
   rcases List.mem_cons.1 hm with h1|h1
   ·cases h1
    obtain⟨t,fz,hh⟩:=z0 (X:=X) bY hc
    intro s1 hx1 rest todo Q hk
    rw[E0] at hk
    exact lZ X.hC hp rest (n9 hg rest) (by rw[aA];rfl) (ae2 aA hx hh hv) hx1 hk
   exact MA bY hr BX hcd j u h1 hpj mw
def rkO(P:Program)(n i:Nat)(hs:List (List Nat)):Option JS→Option JS→Option Rk
 |some ⟨.H0 ops base Pl Sl _,_,_,kn⟩,some s1=>rkL P n ops base Pl kn.nd s1.rw s1.kn.c hs (pending ops i Sl)
 |_,_=>none
def rkA:Option Rk→Option (List Value×List (Option Cells))
 |some k=>some (k.a,k.c)
 |none=>some ([],[])
def rkB:Option Rk→Option (List Value×List (Option Cells))
 |some k=>some (k.b,k.d)
 |none=>none
theorem gY(hK:LK X i o rest todo)(hs:List (List Nat))(hj:J X (VS i o o1))(hc:bkL i rest todo o o1=o1:=by kernel_rfl)(h2:rkA (rkO X.P X.n i hs o o1)=rkB (rkO X.P X.n i hs o o1):=by kernel_rfl):J X o1:=by
 by_cases eg:o1=none
 ·subst eg
  cases o with
  |none=>exact hj
  |some s=>rcases s with ⟨p,e,w,kn⟩;cases p<;>exact hj
 obtain⟨kD,base,Pl,Sl,k,e,w,kn,v,w',kn',rfl,rfl⟩:=VM hc eg
 intro bY
 have hv:(match aQ kD i with
  |some d=>(ij (upd (aQ kD i) v (cw kD base i Pl++rest)) d).getD undef
  |none=>undef)=v∨aQ kD i=none:=by
  cases hd:aQ kD i with
  |none=>exact .inr rfl
  |some d=>left;simp[upd,ij]
 have hj:=hj bY
 simp only[VS,JP] at hj
 have bW:∀j u,(j,u)∈pending kD i Sl→tb kD X.n base Pl j=false→(∀B,(j,B)∈kn.nd→Ext ⟨X.ro,[]⟩ ⟨X.ro,den w'⟩→(∀x∈B,(⟨X.ro,den w'⟩:St).has x.1 x.2)→fe X.C X.fn X.aB kD X.n X.D j u (cw kD base j Pl) ⟨X.ro,den w'⟩)→fe X.C X.fn X.aB kD X.n X.D j u (cw kD base j Pl) ⟨X.ro,den w'⟩:=by
  simp only[rkO] at h2
  cases hr:rkL X.P X.n kD base Pl kn.nd w' kn'.c hs (pending kD i Sl) with
  |none=>rw[hr] at h2;cases h2
  |some x=>
   rw[hr] at h2
   simp only[rkA,rkB,Option.some.injEq,Prod.mk.injEq] at h2
   exact MA bY hr h2.1 h2.2
 have key:=hK (match aQ kD i with
  |some d=>(ij (upd (aQ kD i) v (cw kD base i Pl++rest)) d).getD undef
  |none=>undef) ⟨X.ro,den w'⟩ (fun j u IP hpb hn _=>bW j u IP hpb hn) hj
 show ab _ _ _ _ _ _ _ _
 rcases hv with hv|hv
 ·rw[hv] at key;exact key
 rw[hv] at key ⊢;exact key
end
attribute [irreducible] rkO rkA rkB atx Xw VS bkL rwO ad5
abbrev RY(ro:Nat→Option Obj)(Φ:Value→Cells→Prop):Ending→St→Prop:=fun en s'=>∃v X,en= .returned v∧(⟨ro,X⟩:St).le s'∧Φ v X
theorem Round.mono{l:Nat}{bd:Code}{R':Ending→St→Prop}(h:Round C l f tm as bd s R)(hr:∀e s,R e s→R' e s):Round C l f tm as bd s R':=
 fun main T hT c cs k1 k2=>h main T hT c cs (fun v s' hv=>k1 v s' (hr _ _ hv)) (fun ch s' hv=>k2 ch s' (hr _ _ hv))
theorem Round.weaken{C':Class}(hc:∀main T,C' main T→C main T){l:Nat}{bd:Code}(h:Round C l f tm as bd s R):Round C' l f tm as bd s R:=
 fun main T hT=>h main T (hc main T hT)
theorem Round.frame{l:Nat}{bd:Code}{s1:St}{B:Cells}{ro:Nat→Option Obj}(hf:Round (CP P) l f tm as bd s1 R)(hB:∀x∈B,x∈fr)(hc:abL fr B ro s1 s):
 Round (CP P) l f tm as bd s (fun en s'=>∃yQ,R en yQ∧abL fr B ro yQ s'):=
 fun main T hT c cs k1 k2=>hf main _ (Bo hT hB ro) c cs (fun v yQ hv _ s' tB=>k1 v s' ⟨yQ,hv,tB⟩) (fun ch yQ hv _ s' tB=>k2 ch s' ⟨yQ,hv,tB⟩) rfl s hc
def acd(r:Loop)(vs:List Value):Array Value:=(r.params.zip ⟨vs⟩).foldl (fun tmps (x:Tmp×Value)=>tmps.setIfInBounds x.1 x.2) r.tmps
def YX(P:Program)(bl:Nat)(vs:List Value)(ro:Nat→Option Obj)(own:Cells)(Φ:Value→Cells→Prop):Prop:=
 ∃r,(bl,.loop r)∈own∧vs.length=r.params.size∧Round (CP P) bl r.fn (acd r vs) r.assign r.body ⟨ro,own⟩ (RY ro Φ)
theorem YX.use{ro:Nat→Option Obj}{own:Cells}(hy:YX P bl vs ro own Φ)(hs:Sub ro s.ro)(hp:s.rw.Perm (own++fr)){Q:Next→St→Prop}{E:Halt→St→Prop}
 (h:∀l f tm as bd,Round (CP P) l f tm as bd s (fun en s'=>∃v X,en= .returned v∧Φ v X∧(⟨s.ro,X++fr⟩:St).le s')→Q (.round l f tm as bd) s):bR P (Instr.yield bl ⟨vs⟩) s Q E:=by
 obtain⟨r,h1,h2,h3⟩:=hy
 simp only[Instr.yield,Instr.getLoop,aa]
 refine cH (o:= .loop r) (.inr (hp.mem_iff.2 (List.mem_append_left _ h1))) rfl rfl ?_
 have vi:¬(⟨vs⟩:Array Value).size≠r.params.size:=by simpa using h2
 simp only[ae,if_neg vi]
 refine h _ _ _ _ _ (Round.mono (Round.frame (fr:=fr) (B:=[]) (ro:=s.ro) (s:=s) h3 (fun _ h=>(by cases h)) ⟨hp,fun b o hb=> .inl (hs b o hb),Sub.refl _⟩) fun en s' Ef=>?_)
 obtain⟨yQ,⟨v,X,rfl,⟨R,hR1,hR2⟩,qF⟩,hc⟩:=Ef
 refine⟨v,X,rfl,qF,R,?_,fun b o hb=> .inl (hc.keep b o hb)⟩
 refine hc.rw.trans ((hR1.append_right fr).trans ?_)
 simp only[List.append_assoc]
 exact List.Perm.append_left _ List.perm_append_comm
section
variable {X:Cx} {o:Option JS}
def are(n:Nat)(p:Oper)(e:Env):Option (Nat×List Value):=match p.op with
 | .call ⟨.value x,xs,_⟩=>match bp n e x with
  |some (.func (.yield bl) ⟨[]⟩ ⟨[]⟩)=>match yj n e xs.toList with
   |some vs=>some (bl,vs)
   |none=>none
  |_=>none
 |_=>none
theorem jyc{own:Cells}(ps:List Nat)(hy:YX X.P bl vs pZ own Φ)(fM:Sub pZ X.ro)(hj:∀v Y,Φ v Y→J X (nH ps v Y o))(h1:fx X.n (are X.n) o=some (bl,vs):=by kernel_rfl)(h2:eA ps o=some own:=by kernel_rfl):J X o:=by
 obtain⟨ops,i,todo,k,e,w,kn,p,rfl,ho,hw,hc⟩:=dG h1
 intro bY
 unfold are at hc
 split at hc<;>try (cases hc;done)
 rename_i x xs at_ aA
 split at hc<;>try (cases hc;done)
 rename_i bl' hx
 split at hc<;>try (cases hc;done)
 rename_i oD EW
 cases hc
 rcases p with ⟨dst,op,ty,pos,db,g⟩
 dsimp only at aA;subst aA
 have hp:=bL h2
 refine bV X.hC ho hw (by simp) ?_
 have S1:xs.map (ev X.n e)=⟨vs⟩:=sG EW
 simp only[execOp,resolve,aG hx,Deferred.ofValue,ae,S1]
 have hiv:(invoke (.fn (.yield bl) ⟨[]⟩) (⟨[]⟩++⟨vs⟩):Sem Next)=Instr.yield bl ⟨vs⟩:=by simp[invoke]
 rw[hiv]
 refine YX.use hy fM hp fun l f tm as bd hR=>?_
 show Round X.C l f tm as bd _ _
 refine Round.mono (Round.weaken X.hC hR) fun en s' Ef=>?_
 obtain⟨v,Y,rfl,qF,hle⟩:=Ef
 have:=hj v Y qF
 rw[oC ho] at this
 have:=this bY
 simp only[JP,gI] at this
 have:=this.more X.hC hle
 show ab _ _ _ _ _ _ _ _
 rw[aY]
 exact this
end
attribute [irreducible] are
def mk:List Nat→Cells
 | []=>[]
 |b::r=>(b,.deferred (some []))::mk r
def aeN(P:Program)(fn:Func)(R:Ending→St→Prop):Post
 | .normal,a,s| .ret,a,s=>∃uJ rest,a.defers=uJ.map eH∧s.rw.Perm (mk uJ++rest)∧bR P (results fn a.tmps) ⟨s.ro,rest⟩ (fun v s'=>∃s0,s0.le s'∧R (.returned v) s0) (fun _ _=>False)
 |_,_,_=>False
section
variable {P:Program} {C:Class}
theorem AD(hC:∀main T,C main T→Closed P main T)(hT:C main T){rest:Cells}:∀(uJ:List Nat) (fr:Frame) (s:St),fr.mode= .returning→fr.defers=uJ.map eH→s.rw.Perm (mk uJ++rest)→T (G {fr with defers:=[]} cs) ⟨s.ro,rest⟩→T (G fr cs) s
 | [],fr,s,_,hd,hp,h=>by
  have:fr={fr with defers:=[]}:=by rcases fr with ⟨a,b,c,d,e,f,g⟩;simp only[List.map_nil] at hd;subst hd;rfl
  rw[this]
  exact(hC main T hT).mono _ ⟨s.ro,rest⟩ _ ⟨[],by simpa [mk] using hp,fun b o hb=> .inl hb⟩ h
 |b::r,fr,s,hm,hd,hp,h=>by
  obtain⟨L,Rr,hs⟩:=List.append_of_mem (hp.mem_iff.2 (List.mem_append_left _ List.mem_cons_self))
  refine unwind_mark hC hT (.inl hm) (ds:=r.map eH) (by simpa using hd) hs ?_
  have SV:(L++Rr).Perm (mk r++rest):=by
   rw[hs] at hp
   exact(List.perm_middle.symm.trans hp).cons_inv
  refine(hC main T hT).mono _ ⟨s.ro,L++Rr⟩ _ ⟨[(b,.deferred none)],?_,fun b o hb=> .inl hb⟩ (AD hC hT r _ _ hm rfl SV h)
  exact List.perm_middle.trans (List.perm_append_singleton _ _).symm
theorem Lx(hC:∀main T,C main T→Closed P main T){c:Code}{args:Array Value} 
 (hf:P.funcs[f]?=some fn) (hb:fn.body=some c) (h:Wp C f none c (aeN P fn R) ⟨args++Array.replicate (fn.ntmps-args.size) undef,[]⟩ s):Fn C P f args s R:=by
 intro main T hT cl cs k1 k2
 let b:Frame:={(default:Frame) with fn:=f,kind:= .normal,roundOf:=none}
 have iA:Frame.enter P f args .normal=aL b ⟨args++Array.replicate (fn.ntmps-args.size) undef,[]⟩ [.code c]:=by
  simp[Frame.enter,aL,hf,hb,b]
 rw[iA]
 refine h main T hT b [] (cl::cs) rfl (by simp[b]) rfl fun e a' s' q=>?_
 have sC:∀(todo:List Item),(∃uJ rest,a'.defers=uJ.map eH∧s'.rw.Perm (mk uJ++rest)∧bR P (results fn a'.tmps) ⟨s'.ro,rest⟩ (fun v s'=>∃s0,s0.le s'∧R (.returned v) s0) (fun _ _=>False))→T (G {aL b a' todo with mode:= .returning} (cl::cs)) s':=by
  intro todo ⟨uJ,rest,hd,hp,hr⟩
  exact AD hC hT uJ _ _ rfl hd hp (sY hC hT hf rfl rfl rfl rfl hr k1)
 cases e with
 |normal=>
  exact(hC main T hT).go rfl rfl (g':=G {aL b a' [] with mode:= .returning} (cl::cs)) (fun w=>by simp[G,stepG,stepG.exec,aL,b]) (sC _ q)
 |ret=>
  exact fun todo=>(hC main T hT).go rfl rfl (g':=G {aL b a' (.code .ret::todo) with mode:= .returning} (cl::cs)) (fun w=>by simp[G,stepG,stepG.exec,aL,b]) (sC _ q)
 |panic ch=>exact q.elim
 |exit id=>exact q.elim
 |goto l=>exact q.elim
 |outgrown=>exact q.elim
end
def XM(P:Program)(hm:P.follows .mixedOrders=true)(f:FuncId)(ro:Nat→Option Obj)(R:Ending→St→Prop):Cx:=⟨P,CP P,fq,hm,f,none,(tE P f).ntmps,[],ro,aeN P (tE P f) R⟩
theorem amQ(hm:P.follows .mixedOrders=true){ro:Nat→Option Obj}{L:Cells}(own:List Sg)(kn:Cells)(hk:Knows ro kn)(h:J (XM P hm f ro (RX ro Φ)) (lg P f args own kn))(hL:den own=L:=by rfl):eV P f args ro L Φ:=by
 subst hL
 unfold lg at h
 split at h<;>try exact h.elim
 rename_i fn hf
 split at h<;>try exact h.elim
 rename_i c hc
 cases hl:Nat.ble args.length fn.ntmps with
 |false=>rw[hl] at h;exact h.elim
 |true=>
  rw[hl] at h
  have vk:tE P f=fn:=by simp only[tE,hf]
  have:=h hk
  simp only[JP,XM,KQ,vk] at this
  refine Lx fq hf hc ?_
  have he:=k8 args fn.ntmps (Nat.le_of_ble_eq_true hl)
  rw[←he] at this
  exact this
structure QM(X:Cx)(R:Ending→St→Prop)(uJ:List Nat):Prop where
 q:X.Q=aeN X.P (tE X.P X.fn) R
 d:X.D=uJ.map eH
def Cx.dm(X:Cx)(bd:Nat):Cx:={X with D:=eH bd::X.D}
theorem qm0{hm:P.follows .mixedOrders=true}{ro:Nat→Option Obj}:QM (XM P hm f ro R) R []:=⟨rfl,rfl⟩
theorem QM.a{ro:Nat→Option Obj}(h:QM X R uJ):QM (X.at ro) R uJ:=⟨h.q,h.d⟩
theorem QM.m(h:QM X R uJ):QM (X.dm bd) R (bd::uJ):=⟨h.q,by simp[Cx.dm,h.d]⟩
theorem QM.w{aIl:List Nat}(h:QM X R uJ):QM (X.wd (aIl.map eH)) R aIl:=⟨h.q,rfl⟩
def Dp(pm:List Nat):Option JS→Option JS
 |some ⟨p,e,w,kn⟩=>some ⟨p,e,dL pm 0 w,kn⟩
 |none=>none
section
variable {X:Cx} {o:Option JS}
theorem jrM(hq:QM X (RX pZ Φ) uJ)(v:Value)(pm hs ps:List Nat)(Y:Cells)(fM:Sub pZ X.ro)(hR:Φ v Y)(h0:eA pm o=some (mk uJ):=by kernel_rfl)(h1:tC (j8 X.P X.n X.fn hs (Dp pm o))=some v:=by kernel_rfl)(h2:S6 (j8 X.P X.n X.fn hs (Dp pm o))=S5 (j8 X.P X.n X.fn hs (Dp pm o)):=by kernel_rfl)(h3:eA ps (Dp pm o)=some Y:=by kernel_rfl)(h4:Dg o=true:=by kernel_rfl):J X o:=by
 obtain⟨ex,e,w,kn,rfl,hex⟩:=tG h4
 simp only[Dp,j8] at h1 h2 h3
 cases hr:Cj X.P X.n e (dL pm 0 w) kn.c hs (tE X.P X.fn).results.toList with
 |none=>simp only[hr,tC] at h1;cases h1
 |some x=>
  rcases x with ⟨vs,q⟩
  simp only[hr,tC,Option.some.injEq,S6,S5] at h1 h2
  intro bY
  have sC:=tX bY hr (my h2)
  have hp:=bL h3
  have Eb:=PB (s0:=⟨pZ,Y⟩) (R:=RX pZ Φ) hex sC h1 (dZ hp fM) ⟨v,Y,rfl,rfl,hR⟩
  have ht:bR X.P (results (tE X.P X.fn) (A X.n e X.D).tmps) ⟨X.ro,den (dL pm 0 w)⟩ (fun v s'=>∃s0,s0.le s'∧RX pZ Φ (.returned v) s0) (fun _ _=>False):=by
   rcases hex with rfl|rfl<;>exact Eb.2
  show X.Q ex (A X.n e X.D) ⟨X.ro,den w⟩
  rw[hq.q]
  have hm:∃uJ rest,(A X.n e X.D).defers=uJ.map eH∧(den w).Perm (mk uJ++rest)∧bR X.P (results (tE X.P X.fn) (A X.n e X.D).tmps) ⟨X.ro,rest⟩ (fun v s'=>∃s0,s0.le s'∧RX pZ Φ (.returned v) s0) (fun _ _=>False):=⟨uJ,_,hq.d,bL h0,ht⟩
  rcases hex with rfl|rfl<;>exact hm
end
attribute [irreducible] Dp
def upQ(Q:Post):Post:=fun e a s=>∃s0,s0.le s∧Q e a s0
theorem jZ.more(hT:Closed P main T){b:Frame}(hl:s.le s'):∀ {e:Exit} {a:Act},jZ T b k cs e a s→jZ T b k cs e a s'
 | .normal,_,h=>hT.mono _ _ _ hl h
 | .exit id,a,h=>by
  simp only[jZ] at h ⊢
  cases hk:exitTo id k with
  |some k'=>rw[hk] at h;exact hT.mono _ _ _ hl h
  |none=>rw[hk] at h;exact fun todo ht=>hT.mono _ _ _ hl (h todo ht)
 | .ret,_,h=>fun todo=>hT.mono _ _ _ hl (h todo)
 | .panic _,_,h=>fun todo=>hT.mono _ _ _ hl (h todo)
 | .goto _,_,h=>h.elim
 | .outgrown,_,h=>h.elim
theorem azD(hC:∀main T,C main T→Closed P main T){fn:FuncId}{aB:Option Nat}{c:Code}{Q:Post}{a:Act}(h:Wp C fn aB c (upQ Q) a s):Wp C fn aB c Q a s:=
 fun main T hT b k cs h1 h2 h3 h4=>h main T hT b k cs h1 h2 h3 fun _ _ _ ⟨_,hl,hq⟩=>jZ.more (hC _ _ hT) hl (h4 _ _ _ hq)
def ItX(P:Program)(g:FuncId)(fi ca:List Value)(ro:Nat→Option Obj)(own:Cells)(N:Nat)(El:(Nat→Option Obj)→Nat→List Value→Cells→Prop)(Ψ:Cells→Prop):Prop:=
 ∀(bl:Nat) (aC:Nat→Option Obj) (Inv:Nat→Cells→Prop) (Stop:Cells→Prop),Sub ro aC→
  (∀k vs LL B kK,k <N→El kK k vs LL→Inv k B→Sub aC kK→YX P bl vs kK (LL++B) (fun r B'=>(r= .bool true∧Inv (k+1) B')∨(r= .bool false∧Stop B')))→
  ∀B,Inv 0 B→eV P g (fi++[.func (.yield bl) #[] #[]]++ca) aC (own++B) (fun _ Y=>∃Z B',Y=Z++B'∧Ψ Z∧(Inv N B'∨Stop B'))
theorem Round.more(hC:∀main T,C main T→Closed P main T){l:Nat}{bd:Code}(hl:s.le s')(h:Round C l f tm as bd s R):Round C l f tm as bd s' R:=
 fun main T hT c cs k1 k2=>(hC _ _ hT).mono _ _ _ hl (h main T hT c cs k1 k2)
def rfV(P:Program)(n:Nat):Option JS→Option (FuncId×List Value×List Value×Nat)
 |some ⟨.code (.rangeFunc x ps _ _) _,e,_,_⟩=>match bp n e x with
  |some (.func (.func g) ⟨fi⟩ ⟨ca⟩)=>bif BZ P g then some (g,fi,ca,ps.size) else none
  |_=>none
 |_=>none
def lpO(X:Cx)(bd:Nat):Option JS→Loop
 |some ⟨.code (.rangeFunc _ ps a b) _,e,_,_⟩=>iL X.fn (A X.n e X.D).tmps ps a b bd
 |_=>iL X.fn #[] #[] .ret .ret bd
def aIh:Option JS→Code
 |some ⟨.code (.rangeFunc _ _ _ b) _,_,_,_⟩=>b
 |_=> .ret
def Pu:List Tmp→List Value→Env→Env
 |t::ts,v::vs,e=>Pu ts vs (upd (some t) v e)
 |_,_,e=>e
theorem Pt{D:List Deferred}:∀(ts:List Tmp) (vs:List Value) (e:Env),(ts.zip vs).foldl (fun(tm:Array Value) (x:Tmp×Value)=>tm.setIfInBounds x.1 x.2) (A n e D).tmps=(A n (Pu ts vs e) D).tmps
 | [],_,_=>rfl
 |_::_,[],_=>rfl
 |t::ts,v::vs,e=>by
  have:=aY n e D (some t) v
  simp only[Act.put] at this
  simp only[List.zip_cons_cons,List.foldl_cons,Pu]
  rw[←Pt ts vs,←this]
def rdO(X:Cx)(bl bd:Nat)(vs:List Value)(w:List Sg)(o:Option JS):Option JS:=match o with
 |some ⟨.code (.rangeFunc _ ps a _) _,e,_,kn⟩=>some ⟨.code a [],Pu ps.toList vs e,.b bl (.loop (lpO X bd o))::w,⟨kn.c,[]⟩⟩
 |_=>none
def afO(jump:Option Code)(bd:Nat)(Z:Cells)(wi:List Sg)(is:List Nat):Option JS→Option JS
 |some ⟨.code _ k,e,w,kn⟩=>match jump with
  |none=>some ⟨PU k,e,.b bd (.deferred (some [])):: .l Z::(wi++dL is 0 w),⟨kn.c,[]⟩⟩
  |some .ret=>some ⟨.fin .ret,e,.b bd (.deferred (some [])):: .l Z::(wi++dL is 0 w),⟨kn.c,[]⟩⟩
  |some (.exit id)=>match Bv id k with
   |some p=>some ⟨p,e,.b bd (.deferred (some [])):: .l Z::(wi++dL is 0 w),⟨kn.c,[]⟩⟩
   |none=>none
  |_=>none
 |_=>none
def arf(bl:Nat)(Lp:Loop)(wf:ι→List Sg)(Inv:Nat→ι→Prop)(Sp:Code→ι→Prop)(k:Nat):Value→Cells→Prop:=fun r B=>
 (r= .bool true∧∃j,Inv (k+1) j∧B=(bl,.loop Lp)::den (wf j))∨(r= .bool false∧∃jump j,Sp jump j∧B=(bl,.loop {Lp with state:= .done,pending:=some jump})::den (wf j))
def Cx.rd(X:Cx)(bl:Nat)(ro:Nat→Option Obj)(Φ:Value→Cells→Prop)(body:Code):Cx:=⟨X.P,CP X.P,fq,X.hm,X.fn,some bl,X.n,[],ro,Is (CP X.P) (RY ro Φ) bl X.fn body⟩
def Cx.re(X:Cx)(bl:Nat)(ro:Nat→Option Obj)(Φ:Value→Cells→Prop):Cx:=⟨X.P,CP X.P,fq,X.hm,X.fn,some bl,X.n,[],ro,Ci (RY ro Φ) bl⟩
theorem Ma:∀(k:List KI),KQ (X.dm bd) k=KQ X k
 | []=>rfl
 | .seq _::k=>by simp only[KQ,Ma k];rfl
 | .block _::k=>by simp only[KQ,Ma k]
 | .next _::k=>by simp only[KQ,Ma k]
theorem Kr(Z W R:List α)(x y:α):((Z++x::W)++y::R).Perm (x::y::(Z++(W++R))):=by
 refine List.perm_middle.trans ?_
 rw[List.append_assoc,List.cons_append]
 exact(List.Perm.cons y List.perm_middle).trans (List.Perm.swap _ _ _)
section
variable {X:Cx} {o:Option JS}
theorem jrf{np:Nat}{Ψ:Cells→Prop}(ow:List Sg)(hit:ItX X.P g fi ca X.ro (den ow) N El Ψ)(Yc:∀ro k vs LL,El ro k vs LL→vs.length=np)
 (wf:ι→List Sg)(Inv:Nat→ι→Prop)(Sp:Code→ι→Prop)(i0:ι)(h0:Inv 0 i0)(is:List Nat)
 (hb:∀bl bd k vs LL i kK,k <N→El kK k vs LL→Inv k i→Sub X.ro kK→J (X.rd bl kK (arf bl (lpO X bd o) wf Inv Sp k) (aIh o)) (rdO X bl bd vs (wf i++[.l LL]) o))
 (hN:∀bd i Z,Inv N i→Ψ Z→J (X.dm bd) (afO none bd Z (wf i) is o))(hS:∀bd i Z jump,Sp jump i→Ψ Z→J (X.dm bd) (afO (some jump) bd Z (wf i) is o))
 (h1:rfV X.P X.n o=some (g,fi,ca,np):=by kernel_rfl)(h2:rB is o=some (ow++wf i0):=by kernel_rfl)(hf:(X.P.funcs[X.fn]?).isSome=true:=by kernel_rfl) (hr:X.aB=none:=by rfl):J X o:=by
 unfold rfV at h1
 split at h1<;>try (cases h1;done)
 rename_i x params assign body k e w kn
 split at h1<;>try (cases h1;done)
 rename_i g' Vv Aa hx
 cases Hm:BZ X.P g' with
 |false=>rw[Hm] at h1;cases h1
 |true=>
  rw[Hm] at h1
  simp only[cond_true,Option.some.injEq,Prod.mk.injEq] at h1
  obtain⟨rfl,rfl,rfl,hnp⟩:=h1
  have ff:=lj Hm
  intro bY
  have hp:=lY h2
  rw[lP] at hp
  obtain⟨fn',vk⟩:=Option.isSome_iff_exists.1 hf
  show Wp X.C X.fn X.aB (.rangeFunc x params assign body) (KQ X k) (A X.n e X.D) ⟨X.ro,den w⟩
  rw[hr]
  refine azD X.hC (Ax X.hC (fi:=⟨Vv⟩) (ca:=⟨Aa⟩) (by rw[eJ];exact aG hx) ff fun bd bl _ _=>?_)
  rw[Sq]
  have hy:=hit bl X.ro (fun k B=>∃i,Inv k i∧B=(bl,.loop (iL X.fn (A X.n e X.D).tmps params assign body bd))::den (wf i))
   (fun B=>∃jump i,Sp jump i∧B=(bl,.loop {iL X.fn (A X.n e X.D).tmps params assign body bd with state:= .done,pending:=some jump})::den (wf i)) (Sub.refl _) (fun k vs LL B kK hk hv hi hs=>?_) _ ⟨i0,h0,rfl⟩
  rotate_left
  ·obtain⟨i,hi,rfl⟩:=hi
   refine⟨iL X.fn (A X.n e X.D).tmps params assign body bd,List.mem_append_right _ List.mem_cons_self,(Yc _ _ _ _ hv).trans hnp.symm,Round.more fq (s:=⟨kK,((bl,.loop (iL X.fn (A X.n e X.D).tmps params assign body bd))::den (wf i))++LL⟩) ⟨[],by rw[List.append_nil];exact List.perm_append_comm,fun b o hb=> .inl hb⟩ (DU fq vk ?_)⟩
   have:=hb bl bd k vs LL i kK hk hv hi hs fun y hy=>hs _ _ (bY y hy)
   have Nz:den (.b bl (.loop (iL X.fn (A X.n e X.D).tmps params assign body bd))::(wf i++[.l LL]))=((bl,.loop (iL X.fn (A X.n e X.D).tmps params assign body bd))::den (wf i))++LL:=by rw[iW,lP];rfl
   rw[←Nz]
   have hyt:acd (iL X.fn (A X.n e X.D).tmps params assign body bd) vs=(A X.n (Pu params.toList vs e) X.D).tmps:=by
    rw[←Pt]
    simp only[acd,iL]
    rw[←Array.foldl_toList,Array.toList_zip]
   rw[hyt]
   exact this
  refine Fn.weaken X.hC (Fn.mono (Fn.frame (fr:=(bd,.deferred (some []))::den (dL is 0 w)) (B:=[]) (ro:=X.ro) hy (fun _ h=>(by cases h)) ⟨?_,fun b o hb=> .inl hb,Sub.refl _⟩) fun en s' Ef=>?_)
  ·refine List.Perm.trans (.cons _ (.cons _ ?_)) (Kr _ _ _ _ _).symm
   rw[←List.append_assoc]
   exact hp
  obtain⟨yQ,⟨v,Y,rfl,rfl,Z,B',rfl,hΨ,hI⟩,hc⟩:=Ef
  have hc1:s'.rw.Perm ((Z++B')++(bd,.deferred (some []))::den (dL is 0 w)):=hc.rw
  have key:∀(r0:Loop) (i:ι),B'=(bl,.loop r0)::den (wf i)→∃L Rr,s'.rw=L++(bl,.loop r0)::Rr∧∀r1,(⟨X.ro,den (.b bd (.deferred (some [])):: .l Z::(wf i++dL is 0 w))⟩:St).le ⟨s'.ro,L++(bl,.loop r1)::Rr⟩:=by
   intro r0 i hB
   subst hB
   have hc2:=hc1.trans (Kr _ _ _ _ _)
   obtain⟨L,Rr,hs⟩:=List.append_of_mem (hc2.mem_iff.2 List.mem_cons_self)
   refine⟨L,Rr,hs,fun r1=>dZ (J:=[(bl,.loop r1)]) ?_ hc.keep⟩
   rw[hs] at hc2
   have hc3:=(List.perm_middle.symm.trans hc2).cons_inv
   rw[iW,gI,lP]
   exact List.perm_middle.trans ((List.Perm.cons _ hc3).trans (List.perm_append_singleton _ _).symm)
  rcases hI with ⟨i,hi,hB⟩| ⟨jump,i,hi,hB⟩
  ·obtain⟨L,Rr,hs,hle⟩:=key _ i hB
   refine⟨L,_,Rr,hs,by simp[iL],?_⟩
   refine⟨_,hle _,?_⟩
   have:=hN bd i Z hi hΨ bY
   rw[←Ma (bd:=bd)]
   exact ue (X:=X.dm bd) (kn:=⟨kn.c,[]⟩) this
  obtain⟨L,Rr,hs,hle⟩:=key _ i hB
  refine⟨L,_,Rr,hs,by simp,?_⟩
  have:=hS bd i Z jump hi hΨ
  cases jump with
  |ret=>
   refine⟨_,hle _,?_⟩
   rw[←Ma (bd:=bd)]
   exact AI (X:=X.dm bd) (this bY) k
  |exit id=>
   simp only[afO] at this
   cases hk:Bv id k with
   |none=>rw[hk] at this;exact this.elim
   |some p=>
    rw[hk] at this
    refine⟨_,hle _,?_⟩
    rw[←Ma (bd:=bd)]
    exact wX (X:=X.dm bd) (kn:=⟨kn.c,[]⟩) hk (this bY)
  |_=>exact this.elim
end
theorem aCh:(lpO X bd o).state= .ready∧(lpO X bd o).pending=none:=by
 unfold lpO
 split<;>exact⟨rfl,rfl⟩
attribute [irreducible] rfV lpO aIh rdO afO
def bgO(body:Code):Option JS→Option (JS×Nat)
 |some ⟨.fin .normal,e,.b b (.loop r)::w,kn⟩=>match r.state with
  | .ready=>some (⟨.code body [],e,.b b (.loop {r with state:= .busy})::w,kn⟩,b)
  |_=>none
 |_=>none
def E3:Option (JS×Nat)→Option JS
 |some (s,_)=>some s
 |none=>none
def Tw:Option (JS×Nat)→Option Nat
 |some (_,b)=>some b
 |none=>none
def QF:Option JS→Option (Option Code)
 |some ⟨.fin .normal,_,_,_⟩=>some none
 |some ⟨.fin .ret,_,_,_⟩=>some (some .ret)
 |some ⟨.fin (.exit id),_,_,_⟩=>some (some (.exit id))
 |_=>none
structure QY(X:Cx)(bl:Nat)(ro:Nat→Option Obj)(Φ:Value→Cells→Prop):Prop where
 q:X.Q=Ci (RY ro Φ) bl
theorem ZQ{ro:Nat→Option Obj}:QY (X.re bl ro Φ) bl ro Φ:=⟨rfl⟩
section
variable {X:Cx} {o:Option JS} {bl:Nat} {ro:Nat→Option Obj}
theorem jbg(h:J (X.re bl ro Φ) (E3 (bgO body o)))(h1:Tw (bgO body o)=some bl:=by kernel_rfl):J (X.rd bl ro Φ body) o:=by
 unfold bgO at h h1
 split at h<;>try exact h.elim
 rename_i e b r w kn
 split at h<;>try exact h.elim
 rename_i bW
 simp only[bW,Tw,Option.some.injEq] at h1
 subst h1
 simp only[E3] at h
 intro bY
 have hw:=h bY
 simp only[JP,Cx.rd,Is,DG]
 refine⟨[],r,den w,by rw[iW];rfl,bW,?_⟩
 simp only[JP,iW] at hw
 exact hw
theorem jyR{Lp:Loop}{jump:Option Code}{Y:Cells}(hq:QY X bl ro Φ)(fM:Sub ro X.ro)(ps:List Nat)(qF:Φ (.bool jump.isNone) ((bl,.loop {Lp with state:=if jump.isNone then .ready else .done,pending:=jump})::Y))(h1:eA ps o=some ((bl,.loop {Lp with state:= .busy})::Y):=by kernel_rfl)(h2:QF o=some jump:=by kernel_rfl):J X o:=by
 have main:∀s w kn e,o=some ⟨s,e,w,kn⟩→VB (RY ro Φ) bl jump ⟨X.ro,den w⟩:=by
  intro s w kn e ho
  subst ho
  have hp:=bL h1
  obtain⟨L,Rr,hs⟩:=List.append_of_mem (hp.mem_iff.2 (List.mem_append_left _ List.mem_cons_self))
  refine⟨L,_,Rr,hs,_,_,rfl,?_,qF⟩
  have nF:den w=L++(bl,.loop {Lp with state:= .busy})::Rr:=hs
  have hp':(den w).Perm (((bl,.loop {Lp with state:= .busy})::Y)++den (dL ps 0 w)):=hp
  rw[nF] at hp'
  have SV:=(List.perm_middle.symm.trans hp').cons_inv
  exact dZ (J:=den (dL ps 0 w)) (List.perm_middle.trans (.cons _ SV)) fM
 unfold QF at h2
 split at h2<;>try (cases h2;done)
 ·rename_i e w kn;cases h2;intro _;show X.Q .normal _ _;rw[hq.q];exact main _ _ _ _ rfl
 ·rename_i e w kn;cases h2;intro _;show X.Q .ret _ _;rw[hq.q];exact main _ _ _ _ rfl
 rename_i id e w kn;cases h2;intro _;show X.Q (.exit id) _ _;rw[hq.q];exact main _ _ _ _ rfl
theorem jyn{Lp:Loop}{wf:ι→List Sg}{Inv:Nat→ι→Prop}{Sp:Code→ι→Prop}{k:Nat}(hq:QY X bl ro (arf bl Lp wf Inv Sp k))(fM:Sub ro X.ro)(j:ι)(h:Inv (k+1) j)(ps:List Nat)(hl:Lp.state= .ready∧Lp.pending=none:=by exact aCh)(h1:eA ps o=some ((bl,.loop {Lp with state:= .busy})::den (wf j)):=by kernel_rfl)(h2:QF o=some none:=by kernel_rfl):J X o:=
 jyR hq fM ps (.inl ⟨rfl,j,h,by rcases Lp with ⟨a,b,c,d,e,f,g,i⟩;obtain⟨h1,h2⟩:=hl;dsimp only at h1 h2;subst h1 h2;rfl⟩) h1 h2
theorem jys{Lp:Loop}{wf:ι→List Sg}{Inv:Nat→ι→Prop}{Sp:Code→ι→Prop}{k:Nat}(hq:QY X bl ro (arf bl Lp wf Inv Sp k))(fM:Sub ro X.ro)(jump:Code)(j:ι)(h:Sp jump j)(ps:List Nat)(h1:eA ps o=some ((bl,.loop {Lp with state:= .busy})::den (wf j)):=by kernel_rfl)(h2:QF o=some (some jump):=by kernel_rfl):J X o:=
 jyR hq fM ps (.inr ⟨rfl,jump,j,h,rfl⟩) h1 h2
end
attribute [irreducible] bgO E3 Tw QF
def sJ[DecidableEq κ](k:κ):List (κ×Value)→Nat→Option (Nat×Value)
 | [],_=>none
 |x::l,i=>if k=x.1 then some (i,x.2) else sJ k l (i+1)
def lkM[DecidableEq κ](k:κ)(F:List (κ×Value)):Option Value:=(sJ k F 0).map (·.2)
def tV(k:κ)(v:Value):List (κ×Value)→Nat→List (κ×Value)
 | [],_=>[]
 |_::l,0=>(k,v)::l
 |x::l,i+1=>x::tV k v l i
def mD[DecidableEq κ](k:κ)(v:Value)(F:List (κ×Value)):List (κ×Value):=match sJ k F 0 with
 |some (i,_)=>tV k v F i
 |none=>F++[(k,v)]
structure SC(P:Program)(T:TypeId){κ:Type}[DecidableEq κ](kv:κ→Value):Prop where
 chk:∀(b:Bool) (k:κ) {α:Type} {K:Unit→Sem α} {s:St} {Q:α→St→Prop} {E:Halt→St→Prop},bR P (K ()) s Q E→bR P (Instr.checkKey b 10000 T (kv k) >>= K) s Q E
 find:∀(k:κ) (es:List MapEntry) (F:List (κ×Value)),es.map (fun e=>(e.key,e.val))=F.map (fun x=>(kv x.1,x.2))→∀ {α:Type} {K:Option (Nat×Value)→Sem α} {s:St} {Q:α→St→Prop} {E:Halt→St→Prop},bR P (K (sJ k F 0)) s Q E→bR P (Instr.findKey T (kv k) es >>= K) s Q E
 stay:∀k,Instr.sameBits 10000 (kv k) (kv k)=true
theorem qU[DecidableEq κ]{k:κ}:∀ {F:List (κ×Value)} {i j:Nat} {v:Value},sJ k F i=some (j,v)→i≤j∧F[j-i]?=some (k,v)
 | [],_,_,_,h=>by cases h
 |x::l,i,j,v,h=>by
  simp only[sJ] at h
  split at h
  ·rename_i hk
   cases h
   exact⟨Nat.le_refl _,by simp[hk]⟩
  obtain⟨h1,h2⟩:=qU h
  refine⟨by omega,?_⟩
  rw[show j-i=(j-(i+1))+1 by omega,List.getElem?_cons_succ];exact h2
theorem Oi(a b:ByteArray):(a==b)=decide (a=b):=by
 have h:(a==b)=(a.data==b.data):=by cases a;cases b;rfl
 rw[h,Bool.eq_iff_iff]
 cases a;cases b
 simp
theorem Ej(a:ByteArray):∀(es:List MapEntry) (F:List (ByteArray×Value)) (i:Nat),es.map (fun e=>(e.key,e.val))=F.map (fun x=>(Value.string x.1,x.2))→Instr.findNow .string (.string a) es i=some (sJ a F i)
 | [],[],_,_=>rfl
 | [],_::_,_,h=>by simp at h
 |_::_,[],_,h=>by simp at h
 |e::es,x::F,i,h=>by
  simp only[List.map_cons,List.cons.injEq,Prod.mk.injEq] at h
  obtain⟨⟨h1,h2⟩,h3⟩:=h
  simp only[Instr.findNow,h1,Instr.sameNow,sJ,Oi]
  by_cases hk:a=x.1
  ·simp[hk,h2]
  simp only[hk,decide_false,if_false]
  exact Ej a es F (i+1) h3
def CkD(P:Program)(dep:Nat)(T:TypeId)(v:Value):Prop:=∀(b:Bool) {α:Type} {K:Unit→Sem α} {s:St} {Q:α→St→Prop} {E:Halt→St→Prop},bR P (Instr.checkKey b dep T v >>= K) s Q E=bR P (K ()) s Q E
theorem aH8{T:TypeId}(tf:TF P T .string sz bD z ag)(a:ByteArray):CkD P (dep+1) T (.string a):=by
 intro b α K s Q E
 simp only[Instr.checkKey,aa,a8 tf,ae]
theorem atF{T:TypeId}(tf:TF P T .string sz bD z ag):SC P T (fun(a:ByteArray)=>Value.string a) where
 chk b k α K s Q E h:=by rw[aH8 (dep:=9999) tf k b];exact h
 find k es F he α K s Q E h:=by
  simp only[Instr.findKey,aa,a8 tf,Ej k es F 0 he,ae]
  exact h
 stay k:=by simp[Instr.sameBits,Oi]
def afA(P:Program)(T:TypeId):Bool:=match aZ P T with
 |some ⟨.string,_,_,_⟩=>true
 |_=>false
theorem XF{T:TypeId}(h:afA P T=true):SC P T (fun(a:ByteArray)=>Value.string a):=by
 unfold afA at h
 split at h
 ·rename_i ee
  obtain⟨bD,tf⟩:=aw ee
  exact atF tf
 cases h
theorem ItX.up{ro:Nat→Option Obj}{own:Cells}{Ψ:Cells→Prop}(h:ItX P g fi ca ro own N El Ψ)(hs:Sub ro aK):ItX P g fi ca aK own N El Ψ:=
 fun bl aC Inv Stop h1=>h bl aC Inv Stop (hs.trans h1)
def YOK(P:Program)(bl:Nat)(ro:Nat→Option Obj)(N:Nat)(El:(Nat→Option Obj)→Nat→List Value→Cells→Prop)(Inv:Nat→Cells→Prop)(Stop:Cells→Prop):Prop:=
 ∀k vs LL B kK,k <N→El kK k vs LL→Inv k B→Sub ro kK→YX P bl vs kK (LL++B) (fun r B'=>(r= .bool true∧Inv (k+1) B')∨(r= .bool false∧Stop B'))
theorem YOK.up{ro:Nat→Option Obj}{Inv:Nat→Cells→Prop}{Stop:Cells→Prop}(h:YOK P bl ro N El Inv Stop)(hs:Sub ro aK):YOK P bl aK N El Inv Stop:=
 fun k vs LL B kK h1 h2 h3 h4=>h k vs LL B kK h1 h2 h3 (hs.trans h4)
def Part(L:List α)(p:Nat)(m:List α):Prop:=∃a b,L=a++m++b∧a.length=p
theorem Part.get{L m:List α}{p:Nat}{x:α}(h:Part L p m)(hx:m[i]?=some x):p+i <L.length∧L[p+i]?=some x:=by
 obtain⟨a,b,rfl,rfl⟩:=h
 have hi:=(List.getElem?_eq_some_iff.1 hx).1
 have:(a++m++b)[a.length+i]?=some x:=by
  rw[List.append_assoc,List.getElem?_append_right (by omega),List.getElem?_append_left (by omega),show a.length+i-a.length=i by omega];exact hx
 exact⟨(List.getElem?_eq_some_iff.1 this).1,this⟩
theorem Part.flat{L:List β}{p:Nat}{G:α→List β}{l a b:List α}{s:α}(h:Part L p (l.flatMap G))(hl:l=a++[s]++b):Part L (p+(a.flatMap G).length) (G s):=by
 obtain⟨u,v,rfl,rfl⟩:=h
 subst hl
 exact⟨u++a.flatMap G,b.flatMap G++v,by simp[List.flatMap_append],by simp⟩
theorem Pf{T:TypeId}[DecidableEq κ]{kv:κ→Value}(he:∀a b,EqD P 10000 T (kv a) (kv b) (decide (a=b)))(k:κ):∀(es:List MapEntry) (F:List (κ×Value)) (i:Nat),es.map (fun e=>(e.key,e.val))=F.map (fun x=>(kv x.1,x.2))→∀ {α:Type} {K:Option (Nat×Value)→Sem α} {s:St} {Q:α→St→Prop} {E:Halt→St→Prop},bR P (K (sJ k F i)) s Q E→bR P (Instr.findAsking T (kv k) es i >>= K) s Q E
 | [],[],_,_,_,_,_,_,_,h=>h
 | [],_::_,_,h,_,_,_,_,_,_=>by simp at h
 |_::_,[],_,h,_,_,_,_,_,_=>by simp at h
 |e::es,x::F,i,h,α,K,s,Q,E,hK=>by
  simp only[List.map_cons,List.cons.injEq,Prod.mk.injEq] at h
  obtain⟨⟨h1,h2⟩,h3⟩:=h
  simp only[Instr.findAsking,aa,h1,Op.equal]
  rw[show Op.maxDepth=10000 from rfl,he k x.1]
  simp only[sJ] at hK
  by_cases hk:k=x.1
  ·rw[if_pos hk] at hK
   simp only[hk,decide_true,if_true,ae,h2]
   exact hK
  rw[if_neg hk] at hK
  simp only[hk,decide_false,Bool.false_eq_true,if_false]
  exact Pf he k es F (i+1) h3 hK
theorem H8{T:TypeId}{k:IntKind}(tf:TF P T (.int k) sz bD z ag)(a:Int):CkD P (dep+1) T (.int k a):=by
 intro b α K s Q E
 simp only[Instr.checkKey,aa,a8 tf,ae]
inductive BR(P:Program)(dep:Nat)(l:List Value):List Field→Prop
 |nil:BR P dep l []
 |cons {f:Field} {fs:List Field} {v:Value} (hn:f.name≠ "_") (hv:IB P f.type l f.offset v) (he:CkD P dep f.type v) (ht:BR P dep l fs):BR P dep l (f::fs)
theorem Sc{T:TypeId}{fields:Array Field}(tf:TF P T (.struct fields) sz bD z true)(hf:BR P dep l fields.toList):CkD P (dep+1) T (.agg ⟨l⟩):=by
 intro b α K s Q E
 simp only[Instr.checkKey,aa,a8 tf]
 rw[←Array.forIn_toList]
 generalize fields.toList=fl at hf
 clear tf
 induction hf with
 |nil=>simp only[List.forIn_nil,ae,aa]
 | @cons f fs v hn hv he ht ih=>
  simp only[List.forIn_cons,hn,ne_eq,not_false_eq_true,if_true,aa]
  rw[hv]
  simp only[aa]
  rw[he]
  simp only[ae]
  exact ih
theorem afb{T:TypeId}[DecidableEq κ]{kv:κ→Value}{d:TypeDesc}(tf:TF P T d sz bD z ag)(hl:∀k,∃l,kv k= .agg l)(hc:∀k,CkD P 10000 T (kv k))(he:∀a b,EqD P 10000 T (kv a) (kv b) (decide (a=b)))(hs:∀k,Instr.sameBits 10000 (kv k) (kv k)=true):SC P T kv where
 chk b k α K s Q E h:=by rw[hc k b];exact h
 find k es F hm α K s Q E h:=by
  simp only[Instr.findKey,aa,a8 tf]
  cases es with
  |nil=>
   cases F with
   |nil=>exact h
   |cons x F=>simp at hm
  |cons e es=>
   have:Instr.findNow d (kv k) (e::es) 0=none:=by
    cases F with
    |nil=>simp at hm
    |cons x F=>
     simp only[List.map_cons,List.cons.injEq,Prod.mk.injEq] at hm
     obtain⟨l,Ee⟩:=hl k
     obtain⟨l2,rj⟩:=hl x.1
     simp only[Instr.findNow,hm.1.1,Ee,rj]
     cases d<;>rfl
   rw[this]
   exact Pf he k _ F 0 hm h
 stay:=hs
def tK(kv:κ→Value)(F:List (κ×Value))(es:Array MapEntry)(ck:Nat):Prop:=
 es.toList.map (fun e=>(e.key,e.val))=F.map (fun x=>(kv x.1,x.2))∧(es.toList.map (·.born)).Nodup∧∀e∈es.toList,e.born <ck
def ki(r:Nat)(kv:κ→Value)(F:List (κ×Value))(L:Cells):Prop:=∃es ck,L=[(r,.map es ck)]∧tK kv F es ck
def aj6(s:St)(r:Nat)(kv:κ→Value)(F:List (κ×Value)):Prop:=∃es ck,s.has r (.map es ck)∧tK kv F es ck
theorem ki.has{kv:κ→Value}{F:List (κ×Value)}{L:Cells}(h:ki r kv F L)(hs:∀x∈L,s.has x.1 x.2):aj6 s r kv F:=by
 obtain⟨es,ck,rfl,hm⟩:=h
 exact⟨es,ck,hs _ List.mem_cons_self,hm⟩
theorem aj6.ext{kv:κ→Value}{F:List (κ×Value)}(h:aj6 s r kv F)(hs:Ext s s'):aj6 s' r kv F:=by
 obtain⟨es,ck,h1,h2⟩:=h
 exact⟨es,ck,hs _ _ h1,h2⟩
theorem ki.nil(r:Nat)(kv:κ→Value):ki r kv [] [(r,.map #[] 0)]:=⟨#[],0,rfl,rfl,List.nodup_nil,fun _ h=>(by cases h)⟩
section
variable {X:Cx} {o:Option JS}
def Qx[DecidableEq κ](z:Value)(ok:Bool)(k:κ)(F:List (κ×Value)):Value:=match lkM k F with
 |some v=>bif ok then .tuple ⟨[v,.bool true]⟩ else v
 |none=>bif ok then .tuple ⟨[z,.bool false]⟩ else z
def luV(P:Program)(n:Nat)(p:Oper)(e:Env):Option (TypeId×Value×Value×Value×Bool):=match p.op with
 | .lookup T x y ok=>match aZ P T with
  |some ⟨.map K E,_,_,_⟩=>match aZ P E with
   |some te=>match bp n e x with
    |some m=>match bp n e y with
     |some k=>some (K,m,k,OM te.zero te.agg,ok)
     |none=>none
    |none=>none
   |none=>none
  |_=>none
 |_=>none
theorem jlu[DecidableEq κ]{kv:κ→Value}{F:List (κ×Value)}{K:TypeId}(k:κ)(z:Value)(ok:Bool)(ps:List Nat)(B:Cells)(hk:SC X.P K kv)(hm:∀s:St,Ext ⟨X.ro,[]⟩ s→(∀x∈B,s.has x.1 x.2)→aj6 s r kv F)(hj:J X (MT B (Qx z ok k F) o))
 (hv:dP X.n (luV X.P X.n) o=some (K,.map (some r),kv k,z,ok):=by kernel_rfl)(hB:eA ps o=some B:=by kernel_rfl):J X o:=by
 refine jGN hv hB (fun s p e ho hh hf=>?_) hj
 subst ho
 unfold luV at hf
 split at hf<;>try (cases hf;done)
 rename_i T x y ok' aA
 split at hf<;>try (cases hf;done)
 rename_i K' E' _ _ _ ee
 split at hf<;>try (cases hf;done)
 rename_i te uy
 split at hf<;>try (cases hf;done)
 rename_i m hx
 split at hf<;>try (cases hf;done)
 rename_i k' hy
 simp only[Option.some.injEq,Prod.mk.injEq] at hf
 obtain⟨rfl,rfl,rfl,rfl,rfl⟩:=hf
 obtain⟨bD,tf⟩:=aw ee
 obtain⟨BG,rh⟩:=aw uy
 refine⟨by rw[aA];rfl,fun s0 G7 vo ops i ho rest hwt s' hs todo Q jU=>lZ X.hC ho rest hwt (by rw[aA];rfl) ?_ hs jU⟩
 intro s1 bB f hf K2 E2 hK
 obtain⟨es,ck,jK,C4⟩:=(hm s0 G7 vo).ext bB
 simp only[execOp,aA,hf _ _ hx,hf _ _ hy,Instr.lookup,aa,a8 tf]
 refine cH jK rfl rfl ?_
 simp only[ae,aa]
 refine hk.chk _ _ ?_
 simp only[aa]
 refine hk.find k _ F C4.1 ?_
 simp only[Qx,lkM] at hK
 cases yg:sJ k F 0 with
 |none=>
  rw[yg] at hK
  simp only[aa,ky rh,ae]
  cases ok'<;>exact hK
 |some u=>
  obtain⟨i,v⟩:=u
  rw[yg] at hK
  simp only[ae]
  cases ok'<;>exact hK
def ato(p:Oper):Option Unit:=match p.op with
 | .makeMap _ none=>some ()
 |_=>none
theorem jmk(kv:κ→Value)(hj:∀r L,ki r kv [] L→J X (nH [] (.map (some r)) L o))(hv:fx X.n (fun p _=>ato p) o=some ():=by kernel_rfl):J X o:=by
 obtain⟨ops,i,todo,k,e,w,kn,p,rfl,ho,hw,hc⟩:=dG hv
 intro bY
 unfold ato at hc
 split at hc<;>try (cases hc;done)
 rename_i T aA
 rcases p with ⟨dst,op,ty,pos,db,g⟩
 dsimp only at aA;subst aA
 refine bV X.hC ho hw (by simp) ?_
 simp only[execOp,Instr.makeMap,Option.map_none,aa,oE,ae]
 intro b hb
 have:=hj b _ (ki.nil b kv)
 rw[oC ho] at this
 have:=this bY
 simp only[JP,gI,xP] at this
 show ab _ _ _ _ _ _ _ _
 rw[aY]
 exact this
def muV(P:Program)(n:Nat)(p:Oper)(e:Env):Option (TypeId×Value×Value×Value):=match p.op with
 | .mapUpdate T x y z| .insert T x y z=>match aZ P T with
  |some ⟨.map K _,_,_,_⟩=>match bp n e x with
   |some m=>match bp n e y with
    |some k=>match bp n e z with
     |some v=>some (K,m,k,v)
     |none=>none
    |none=>none
   |none=>none
  |_=>none
 |_=>none
theorem Fp(k:κ)(v:Value):∀(F:List (κ×Value)) (i:Nat),tV k v F i=F.set i (k,v)
 | [],_=>rfl
 |_::_,0=>rfl
 |x::l,i+1=>by simp only[tV,Fp k v l i,List.set_cons_succ]
theorem GN{kv:κ→Value}{k:κ}{v:Value}:∀(es:List MapEntry) (F:List (κ×Value)) (i:Nat),es.map (fun e=>(e.key,e.val))=F.map (fun x=>(kv x.1,x.2))→(es.modify i fun e=>{e with key:=kv k,val:=v}).map (fun e=>(e.key,e.val))=(tV k v F i).map (fun x=>(kv x.1,x.2))
 | [],[],_,_=>by simp[tV]
 | [],_::_,_,h=>by simp at h
 |_::_,[],_,h=>by simp at h
 |e::es,x::F,0,h=>by
  simp only[List.map_cons,List.cons.injEq] at h
  simp[tV,h.2]
 |e::es,x::F,i+1,h=>by
  simp only[List.map_cons,List.cons.injEq] at h
  simp[tV,h.1,GN es F i h.2]
theorem xg{kx v:Value}:∀(es:List MapEntry) (i:Nat),(es.modify i fun e=>{e with key:=kx,val:=v}).map (·.born)=es.map (·.born)
 | [],i=>by simp
 |e::es,0=>by simp
 |e::es,i+1=>by simp[xg es i]
theorem jmu[DecidableEq κ]{kv:κ→Value}{F:List (κ×Value)}{K:TypeId}{L:Cells}(i:Nat)(k:κ)(v:Value)(hk:SC X.P K kv)(hm:ki r kv F L)(hj:∀L',ki r kv (mD k v F) L'→J X (nH [i] undef L' o))
 (hv:fx X.n (muV X.P X.n) o=some (K,.map (some r),kv k,v):=by kernel_rfl)(hB:eA [i] o=some L:=by kernel_rfl):J X o:=by
 obtain⟨ops,i0,todo,kk,e,w,kn,p,rfl,ho,hw,hc⟩:=dG hv
 intro bY
 rcases p with ⟨dst,op,ty,pos,db,g⟩
 have main:∀T x y z,(op= .mapUpdate T x y z∨op= .insert T x y z)→muV X.P X.n ⟨dst,.mapUpdate T x y z,ty,pos,db,g⟩ e=some (K,.map (some r),kv k,v)→ab X.C X.fn X.aB ops (i0::todo) (KQ X kk) (A X.n e X.D) ⟨X.ro,den w⟩:=by
  intro T x y z heq hc
  simp only[muV] at hc
  split at hc<;>try (cases hc;done)
  rename_i K' E' _ _ _ ee
  split at hc<;>try (cases hc;done)
  rename_i m hx
  split at hc<;>try (cases hc;done)
  rename_i k' hy
  split at hc<;>try (cases hc;done)
  rename_i v' hz
  simp only[Option.some.injEq,Prod.mk.injEq] at hc
  obtain⟨rfl,rfl,rfl,rfl⟩:=hc
  obtain⟨bD,tf⟩:=aw ee
  have hp:=bL hB
  obtain⟨es,ck,rfl,C4⟩:=hm
  obtain⟨L1,R1,bB⟩:=List.append_of_mem (hp.mem_iff.2 (List.mem_append_left _ List.mem_cons_self))
  have hle:∀L',ki r kv (mD k v' F) [(r,L')]→ab X.C X.fn X.aB ops todo (KQ X kk) (A X.n (upd dst undef e) X.D) ⟨X.ro,L1++(r,L')::R1⟩:=by
   intro L' hL
   have:=hj _ hL
   rw[oC ho] at this
   have:=this bY
   simp only[JP,gI] at this
   refine this.more X.hC (dZ (J:=[]) ?_ (Sub.refl _))
   have hp':(den w).Perm ([(r,.map es ck)]++den (dL [i] 0 w)):=hp
   have aRP:den w=L1++(r,.map es ck)::R1:=bB
   rw[aRP] at hp'
   have SV:=(List.perm_middle.symm.trans hp').cons_inv
   rw[List.append_nil]
   exact List.perm_middle.trans (List.Perm.cons _ SV)
  have jK:(⟨X.ro,den w⟩:St).has r (.map es ck):= .inr (by show _∈den w;rw[show den w=_ from bB];exact fH)
  refine bV X.hC ho hw (by rcases heq with rfl|rfl<;>simp) ?_
  have hex:∀f:Operand→Value,execOp f ⟨dst,op,ty,pos,db,g⟩=(do Instr.mapUpdate T (f x) (f y) (f z);pure .skip:Sem Next):=by
   intro f;rcases heq with rfl|rfl<;>simp only[execOp]
  rw[hex,aG hx,aG hy,aG hz]
  simp only[Instr.mapUpdate,aa,a8 tf]
  refine cH jK rfl rfl ?_
  simp only[aa]
  refine hk.chk _ _ ?_
  simp only[aa]
  refine hk.find k _ F C4.1 ?_
  have fin:∀ob,ki r kv (mD k v' F) [(r,ob)]→upon X.C X.P X.aB dst (A X.n e X.D) (fun a' s'=>ab X.C X.fn X.aB ops todo (KQ X kk) a' s') (KQ X kk) .skip ⟨X.ro,L1++(r,ob)::R1⟩:=by
   intro ob hL
   show ab _ _ _ _ _ _ _ _
   have:=hle ob hL
   rw[←aY] at this
   exact this
  cases yg:sJ k F 0 with
  |some u=>
   obtain⟨j,u⟩:=u
   have S0:=qU yg
   simp only[Nat.sub_zero] at S0
   have aSP:((es[j]?).map (·.key)).getD (kv k)=kv k:=by
    have h1:(es.toList.map (fun e=>(e.key,e.val)))[j]?=some (kv k,u):=by rw[C4.1];simp[S0.2]
    simp only[List.getElem?_map,Array.getElem?_toList] at h1
    cases he:es[j]? with
    |none=>rfl
    |some e1=>rw[he] at h1;simp at h1;simp[h1.1]
   simp only[aa,Instr.keyThatStays,aSP,hk.stay,if_true,ae]
   refine eL rfl bB rfl<|fin _ ⟨_,_,rfl,?_,?_,?_⟩
   ·simp only[Array.toList_modify,mD,yg]
    exact GN _ _ _ C4.1
   ·simp only[Array.toList_modify,xg];exact C4.2.1
   intro e1 h1
   have:e1.born∈((es.toList.modify j fun e=>{e with key:=kv k,val:=v'}).map (·.born)):=List.mem_map_of_mem (by simpa using h1)
   rw[xg] at this
   obtain⟨e2,h3,h4⟩:=List.mem_map.1 this
   rw[←h4];exact C4.2.2 e2 h3
  |none=>
   refine eL rfl bB rfl<|fin _ ⟨_,_,rfl,?_,?_,?_⟩
   ·simp only[Array.toList_push,List.map_append,mD,yg,C4.1];rfl
   ·simp only[Array.toList_push,List.map_append,List.map_cons,List.map_nil]
    refine List.nodup_append.2 ⟨C4.2.1,by simp,?_⟩
    intro a ha b hb
    obtain⟨e2,h3,rfl⟩:=List.mem_map.1 ha
    have:=C4.2.2 e2 h3
    simp only[List.mem_singleton] at hb
    omega
   intro e1 h1
   simp only[Array.toList_push,List.mem_append,List.mem_singleton] at h1
   rcases h1 with h1|rfl
   ·have:=C4.2.2 e1 h1;omega
   exact Nat.lt_succ_self _
 have hc2:=hc
 unfold muV at hc
 split at hc<;>try (cases hc;done)
 ·rename_i T x y z aA
  dsimp only at aA
  exact main T x y z (.inl aA) (by rw[←hc2,aA])
 rename_i T x y z aA
 dsimp only at aA
 refine main T x y z (.inr aA) ?_
 rw[←hc2,aA];rfl
end
attribute [irreducible] luV ato muV
section
variable {X:Cx} {o:Option JS}
def LV(P:Program)(n:Nat)(p:Oper)(e:Env):Option (FuncId×List Value):=match p.op with
 | .call ⟨.invoke x name,xs,_⟩=>match bp n e x with
  |some (.iface t v)=>match bw P (method (P.types.size+Made.depth) t v name) with
   |some (f,r)=>match yj n e xs.toList with
    |some vs=>bif BZ P f then some (f,r::vs) else none
    |none=>none
   |none=>none
  |_=>none
 |_=>none
theorem ajE(h:LV P n p e=some (f,vs)):FF P f∧∃x name xs at_ t v r ws,p.op= .call ⟨.invoke x name,xs,at_⟩∧bp n e x=some (.iface t v)∧bw P (method (P.types.size+Made.depth) t v name)=some (f,r)∧yj n e xs.toList=some ws∧vs=r::ws:=by
 unfold LV at h
 split at h<;>try (cases h;done)
 rename_i x name xs at_ aA
 split at h<;>try (cases h;done)
 rename_i t v hx
 split at h<;>try (cases h;done)
 rename_i f0 r hm
 split at h<;>try (cases h;done)
 rename_i ws sB
 cases hb:BZ P f0 with
 |false=>rw[hb] at h;cases h
 |true=>
  rw[hb] at h
  simp only[cond_true,Option.some.injEq,Prod.mk.injEq] at h
  obtain⟨rfl,rfl⟩:=h
  exact⟨lj hb,x,name,xs,at_,t,v,r,ws,aA,hx,hm,sB,rfl⟩
theorem jpI{V:Value}(hf:∀aC,Sub X.ro aC→dz X.P f vs aC V)(hj:J X (MT [] V o))(h1:dP X.n (LV X.P X.n) o=some (f,vs):=by kernel_rfl)(h3:eA [] o=some []:=by kernel_rfl):J X o:=by
 refine jGN h1 h3 (fun s p e ho hh hc=>?_) hj
 obtain⟨ff,x,name,xs,at_,t,v,r,ws,aA,hx,hm,sB,rfl⟩:=ajE hc
 rcases p with ⟨dst,op,ty,pos,db,g⟩
 dsimp only at aA;subst aA
 refine⟨rfl,fun s0 G7 vo ops i tz rest hw s' hs todo Q hk=>?_⟩
 refine bV X.hC tz hw (by simp) ?_
 have e1:=aG (bk (rest:=rest) hx)
 have e2:xs.map (ev X.n (e++rest))=⟨ws⟩:=sG (xN sB)
 simp only[execOp,resolve,e1,e2,ae]
 have hex:((#[Value.iface t v]++(⟨ws⟩:Array Value)).extract 1 (#[Value.iface t v]++(⟨ws⟩:Array Value)).size)=⟨ws⟩:=by simp
 have h0:(#[Value.iface t v]++(⟨ws⟩:Array Value))[0]?=some (.iface t v):=by simp
 simp only[invoke,h0,hex,callMethod,aa,fo]
 refine aX hm ?_
 have ng:(#[r]++⟨ws⟩:Array Value)=⟨r::ws⟩:=by simp
 rw[ng]
 refine kz ff ?_
 have hu:=(dz.use (s:=⟨X.ro,[]⟩) (sz:=s') (fun b o hb=>hs _ _ (G7 _ _ hb)) (fun aC h1=>hf aC fun b ob hb=>h1 b ob (.inl hb))).weaken X.hC
 refine Fn.mono hu fun en s1 Ef=>?_
 obtain⟨rfl,hle⟩:=Ef
 show ab _ _ _ _ _ _ _ _
 rw[aY]
 exact hk.more X.hC hle
theorem jS{f:Oper→Env→Option β}{r:β}(ps:List Nat)(B:Cells)(hv:fx X.n f o=some r)(hB:eA ps o=some B)
 (hy:∀p e,f p e=some r→(∀c,p.op≠ .defer c)∧∀(R:Cells) (Q:Next→St→Prop) (E:Halt→St→Prop),(∀v L',Φ v L'→Q (.value v) ⟨X.ro,L'++R⟩)→bR X.P (execOp (ev X.n e) p) ⟨X.ro,B++R⟩ Q E)
 (hj:∀v L',Φ v L'→J X (nH ps v L' o)):J X o:=by
 obtain⟨ops,i,todo,k,e,w,kn,p,rfl,ho,hw,hc⟩:=dG hv
 intro bY
 have hp:=bL hB
 obtain⟨hd,ht⟩:=hy p e hc
 have:ab X.C X.fn X.aB ops (i::todo) (KQ X k) (A X.n e X.D) ⟨X.ro,B++den (dL ps 0 w)⟩:=by
  refine bV X.hC ho hw hd<|ht _ _ _ fun v L' qF=>?_
  have:=hj v L' qF
  rw[oC ho] at this
  have:=this bY
  simp only[JP,gI] at this
  show ab _ _ _ _ _ _ _ _
  rw[aY]
  exact this
 have hle:(⟨X.ro,B++den (dL ps 0 w)⟩:St).le ⟨X.ro,den w⟩:=⟨[],by rw[List.append_nil];exact hp,fun b o hb=> .inl hb⟩
 exact this.more X.hC hle
end
attribute [irreducible] LV
section
variable {X:Cx} {o:Option JS}
def iaA(P:Program)(n:Nat)(p:Oper)(e:Env):Option (Nat×Nat×Int×Nat×Nat):=match p.op with
 | .indexAddr T x y=>match aZ P T with
  |some ⟨.array len E,_,_,_⟩=>match aZ P E with
   |some te=>match bp n e x with
    |some (.pointer (some ⟨b,off,none⟩))=>match bp n e y with
     |some (.int _ ix)=>some (b,off,ix,len,te.size)
     |_=>none
    |_=>none
   |none=>none
  |_=>none
 |_=>none
theorem GY{len:Nat}(ix:Int)(hi:0≤ix∧ix <len)(hj:J X (kB (.pointer (some ⟨b,off+ix.toNat*sz,none⟩)) o))(hv:dP X.n (iaA X.P X.n) o=some (b,off,ix,len,sz):=by kernel_rfl):J X o:=by
 refine jG hv (fun s p e ho hh hf=>?_) hj
 unfold iaA at hf
 split at hf<;>try (cases hf;done)
 rename_i T x y aA
 split at hf<;>try (cases hf;done)
 rename_i aCm E _ _ _ ee
 split at hf<;>try (cases hf;done)
 rename_i te uy
 split at hf<;>try (cases hf;done)
 rename_i b' ata hx
 split at hf<;>try (cases hf;done)
 rename_i ik ix' hy
 simp only[Option.some.injEq,Prod.mk.injEq] at hf
 obtain⟨rfl,rfl,rfl,rfl,rfl⟩:=hf
 obtain⟨bD,tf⟩:=aw ee
 obtain⟨BG,rh⟩:=aw uy
 have key:∀s,Yields X.P X.n e p s (.pointer (some ⟨b',ata+ix'.toNat*te.size,none⟩)):=by
  intro s s' nF f hf K E hK
  simp only[execOp,aA,Instr.indexAt,Instr.sureAddr,hf _ _ hx,hf _ _ hy,asIntOf,aa,ae,a8 tf,hi,and_self,if_true,cv rh,dY]
  exact hK
 exact⟨by rw[aA];rfl,fun _=>key _,fun _=>key⟩
def saV(P:Program)(n:Nat)(p:Oper)(e:Env):Option (Nat×Nat×Int×Nat):=match p.op with
 | .slice T x none (some z) none=>match aZ P T with
  |some ⟨.array len E,_,_,_⟩=>match aZ P E with
   |some _=>match bp n e x with
    |some (.pointer (some ⟨b,off,none⟩))=>match bp n e z with
     |some (.int _ ix)=>some (b,off,ix,len)
     |_=>none
    |_=>none
   |none=>none
  |_=>none
 |_=>none
theorem jah{len:Nat}(hi:Int)(hl:0≤hi∧hi≤len)(hj:J X (kB (.slice (some ⟨b,off,none⟩) hi.toNat len) o))(hv:dP X.n (saV X.P X.n) o=some (b,off,hi,len):=by kernel_rfl):J X o:=by
 refine jG hv (fun s p e ho hh hf=>?_) hj
 unfold saV at hf
 split at hf<;>try (cases hf;done)
 rename_i T x z aA
 split at hf<;>try (cases hf;done)
 rename_i aCm E _ _ _ ee
 split at hf<;>try (cases hf;done)
 rename_i te uy
 split at hf<;>try (cases hf;done)
 rename_i b' ata hx
 split at hf<;>try (cases hf;done)
 rename_i ik ix' hy
 simp only[Option.some.injEq,Prod.mk.injEq] at hf
 obtain⟨rfl,rfl,rfl,rfl⟩:=hf
 obtain⟨bD,tf⟩:=aw ee
 obtain⟨BG,rh⟩:=aw uy
 have key:∀s,Yields X.P X.n e p s (.slice (some ⟨b',ata,none⟩) ix'.toNat aCm):=by
  intro s s' nF f hf K E hK
  simp only[execOp,aA,Option.map_some,Option.map_none,Instr.sliceAt,Instr.sliceBounds,Instr.sliceBound,Instr.sureAddr,hf _ _ hx,hf _ _ hy,asIntOf,aa,ae,a8 tf,Option.isSome_none,Bool.false_eq_true,if_false,hl,and_self,if_true,cv rh,Nat.zero_mul,dY,Nat.add_zero,ite_self,Nat.sub_zero]
  exact hK
 exact⟨by rw[aA];rfl,fun _=>key _,fun _=>key⟩
end
theorem oI{v:Value}(h:s.has b (.cells ⟨l⟩ t fz))(hv:nth l off=some v):cF s b off 1 [v]:=
 ⟨_,_,_,h,by rw[su] at hv;simp[jh (show off+1≤l.length by have:=(List.getElem?_eq_some_iff.1 hv).1;omega),List.drop_eq_getElem_cons (List.getElem?_eq_some_iff.1 hv).1,(List.getElem?_eq_some_iff.1 hv).2]⟩
theorem adL{o m:Nat}{v:Value}(h:cF s b o m l)(hv:nth l off=some v):cF s b (o+off) 1 [v]:=
 h.part off 1 (by rw[su] at hv;simp[jh (show off+1≤l.length by have:=(List.getElem?_eq_some_iff.1 hv).1;omega),List.drop_eq_getElem_cons (List.getElem?_eq_some_iff.1 hv).1,(List.getElem?_eq_some_iff.1 hv).2])
open Go.ConcR (KK wgBlock WgAt stA smA rd wr)
def TT(T:Goroutine→St→Prop)(b:Frame)(Ag:List Item)(cs:List Frame)(n:Nat)(D:List Deferred)(ro:Nat→Option Obj)(o:Option JS):Prop:=
 ∀e w kn,o=some ⟨.fin .normal,e,w,kn⟩→Knows ro kn.c→T (G (aL b (A n e D) Ag) cs) ⟨ro,den w⟩
def CT(hm:P.follows .mixedOrders=true)(hT:Closed P main T)(b:Frame)(Ag:List Item)(cs:List Frame)(n:Nat)(D:List Deferred)(ro:Nat→Option Obj):Cx:=
 ⟨P,fun m T'=>m=main∧T'=T,by rintro _ _ ⟨rfl,rfl⟩;exact hT,hm,b.fn,none,n,D,ro,jZ T b Ag cs⟩
def Vt:Option JS→Bool
 |some ⟨.fin .normal,_,_,_⟩=>true
 |_=>false
def opO(ops:Array Oper)(todo:List Nat):Option JS→Option JS
 |some ⟨.fin .normal,e,w,kn⟩=>some ⟨.ops ops todo [],e,w,⟨kn.c,[]⟩⟩
 |_=>none
def cdO(c:Code):Option JS→Option JS
 |some ⟨.fin .normal,e,w,kn⟩=>some ⟨.code c [],e,w,⟨kn.c,[]⟩⟩
 |_=>none
def stO(dst:Option Tmp)(v:Value):Option JS→Option JS
 |some ⟨p,e,w,kn⟩=>some ⟨p,upd dst v e,w,kn⟩
 |none=>none
def nwO(dst:Option Tmp)(v:Value)(q:Nat)(ob:Obj):Option JS→Option JS
 |some ⟨p,e,w,kn⟩=>some ⟨p,upd dst v e,.b q ob::w,kn⟩
 |none=>none
def adO(L:Cells):Option JS→Option JS
 |some ⟨p,e,w,kn⟩=>some ⟨p,e,.l L::w,kn⟩
 |none=>none
def evO(n:Nat)(x:Operand):Option JS→Option Value
 |some ⟨_,e,_,_⟩=>bp n e x
 |none=>none
def aVY(n:Nat)(xs:List Operand):Option JS→Option (List Value)
 |some ⟨_,e,_,_⟩=>yj n e xs
 |none=>none
def vaO(P:Program)(n:Nat)(a:Oper):Option JS→Option Value
 |some ⟨_,e,_,_⟩=>acE P n e a
 |none=>none
theorem aa7(h:Vt o=true):∃e w kn,o=some ⟨.fin .normal,e,w,kn⟩:=by
 unfold Vt at h
 split at h
 ·exact⟨_,_,_,rfl⟩
 cases h
def fr0(f:FuncId)(k:CallKind):Frame:={(default:Frame) with fn:=f,kind:=k,roundOf:=none}
section
variable {P:Program} {main:Bool} {T:Goroutine→St→Prop} {b:Frame} {Ag:List Item} {cs:List Frame} {n:Nat} {D:List Deferred} {ro:Nat→Option Obj} {o:Option JS} {ops:Array Oper}
theorem ac6(h:TT T b Ag cs n D ro o)(hQ:X.Q=jZ T b Ag cs)(hn:X.n=n)(hD:X.D=D)(A9:X.ro=ro)(h1:Vt o=true):J X o:=by
 subst hn hD A9
 obtain⟨e,w,kn,rfl⟩:=aa7 h1
 intro bY
 show X.Q .normal _ _
 rw[hQ]
 exact h _ _ _ rfl bY
theorem x5{hm:P.follows .mixedOrders=true}{hT:Closed P main T}(h:TT T b Ag cs n D ro o)(h1:Vt o=true:=by kernel_rfl):J (CT hm hT b Ag cs n D ro) o:=ac6 h rfl rfl rfl rfl h1
theorem aAt{hm:P.follows .mixedOrders=true}{hT:Closed P main T}(h:TT T b Ag cs n D ro o)(h1:Vt o=true:=by kernel_rfl):J ((CT hm hT b Ag cs n D pZ).at ro) o:=ac6 h rfl rfl rfl rfl h1
theorem aAs{hm:P.follows .mixedOrders=true}{hT:Closed P main T}(h:TT T b Ag cs n (eH bd::D) ro o)(h1:Vt o=true:=by kernel_rfl):J ((CT hm hT b Ag cs n D ro).dm bd) o:=ac6 h rfl rfl rfl rfl h1
theorem vM(hm:P.follows .mixedOrders=true)(hT:Closed P main T)(hj:J (CT hm hT b Ag cs n D ro) (opO ops todo o))(hk:b.kind≠ .early:=by decide)(hr:b.roundOf=none:=by rfl):TT T b (.inRegion ops todo::Ag) cs n D ro o:=by
 rintro e w kn rfl bY
 exact hj bY main T ⟨rfl,rfl⟩ b Ag cs rfl hk hr fun e a s q=>q
theorem aAu(hm:P.follows .mixedOrders=true)(hT:Closed P main T){c:Code}(hj:J (CT hm hT b Ag cs n D ro) (cdO c o))(hk:b.kind≠ .early:=by decide)(hr:b.roundOf=none:=by rfl):TT T b (.code c::Ag) cs n D ro o:=by
 rintro e w kn rfl bY
 exact hj bY main T ⟨rfl,rfl⟩ b Ag cs rfl hk hr fun e a s q=>q
theorem tSt(hT:Closed P main T)(ef:Env)(wf:List Sg)(ps:List Nat)(h:∀rest,TT T b Ag cs n D ro (some ⟨.fin .normal,ef++rest,wf,⟨[],[]⟩⟩))(h1:uW (pU ef) o=some ef:=by kernel_rfl)(h2:rB ps o=some wf:=by kernel_rfl)(h3:lkE (pU ef) ef=some ef:=by kernel_rfl):TT T b Ag cs n D ro o:=by
 rintro e w kn rfl bY
 obtain⟨rest,he⟩:=gA (n:=n) (D:=D) (kV (by rw[tt] at h1;exact h1)) (kV h3)
 rw[he]
 exact hT.mono _ ⟨ro,den wf⟩ _ (dZ (lY h2) (Sub.refl _)) (h rest _ _ _ rfl fun _ h=>(by cases h))
section
variable {k:List Item} {rest l:List Code} (hT:Closed P main T)
include hT
theorem qp(hl:gR l= .region id ops false::rest)(h:∀l',gR l'=rest→TT T b (.inRegion ops (List.range ops.size)::(l'.map .code++k)) cs n D ro o):TT T b (l.map .code++k) cs n D ro o:=
 fun e w kn ho bY=>dS hT hl fun l' zi=>h l' zi e w kn ho bY
theorem Wy{c:Operand}{x y:Code}{t q:Bool}(hl:gR l= .cond c x y::rest)(hq:q=t)(h:∀l',gR l'=rest→TT T b (.code (if t then x else y)::(l'.map .code++k)) cs n D ro o)(hc:evO n c o=some (.bool q):=by kernel_rfl):TT T b (l.map .code++k) cs n D ro o:=by
 subst hq
 rintro e w kn rfl bY
 exact AX hT hl (by rw[eJ];exact aG hc) fun l' zi=>h l' zi e w kn rfl bY
theorem Mu{c:Code}(hl:gR l= .block id c::rest)(h:∀l',gR l'=rest→TT T b ([c].map .code++(.inBlock id::(l'.map .code++k))) cs n D ro o):TT T b (l.map .code++k) cs n D ro o:=
 fun e w kn ho bY=>wo hT hl fun l' zi=>h l' zi e w kn ho bY
theorem apo{c:Code}(hl:gR l= .loop c::rest)(h:∀l',gR l'=rest→TT T b ([c].map .code++(.inLoop c::(l'.map .code++k))) cs n D ro o):TT T b (l.map .code++k) cs n D ro o:=
 fun e w kn ho bY=>M1 hT hl fun l' zi=>h l' zi e w kn ho bY
theorem apq{c:Code}(hl:gR l=c::rest)(h:∀l',gR l'=rest→TT T b (.code c::(l'.map .code++k)) cs n D ro o):TT T b (l.map .code++k) cs n D ro o:=
 fun e w kn ho bY=>og hT hl fun l' zi=>h l' zi e w kn ho bY
theorem apm(h:TT T b k cs n D ro o):TT T b (.code .skip::k) cs n D ro o:=fun e w kn ho bY=>N2 hT (h e w kn ho bY)
theorem apr{k':List Item}(hk:exitTo id k=some k')(h:TT T b k' cs n D ro o):TT T b (.code (.exit id)::k) cs n D ro o:=fun e w kn ho bY=>N3 hT hk (h e w kn ho bY)
theorem aps(h:TT T b k cs n D ro o):TT T b (.inBlock id::k) cs n D ro o:=fun e w kn ho bY=>Dl hT (h e w kn ho bY)
theorem Wx(h:TT T b k cs n D ro o):TT T b (.inRegion ops []::k) cs n D ro o:=fun e w kn ho bY=>iB hT (h e w kn ho bY)
theorem ac7{c:Code}(h:TT T b ([c].map .code++(.inLoop c::k)) cs n D ro o):TT T b (.inLoop c::k) cs n D ro o:=fun e w kn ho bY=>Ac hT (h e w kn ho bY)
theorem aAo{a:Oper}{f:Nat→Value}{ob:Obj}(ho:ops[i]?=some a) (hg:a.guard=none) (tA:∀e q,T8 P (execOp (ev n e) a) q=some (ob,f q)) (hk:b.kind≠ .early) (hr:b.roundOf=none)
 (h:∀q,TT T b (.inRegion ops todo::k) cs n D ro (nwO a.dst (f q) q ob o)):TT T b (.inRegion ops (i::todo)::k) cs n D ro o:=by
 rintro e w kn rfl bY
 refine th hT ho (dF _ _ hg) hk hr ?_
 rw[eJ]
 refine GI (f:=f) (fun q _=>⟨_,rfl,?_⟩) _ (tA e)
 rw[aY]
 have:=h q _ _ _ rfl bY
 rw[iW] at this
 exact this
theorem aAl{a:Oper}(v:Value)(ho:ops[i]?=some a) (hg:a.guard=none) (hk:b.kind≠ .early) (hr:b.roundOf=none) (h:TT T b (.inRegion ops todo::k) cs n D ro (stO a.dst v o)) (hv:vaO P n a o=some v:=by kernel_rfl):TT T b (.inRegion ops (i::todo)::k) cs n D ro o:=by
 rintro e w kn rfl bY
 refine th hT ho (dF _ _ hg) hk hr ?_
 rw[eJ]
 refine AA hv _ (Ext.refl _) _ (fun _ _ h=>aG h) _ _ ⟨v,rfl,?_⟩
 rw[aY]
 exact h _ _ _ rfl bY
theorem tLd{a:Oper}(v:Value)(ho:ops[i]?=some a) (hg:a.guard=none) (aA:a.op= .load U x) (ht:(aZ P U).map (·.agg)=some false) (hk:b.kind≠ .early) (hr:b.roundOf=none) (hb:∀e w kn,o=some ⟨.fin .normal,e,w,kn⟩→(⟨ro,den w⟩:St).has q (.cells ⟨[v]⟩ t fz))
 (h:TT T b (.inRegion ops todo::k) cs n D ro (stO a.dst v o)) (hx:evO n x o=some (.pointer (some ⟨q,0,none⟩)):=by kernel_rfl):TT T b (.inRegion ops (i::todo)::k) cs n D ro o:=by
 rintro e w kn rfl bY
 refine th hT ho (dF _ _ hg) hk hr ?_
 rw[eJ]
 cases ee:aZ P U with
 |none=>rw[ee] at ht;cases ht
 |some z=>
 rw[ee] at ht
 simp only[Option.map_some,Option.some.injEq] at ht
 obtain⟨bD,tf⟩:=aw ee
 rw[ht] at tf
 simp only[execOp,aA,Instr.loadAt,aG hx,Instr.sureAddr,loadVar,aa,ae,kM tf,Bool.false_eq_true,if_false]
 refine vL ⟨[v],t,fz,hb _ _ _ rfl,rfl⟩ ⟨v,rfl,?_⟩
 rw[aY]
 exact h _ _ _ rfl bY
theorem aOw{a:Oper}(v:Value)(ho:ops[i]?=some a) (hg:a.guard=none) (aA:a.op= .load U x) (ht:(aZ P U).map (·.agg)=some false) (hk:b.kind≠ .early) (hr:b.roundOf=none) (ps:List Nat) (t:TypeId)
 (h:TT T b (.inRegion ops todo::k) cs n D ro (stO a.dst v o)) (hx:evO n x o=some (.pointer (some ⟨q,0,none⟩)):=by kernel_rfl) (hd:eA ps o=some [(q,.cells ⟨[v]⟩ t (0,0))]:=by kernel_rfl):TT T b (.inRegion ops (i::todo)::k) cs n D ro o:=
 tLd hT v ho hg aA ht hk hr (fz:=(0,0)) (t:=t) (q:=q) (fun e w kn he=>by
  subst he
  exact .inr ((bL hd).mem_iff.2 (List.mem_append_left _ (List.mem_singleton.2 rfl)))) h hx
end
theorem asf(hT:Closed P main T){a:Oper}{xs:Array Operand}(ho:ops[i]?=some a) (hg:a.guard=none) (aA:a.op= .defer ⟨.value (.func f),xs,ats⟩) (hk:b.kind≠ .early) (hr:b.roundOf=none)
 (h:TT T b k cs n ({target:= .fn (.func f) ⟨[]⟩,args:=⟨vs⟩}::D) ro (stO a.dst undef o)) (hx:aVY n xs.toList o=some vs:=by kernel_rfl):TT T b (.inRegion ops [i]::k) cs n D ro o:=by
 rintro e w kn rfl bY
 have hC:∀m T',(fun m T'=>m=main∧T'=T:Class) m T'→Closed P m T':=by rintro _ _ ⟨rfl,rfl⟩;exact hT
 have key:ab (fun m T'=>m=main∧T'=T) b.fn none ops [i] (jZ T b k cs) (A n e D) ⟨ro,den w⟩:=by
  refine M0 (P:=P) hC ho (dF _ _ hg) (.inl rfl) ?_
  rw[eJ]
  have e1:ev n e (.func f)= .func (.func f) #[] #[]:=rfl
  have e2:xs.map (ev n e)=⟨vs⟩:=sG hx
  simp only[execOp,aA,resolve,e1,Deferred.ofValue,ae,e2]
  refine⟨rfl,?_⟩
  have hA:({A n e D with defers:={target:= .fn (.func f) ⟨[]⟩,args:=⟨vs⟩}::(A n e D).defers}:Act).put a.dst undef=A n (upd a.dst undef e) ({target:= .fn (.func f) ⟨[]⟩,args:=⟨vs⟩}::D):=by
   rw[←aY];rfl
  have he:(⟨[]⟩:Array Value)++(⟨vs⟩:Array Value)=⟨vs⟩:=by simp
  rw[he]
  have:=h _ _ _ rfl bY
  rw[←hA] at this
  exact fun m T' hc b' k' IY h1 h2 h3 h4=>by
   obtain⟨rfl,rfl⟩:=hc
   exact iB hT (h4 .normal _ _ this)
 exact key main T ⟨rfl,rfl⟩ b k cs rfl hk hr fun e a s q=>q
end
attribute [irreducible] Vt opO cdO
structure aj1(L:Nat→Option Obj)(X:Cells)(ro aK:Nat→Option Obj):Prop where
 of:∀q o,L q=some o→(q,o)∈X
 on:∀q o,(q,o)∈X→L q=some o
 sub:Sub ro aK
 kn:Knows aK X
 nd:(X.map (·.1)).Nodup
 ap:∀q o,(q,o)∈X→ro q=none
def bkO(L:Cells):Option JS→Option JS
 |some ⟨p,e,w,_⟩=>some ⟨p,e,.l L::w,⟨[],[]⟩⟩
 |none=>none
def TD(ps:List Nat):Option JS→Option Cells
 |some ⟨_,_,w,_⟩=>some (den (dL ps 0 w))
 |none=>none
def Xz:Option JS→Option JS
 |some ⟨p,e,_,kn⟩=>some ⟨p,e,[],⟨kn.c,[]⟩⟩
 |none=>none
theorem Dq:∀(w:List Sg) (k:Nat),dL [] k w=w
 | [],_=>rfl
 |x::w,k=>by
  simp only[dL,ba]
  rw[Dq w]
  rfl
theorem aj1.back{L:Nat→Option Obj}{X:Cells}{ro roK:Nat→Option Obj}{rwK:Cells}(h:aj1 L X ro aK)(hs:Sub aK roK):
 (∀w,aS ⟨roK,rwK⟩ w→(∀b o,L b=some o→w.heap[b]?=some o)→aS ⟨ro,X++rwK⟩ w)∧∀b,(⟨ro,X++rwK⟩:St).knows b→L b≠none∨(⟨roK,rwK⟩:St).knows b:=by
 refine⟨fun w hw hL=>⟨fun q o hq=>hw.ro q o (hs _ _ (h.sub _ _ hq)),fun q o hq=>?_,?_,fun q o hq=>?_⟩,fun q hq=>?_⟩
 ·rcases List.mem_append.1 hq with hq|hq
  ·exact hL q o (h.on q o hq)
  exact hw.rw q o hq
 ·show ((X++rwK).map (·.1)).Nodup
  rw[List.map_append,List.nodup_append]
  refine⟨h.nd,hw.nodup,fun q hq q' Eb e=>?_⟩
  subst e
  obtain⟨⟨q1,o1⟩,h1,rfl⟩:=List.mem_map.1 hq
  obtain⟨⟨q2,o2⟩,h2,e2⟩:=List.mem_map.1 Eb
  simp only at e2
  subst e2
  have h3:=hs _ _ (h.kn _ h1)
  have h4:=hw.apart _ _ h2
  dsimp only at h3 h4
  rw[h4] at h3
  cases h3
 ·show ro q=none
  rcases List.mem_append.1 hq with hq|hq
  ·exact h.ap q o hq
  have h2:roK q=none:=hw.apart q o hq
  cases hr:ro q with
  |none=>rfl
  |some o'=>rw[hs _ _ (h.sub _ _ hr)] at h2;cases h2
 rcases hq with hq| ⟨o,hq⟩
 ·have hq:ro q≠none:=hq
  cases hr:ro q with
  |none=>exact absurd hr hq
  |some o'=>exact .inr (.inl (by show roK q≠none;rw[hs _ _ (h.sub _ _ hr)];simp))
 rcases List.mem_append.1 hq with h'|h'
 ·exact .inl (by rw[h.on q o h'];simp)
 exact .inr (.inr ⟨o,h'⟩)
section
variable {ι:Type} {E:ep ι} {Q:Machine→Outcome→World→Trace→Prop} {b:Frame} {Ag:List Item} {cs:List Frame} {n:Nat} {D:List Deferred} {ro:Nat→Option Obj} {o:Option JS} {ops:Array Oper} {L:Nat→Option Obj}
theorem ase{tm:Bool}(iw ic:Nat)(X:Cells)(iZ:Closed E.P true (TL E.P eT (fun _=>none) (Calm E.os E.out) Q))
 (h:∀L aK,aj1 L X ro aK→E.Wg≠E.Ch→L E.Ch=none→TT (TM E L Q 0 false [] 0) b Ag cs n D aK (Xz o))
 (hW:eA [iw,ic] o=some [(E.Wg,wgBlock E.ty 0 0),(E.Ch,.chan 0 #[] false 0 0 tm)]:=by kernel_rfl)(hX:TD [iw,ic] o=some X:=by kernel_rfl):TT (TL E.P eT (fun _=>none) (Calm E.os E.out) Q) b Ag cs n D ro o:=by
 rintro e w kn rfl bY
 refine Closed.jV iZ rfl fun⟨w0,XV⟩=>?_
 have hp:=bL hW
 simp only[TD,Option.some.injEq] at hX
 have SV:=hp
 dsimp only at SV
 rw[hX] at SV
 have hm:∀x,x∈den w↔x=(E.Wg,wgBlock E.ty 0 0)∨x=(E.Ch,.chan 0 #[] false 0 0 tm)∨x∈X:=fun x=>by
  rw[SV.mem_iff]
  simp
 have mw:=(SV.map (·.1)).nodup_iff.1 XV.nodup
 simp only[List.cons_append,List.nil_append,List.map_cons,List.nodup_cons,List.mem_cons,not_or] at mw
 obtain⟨⟨eg,hW1⟩,hC1,QW⟩:=mw
 have Am:∀x∈X,x∈den w:=fun x hx=>(hm x).2 (.inr (.inr hx))
 have aE9:(E.Wg,wgBlock E.ty 0 0)∈den w:=(hm _).2 (.inl rfl)
 have ah5:(E.Ch,Obj.chan 0 #[] false 0 0 tm)∈den w:=(hm _).2 (.inr (.inl rfl))
 have Nu:∀y∈X,y.1≠E.Wg∧y.1≠E.Ch:=fun y hy=>⟨fun e=>hW1 (e▸List.mem_map.2 ⟨_,hy,rfl⟩),fun e=>hC1 (e▸List.mem_map.2 ⟨_,hy,rfl⟩)⟩
 let L:Nat→Option Obj:=fun q=>(X.find? fun y=>y.1==q).map (·.2)
 have U3:∀q o,L q=some o→(q,o)∈X:=fun q o hq=>by
  obtain⟨y,hy,rfl⟩:=Option.map_eq_some_iff.1 hq
  obtain⟨h1,h2⟩:=oS hy
  subst h2
  exact h1
 have aUJ:∀q o,(q,o)∈X→L q=some o:=fun q o hq=>by
  show (X.find? fun y=>y.1==q).map (·.2)=some o
  rw[wV QW hq];rfl
 have U4:L E.Ch=none:=by
  cases hq:L E.Ch with
  |none=>rfl
  |some o=>exact absurd rfl (Nu _ (U3 _ _ hq)).2
 have ng:∀q o,(q,o)∈X→ro q=none:=fun q o hq=>XV.apart q o (Am _ hq)
 have fM:Sub ro (St.freeze ⟨ro,X⟩).ro:=fun q o hq=>St.od (s:=⟨ro,X⟩) hq fun q o hq=>ng q o hq
 have agR:∀q,(∃o,(q,o)∈den w)→(q=E.Wg∨q=E.Ch)→¬(St.freeze ⟨ro,X⟩).knows q:=by
  rintro q ⟨o,ho⟩ hq (hk| ⟨o',Fx⟩)
  ·simp only[St.freeze] at hk
   split at hk
   ·rename_i y hy
    obtain⟨h1,h2⟩:=oS hy
    have:=Nu _ h1
    rcases hq with e|e
    ·exact this.1 (h2.trans e)
    exact this.2 (h2.trans e)
   exact hk (XV.apart q o ho)
  cases Fx
 have aEe:aj1 L X ro (St.freeze ⟨ro,X⟩).ro:=⟨U3,aUJ,fM,fun x hx=>St.tD (s:=⟨ro,X⟩) (by rcases x with ⟨q,o⟩;exact hx) QW,QW,ng⟩
 refine O9 (E:=E) (L:=L) (s':=St.freeze ⟨ro,X⟩) rfl eg aE9 ⟨tm,ah5⟩ ?_ (agR _ ⟨_,aE9⟩ (.inl rfl)) (agR _ ⟨_,ah5⟩ (.inr rfl)) (fun q ⟨o,ho⟩=>by cases ho) (fun q o hq=>⟨.inr (Am _ (U3 _ _ hq)),Nu _ (U3 _ _ hq)⟩) ?_
 ·refine⟨den w,by simp[St.freeze],fun q o hq=>?_⟩
  simp only[St.freeze] at hq
  split at hq
  ·rename_i y hy
   obtain⟨h1,h2⟩:=oS hy
   cases hq
   subst h2
   exact .inr (Am _ h1)
  exact .inl hq
 exact(h L _ aEe eg U4 _ _ _ rfl (bY.up fM)).1
theorem aOz{os:List ι}{a:Oper}{bs:List Nat}(h:TT (TM E L Q 1 false os 0) b k cs n D ro (stO a.dst (.tuple #[]) o))(ho:ops[0]?=some a) (hg:a.guard=none) (aA:a.op= .call ⟨.value (.func f),#[x,.const (.int .i64 1)],ats⟩) (hf:FF E.P f) (hk:b.kind≠ .early) (hr:b.roundOf=none) (Jt:os.length <E.max)
 (aho:Ic E.P E.ty os.length (Frame.enter E.P f #[.pointer (some ⟨E.Wg,0,none⟩),.int .i64 1] .normal)=some bs) (hbs:∀b∈bs,b=E.Wg) (hx:evO n x o=some (.pointer (some ⟨E.Wg,0,none⟩)):=by kernel_rfl):TT (TM E L Q 0 false os 0) b (.inRegion ops [0]::k) cs n D ro o:=by
 rintro e w kn rfl bY
 have hT:Closed E.P true (TM E L Q 0 false os 0):=fD (E:=E) false os (fun e=>(by cases e))
 have U2:Closed E.P true (TM E L Q 1 false os 0):=fD (E:=E) false os (fun e=>(by cases e))
 refine P7 (rest:=[]) hT ho hg hk hr aA hf ?_
 have nK:(#[x,.const (.int .i64 1)]:Array Operand).map (A n e D).eval= #[.pointer (some ⟨E.Wg,0,none⟩),.int .i64 1]:=by
  rw[eJ]
  simp only[List.map_toArray,List.map_cons,List.map_nil,aG hx]
  rfl
 rw[nK]
 refine⟨LU (E:=E) aho hbs Jt ?_,fun e=>(by cases e)⟩
 rw[fT,ho]
 simp only[Option.bind_some]
 rw[aY]
 exact(iB U2 (h _ _ _ rfl bY)).1
theorem tGo{os:List ι}(oo:ι){a:Oper}(L1:Cells)(ho:ops[i]?=some a) (hg:a.guard=none) (aA:a.op= .go ⟨.value y,#[],ats⟩) (hk:b.kind≠ .early) (hr:b.roundOf=none)
 (h:∀aK,Sub ro aK→Knows aK L1→e9 E.P false (E.JK oo) (born E.P {target:= .fn (.func f) ⟨ca⟩,args:= #[]}) ⟨aK,[]⟩∧TT (TM E L Q 0 false (os++[oo]) 0) b (.inRegion ops todo::k) cs n D aK (Xz (stO a.dst undef o)))
 (hy:evO n y o=some (.func (.func f) ⟨[]⟩ ⟨ca⟩):=by kernel_rfl) (hL:TD [] o=some L1:=by kernel_rfl):TT (TM E L Q 1 false os 0) b (.inRegion ops (i::todo)::k) cs n D ro o:=by
 rintro e w kn rfl bY
 have U2:Closed E.P true (TM E L Q 1 false os 0):=fD (E:=E) false os (fun e=>(by cases e))
 refine Closed.jV U2 rfl fun p6=>?_
 obtain⟨w0,XV⟩:=p6
 have mw:((den w).map (·.1)).Nodup:=XV.nodup
 have ng:∀q o,(q,o)∈den w→ro q=none:=XV.apart
 have fM:Sub ro (St.freeze ⟨ro,den w⟩).ro:=fun q o hq=>St.od (s:=⟨ro,den w⟩) hq ng
 have avs:Knows (St.freeze ⟨ro,den w⟩).ro L1:=fun x hx=>St.tD (s:=⟨ro,den w⟩) (by rcases x with ⟨q,o⟩;simp only[TD,Option.some.injEq] at hL;rw[←hL,Dq] at hx;exact hx) mw
 obtain⟨h1,h2⟩:=h _ fM avs
 have bW:=fun w'=>FH (P:=E.P) (main:=true) (b:=b) (a:=A n e D) (k:=k) (cs:=cs) (rest:=todo) ho hg hk hr aA (by rw[eJ];exact aG hy) w'
 have:=h2 _ _ _ rfl (bY.up fM)
 rw[←aY] at this
 exact⟨TC.mono (St.Dd ⟨ro,den w⟩) (JW (E:=E) (o:=oo) (s:=St.freeze ⟨ro,den w⟩) rfl rfl (fun w' _=>bW w') h1 this.1),fun e=>(by cases e)⟩
theorem asi{os:List ι}{a:Oper}(L1:Cells)(ho:ops[i]?=some a) (hg:a.guard=none) (aA:a.op= .go ⟨.value y,#[],ats⟩) (hk:b.kind≠ .early) (hr:b.roundOf=none)
 (h:∀aK,Sub ro aK→Knows aK L1→E.closes ⟨aK,[]⟩ (born E.P {target:= .fn (.func f) ⟨ca⟩,args:= #[]})∧TT (TM E L Q 0 true os 0) b (.inRegion ops todo::k) cs n D aK (Xz (stO a.dst undef o)))
 (hy:evO n y o=some (.func (.func f) ⟨[]⟩ ⟨ca⟩):=by kernel_rfl) (hL:TD [] o=some L1:=by kernel_rfl):TT (TM E L Q 0 false os 0) b (.inRegion ops (i::todo)::k) cs n D ro o:=by
 rintro e w kn rfl bY
 have U2:Closed E.P true (TM E L Q 0 false os 0):=fD (E:=E) false os (fun e=>(by cases e))
 refine Closed.jV U2 rfl fun p6=>?_
 obtain⟨w0,XV⟩:=p6
 have mw:((den w).map (·.1)).Nodup:=XV.nodup
 have ng:∀q o,(q,o)∈den w→ro q=none:=XV.apart
 have fM:Sub ro (St.freeze ⟨ro,den w⟩).ro:=fun q o hq=>St.od (s:=⟨ro,den w⟩) hq ng
 have avs:Knows (St.freeze ⟨ro,den w⟩).ro L1:=fun x hx=>St.tD (s:=⟨ro,den w⟩) (by rcases x with ⟨q,o⟩;simp only[TD,Option.some.injEq] at hL;rw[←hL,Dq] at hx;exact hx) mw
 obtain⟨h1,h2⟩:=h _ fM avs
 have bW:=fun w'=>FH (P:=E.P) (main:=true) (b:=b) (a:=A n e D) (k:=k) (cs:=cs) (rest:=todo) ho hg hk hr aA (by rw[eJ];exact aG hy) w'
 have:=h2 _ _ _ rfl (bY.up fM)
 rw[←aY] at this
 exact⟨TC.mono (St.Dd ⟨ro,den w⟩) (JX (E:=E) (s:=St.freeze ⟨ro,den w⟩) rfl rfl (fun w' _=>bW w') h1 this.1),fun e=>(by cases e)⟩
theorem apn{os:List ι}{a:Oper}{rc:Operand}{z:Value}{X:Cells}{aC:Nat→Option Obj}(hl:aj1 L X pZ aC)(bB:Sub aC ro)(U4:L E.Ch=none)(ho:ops[0]?=some a) (hg:a.guard=none) (SS:∀ρ,bw E.P (execOp ρ a)=some (.comm #[{chan:=ρ rc,send:=none,zero:=z}] true (.recv true))) (hk:b.kind≠ .early) (hr:b.roundOf=none)
 (Ld:∀a' oo b' v Y,os=a'++oo::b'→E.V4 oo v Y→TT (TM E L Q 0 true (a'++b') 0) b (.inRegion ops todo::k) cs n D ro (adO Y (stO a.dst (.tuple #[v,.bool true]) o)))
 (qL:os=[]→TT (TL E.P eT (fun _=>none) (Calm E.os E.out) Q) b (.inRegion ops todo::k) cs n D pZ (bkO X (stO a.dst (.tuple #[z,.bool false]) o)))
 (hx:evO n rc o=some (.chan (some E.Ch)):=by kernel_rfl):TT (TM E L Q 0 true os 0) b (.inRegion ops (0::todo)::k) cs n D ro o:=by
 rintro e w kn rfl bY
 have hT:Closed E.P true (TM E L Q 0 true os 0):=fD (E:=E) true os (fun _=>rfl)
 refine Closed.jV hT rfl fun p6=>?_
 have hvc:ev n e rc= .chan (some E.Ch):=aG hx
 have bW:∀w',stepG E.P true (G (aL b (A n e D) (.inRegion ops (0::todo)::k)) cs) w'= .comm (G (aL b (A n e D) (.inRegion ops (0::todo)::k)) cs) #[rcase E.Ch z] true (.recv true) w' #[]:=by
  intro w'
  have An:=kZ b (A n e D) (.inRegion ops (0::todo)::k)
  simp only[aL] at An
  have hw:Region.wanted a (yielded ops (A n e D).tmps)=true:=dF _ _ hg
  have jU:(b.kind==CallKind.early)=false:=by simpa using hk
  have gP:stepG E.P true (G (aL b (A n e D) (.inRegion ops (0::todo)::k)) cs) w'=stepG.apply E.P true (aL b (A n e D) (.inRegion ops (0::todo)::k)) cs none (execOp (A n e D).eval a) w':=by
   simp only[G,stepG,stepG.exec,aL,ho,Option.map_some,Option.getD_some,hw,if_true,stepG.oper,Frame.oper?,An]
   rw[hr]
  have bX:=tW (SS (ev n e)) w' #[]
  rw[hvc] at bX
  rw[gP,eJ]
  simp only[stepG.apply,if_true,bX,aL,jU,Bool.false_eq_true,if_false]
  simp[seen_none,GStep.after,G,rcase]
 have p5:∀v,Conc.served (G (aL b (A n e D) (.inRegion ops (0::todo)::k)) cs) v=G (aL b (A n (upd a.dst v e) D) (.inRegion ops todo::k)) cs:=by
  intro v
  have:=fT b (A n e D) ops 0 todo k v
  rw[ho] at this
  simp only[Option.bind_some] at this
  rw[aY] at this
  simp only[Conc.served,G] at this ⊢
  rw[this]
 have uC:os=[]→∀pc (g:Goroutine),g.status= .running→(∀w',stepG E.P true g w'= .comm (G (aL b (A n e D) (.inRegion ops (0::todo)::k)) cs) #[rcase E.Ch z] true (.recv true) w' #[])→
  TL E.P (jD pc) L (ID E pc) Q g ⟨ro,den w⟩:=by
  intro tO pc g hg' auF
  obtain⟨hb1,gu⟩:=hl.back (rwK:=den w) bB
  refine Wn (E:=E) (z:=z) (s':=⟨pZ,X++den w⟩) U4 hg' (fun w' _=>auF w') hb1 gu ?_
  rw[p5]
  have:=qL tO _ _ _ rfl fun x hx=>(by cases hx)
  rw[gI] at this
  exact this
 refine⟨Wt (E:=E) (z:=z) rfl (fun w' _=>bW w') (fun a' oo b' v Y tO oM=>?_) fun tO pc=>⟨uC tO pc _ rfl bW,uC tO pc _ rfl fun w'=>bW w'⟩,fun _ tO pc=>uC tO pc _ rfl bW⟩
 rw[p5]
 have:=Ld a' oo b' v Y tO oM _ _ _ rfl bY
 rw[gI] at this
 exact this.1
theorem aAn{oo:ι}{a:Oper}{sc sv:Operand}{v:Value}{Y:Cells}(ys:List Nat)(ho:ops[i]?=some a) (hg:a.guard=none) (hse:∀ρ,execOp ρ a=Sem.pure (.comm #[{chan:=ρ sc,send:=some (ρ sv),zero:= .tuple #[]}] true .send)) (hk:b.kind≠ .early) (hr:b.roundOf=none)
 (hs:E.V4 oo v Y) (h:TT (e9 E.P false E.IF) b (.inRegion ops todo::k) cs n D ro (Dp ys (stO a.dst undef o)))
 (hx:evO n sc o=some (.chan (some E.Ch)):=by kernel_rfl) (hv:evO n sv o=some v:=by kernel_rfl) (hY:eA ys o=some Y:=by kernel_rfl):TT (e9 E.P false (E.JK oo)) b (.inRegion ops (i::todo)::k) cs n D ro o:=by
 rintro e w kn rfl bY
 refine e9.stop ?_
 have:=h e w kn
 refine⟨rfl,G (aL b (A n e D) (.inRegion ops (i::todo)::k)) cs,v,.tuple #[],Y,den (dL ys 0 w),bL hY,hs,fun w' p6=>?_,?_⟩
 ·have he:=kZ b (A n e D) (.inRegion ops (i::todo)::k)
  simp only[aL] at he
  have avL:ev n e sc= .chan (some E.Ch):=aG hx
  have avK:ev n e sv=v:=aG hv
  have hw:Region.wanted a (yielded ops (A n e D).tmps)=true:=dF _ _ hg
  have jU:(b.kind==CallKind.early)=false:=by simpa using hk
  have aDo:=hse (ev n e)
  rw[avL,avK] at aDo
  have gP:stepG E.P false (G (aL b (A n e D) (.inRegion ops (i::todo)::k)) cs) w'=stepG.apply E.P true (aL b (A n e D) (.inRegion ops (i::todo)::k)) cs none (execOp (A n e D).eval a) w':=by
   simp only[G,stepG,stepG.exec,aL,ho,Option.map_some,Option.getD_some,hw,if_true,stepG.oper,Frame.oper?,he]
   rw[hr]
  rw[gP,eJ,aDo]
  simp only[stepG.apply,if_true,Sem.runT,aL,jU,Bool.false_eq_true,if_false]
  simp[seen_none,GStep.after,G,scase]
 have p5:Conc.served (G (aL b (A n e D) (.inRegion ops (i::todo)::k)) cs) undef=G (aL b (A n (upd a.dst undef e) D) (.inRegion ops todo::k)) cs:=by
  have:=fT b (A n e D) ops i todo k undef
  rw[ho] at this
  simp only[Option.bind_some] at this
  rw[aY] at this
  simp only[Conc.served,G] at this ⊢
  rw[this]
 rw[p5]
 exact h _ _ _ (by simp only[Dp,stO]) bY
theorem asa{dn:Nat}{bs:List Nat}(hf:E.P.funcs[b.fn]?=some fn) (Ba:fn.results= #[]) (zn:BZ E.P dn=true) (Eg:xS E.P E.ty E.max (Frame.enter E.P dn #[.pointer (some ⟨E.Wg,0,none⟩)] .deferred)=some bs) (hbs:∀b∈bs,b=E.Wg) (ps:List Nat) (hk:b.kind= .deferred) (hr:b.roundOf=none)
 (hd:eA ps o=some [(bd,.deferred (some []))]:=by kernel_rfl):TT (e9 E.P false E.IF) b [] [cQ E.P] n [eH bd,{target:= .fn (.func dn) ⟨[]⟩,args:=⟨[.pointer (some ⟨E.Wg,0,none⟩)]⟩}] ro o:=by
 rintro e w kn rfl bY
 have hT2:=ez E.P false E.IF
 refine hT2.go rfl rfl (g':=G {aL b (A n e [eH bd,{target:= .fn (.func dn) ⟨[]⟩,args:=⟨[.pointer (some ⟨E.Wg,0,none⟩)]⟩}]) [] with mode:= .returning} [cQ E.P]) (fun w=>by simp[G,stepG,stepG.exec,aL,hr]) ?_
 have hp:=bL hd
 obtain⟨Lw,Rr,hs⟩:=List.append_of_mem (hp.mem_iff.2 (List.mem_append_left _ (List.mem_singleton.2 rfl)))
 refine unwind_mark (C:=CA E.P) (fun _ _ h=>h) hT2 (.inl rfl) (fr:={aL b (A n e [eH bd,{target:= .fn (.func dn) ⟨[]⟩,args:=⟨[.pointer (some ⟨E.Wg,0,none⟩)]⟩}]) [] with mode:= .returning}) rfl hs<|jN (C:=CA E.P) (fun _ _ h=>h) hT2 (.inl rfl) (lj zn) (ds:=[]) rfl<|e9.stop ?_
 have hq:QuitsD E.P 2 0 (G {aL b (A n e []) [] with mode:= .returning} [cQ E.P]):=oA rfl rfl hk hf Ba
 exact Ib (E:=E) (c:={aL b (A n e []) [] with mode:= .returning}) (.inl rfl) hq Eg hbs
end
theorem aAv{S:Goroutine→St→Prop}{c:Code}{ro:Nat→Option Obj}(hf:P.funcs[f]?=some fn) (hb:fn.body=some c) (hn:fn.ntmps=n) (ff:BZ P f=true) (hle:Nat.ble ca.length n=true)
 (h:TT (e9 P false S) (fr0 f .deferred) ([c].map .code++[]) [cQ P] n [] ro (some ⟨.fin .normal,fZ 0 ca,[],⟨[],[]⟩⟩)):e9 P false S (born P {target:= .fn (.func f) ⟨ca⟩,args:= #[]}) ⟨ro,[]⟩:=by
 have hT:=ez P false S
 refine jN (C:=CA P) (fun _ _ h=>h) hT (fr:={(default:Frame) with fn:=P.funcs.size,defers:=[{target:= .fn (.func f) ⟨ca⟩,args:= #[]}],mode:= .panicking [goexitEntry]}) (.inr ⟨_,rfl⟩) (lj ff) rfl ?_
 show e9 P false S (G (Frame.enter P f (#[]++⟨ca⟩) .deferred) [cQ P]) ⟨ro,[]⟩
 have iA:Frame.enter P f (#[]++⟨ca⟩) .deferred=aL (fr0 f .deferred) (A n (fZ 0 ca) []) [.code c]:=by
  rw[←k8 ca n (Nat.le_of_ble_eq_true hle)]
  simp[Frame.enter,aL,hf,hb,hn,fr0]
 rw[iA]
 exact h _ _ _ rfl fun x hx=>(by cases hx)
theorem alk{E:ep ι}{x:Me}(hx:x.OK E.P E.ty){bs:List Nat}(QN:BC E.P E.ty E.max (Frame.enter E.P x.wait #[.pointer (some ⟨E.Wg,0,none⟩)] .normal)=some bs)(hbs:∀b∈bs,b=E.Wg)
 {ro:Nat→Option Obj}{a:Oper}(hq:ro q=some (.cells ⟨[.chan (some E.Ch)]⟩ t fz))(ho0:x.q1[0]?=some a) (hg0:a.guard=none) (aSb:a.op= .load U y) (ht:(aZ E.P U).map (·.agg)=some false)
 (hy:evO x.n y (some ⟨.fin .normal,fy x.o0.dst (.tuple #[]) (fZ 0 [.pointer (some ⟨E.Wg,0,none⟩),.pointer (some ⟨q,0,none⟩)]),[],⟨[],[]⟩⟩)=some (.pointer (some ⟨q,0,none⟩)))
 (hc:evO x.n x.cx (stO a.dst (.chan (some E.Ch)) (some ⟨.fin .normal,fy x.o0.dst (.tuple #[]) (fZ 0 [.pointer (some ⟨E.Wg,0,none⟩),.pointer (some ⟨q,0,none⟩)]),[],⟨[],[]⟩⟩))=some (.chan (some E.Ch))):
 E.closes ⟨ro,[]⟩ (born E.P {target:= .fn (.func x.f) ⟨[.pointer (some ⟨E.Wg,0,none⟩),.pointer (some ⟨q,0,none⟩)]⟩,args:= #[]}):=by
 obtain⟨fn,hf,Ba,SW⟩:=hx.fn
 obtain⟨hbf,sD,rk⟩:=hx.bf
 have hk:x.b.kind≠ .early:=by rw[sD];simp
 have QS:∀g g',g.status= .running→g'.status= .running→(∀w,stepG E.P false g w= .go g' w #[])→E.closes ⟨ro,[]⟩ g'→E.closes ⟨ro,[]⟩ g:=
  fun g g' hg _ bW ⟨q,hq⟩=>⟨q+1,hg,g',fun w _=>bW w,hq⟩
 refine QS _ _ rfl rfl (Im (lj hx.ff) _) ?_
 have Hq:(#[]++(⟨[.pointer (some ⟨E.Wg,0,none⟩),.pointer (some ⟨q,0,none⟩)]⟩:Array Value))= #[.pointer (some ⟨E.Wg,0,none⟩),.pointer (some ⟨q,0,none⟩)]:=by simp
 rw[Hq]
 refine Vo (iI:=[]) (cs:=[cQ E.P]) QS (hx.enter _ _)<|H9 (E:=E) ?_ QN hbs
 have hT:=ez E.P false E.JJ
 show e9 E.P false E.JJ (G ((aL x.b (A x.n (fZ 0 [.pointer (some ⟨E.Wg,0,none⟩),.pointer (some ⟨q,0,none⟩)]) []) (.inRegion x.q0 (0::[])::[.code x.rest])).finish (.tuple #[])) [cQ E.P]) ⟨ro,[]⟩
 rw[fT,hx.op0,aY]
 simp only[Option.bind_some]
 rw[kp]
 refine iB hT ?_
 obtain⟨id,af5⟩:=hx.rest
 refine dS (l:=[x.rest]) (k:=[]) hT af5 fun l2 rj=>?_
 have:=gG rj
 subst this
 rw[hx.size]
 have key:TT (e9 E.P false E.JJ) x.b (.inRegion x.q1 (0::[1])::[]) [cQ E.P] x.n [] ro (some ⟨.fin .normal,fy x.o0.dst (.tuple #[]) (fZ 0 [.pointer (some ⟨E.Wg,0,none⟩),.pointer (some ⟨q,0,none⟩)]),[],⟨[],[]⟩⟩):=by
  refine tLd hT (.chan (some E.Ch)) ho0 hg0 aSb ht hk rk (q:=q) (t:=t) (fz:=fz) (fun _ _ _ _=> .inl hq) ?_ hy
  intro e w kn he bY
  refine e9.stop ?_
  have hx2:ev x.n e x.cx= .chan (some E.Ch):=by
   rw[he] at hc
   exact aG hc
  obtain⟨ho,hg,ats,aA⟩:=hx.op
  have hq:(E.P.funcs[x.b.fn]?).any (·.norace)=false:=by rw[hbf,hf];simpa using SW
  refine⟨rfl,?_,G (x.b.at (Act.put (A x.n e []) x.oc.dst (.tuple #[])) (.inRegion x.q1 []::[])) [cQ E.P],fun w s r tm hc=>?_,4,?_⟩
  ·simp[mayWake,G,aL,ho,aA]
  ·rw[Dj rk]
   have:=stepG_close (P:=E.P) (main:=false) (b:=x.b) (a:=A x.n e []) (kk:=[]) (cs:=[cQ E.P]) (rest:=[]) ho (dF x.oc _ hg) hk aA (by rw[eJ];exact hx2) hc hq
   exact this
  rw[←Dj rk]
  refine .ctl (g':=G (aL x.b (Act.put (A x.n e []) x.oc.dst (.tuple #[])) []) [cQ E.P]) rfl (fun w=>by simp[G,stepG,stepG.exec,aL])<|.ctl (g':=G {aL x.b (Act.put (A x.n e []) x.oc.dst (.tuple #[])) [] with mode:= .returning} [cQ E.P]) rfl (fun w=>by simp[G,stepG,stepG.exec,aL,rk])<|oA rfl ?_ sD (by show E.P.funcs[x.b.fn]?=_;rw[hbf];exact hf) Ba
  show (Act.put (A x.n e []) x.oc.dst (.tuple #[])).defers=[]
  rw[aY];rfl
 exact key _ _ _ rfl fun x hx=>(by cases hx)
theorem jpF{V:Value}(lp:List Nat)(B:Cells)(Hm:BZ X.P f=true)(hf:∀aC,Sub X.ro aC→Knows aC B→dz X.P f vs aC V)(hj:J X (MT B V o))(h1:dP X.n (ajD X.n) o=some (f,vs):=by kernel_rfl)(h3:eA lp o=some B:=by kernel_rfl):J X o:=by
 refine jGN h1 h3 (fun s p e ho hh hc=>?_) hj
 have hcb:yG X.P X.n p e=some (f,vs):=by unfold yG;rw[hc];simp only[Hm,cond_true]
 obtain⟨ff,x,xs,at_,fi,ca,ws,aA,hx,sB,rfl⟩:=qZ hcb
 rcases p with ⟨dst,op,ty,pos,db,g⟩
 dsimp only at aA;subst aA
 refine⟨rfl,fun s0 G7 vo ops i tz rest hw s' hs todo Q hk=>?_⟩
 have hez:Ext ⟨X.ro,B⟩ s':=fun b ob hb=>hs _ _ (hb.elim (fun h=>G7 _ _ (.inl h)) fun h=>vo (b,ob) h)
 exact Qh X.hC tz hw (bk hx) ff (xN sB) (Sq fi ws ca) hez (fun aC h1=>hf aC (Ga h1) fun y hy=>h1 _ _ (.inr hy)) hk
def bgI(body:Code)(i:Nat):Option JS→Option (JS×Nat)
 |some ⟨.fin .normal,e,w,kn⟩=>match yZ w i with
  |some (.b b (.loop r))=>match r.state with
   | .ready=>some (⟨.code body [],e,Ty w i (.b b (.loop {r with state:= .busy})),kn⟩,b)
   |_=>none
  |_=>none
 |_=>none
theorem jbI{ro:Nat→Option Obj}(i:Nat)(h:J (X.re bl ro Φ) (E3 (bgI body i o)))(h1:Tw (bgI body i o)=some bl:=by kernel_rfl):J (X.rd bl ro Φ body) o:=by
 unfold bgI at h h1
 split at h<;>try (simp only[E3] at h;exact h.elim)
 rename_i e w kn
 split at h<;>try (simp only[E3] at h;exact h.elim)
 rename_i b r hn
 split at h<;>try (simp only[E3] at h;exact h.elim)
 rename_i bW
 simp only[hn,bW,Tw,Option.some.injEq] at h1
 subst h1
 simp only[E3] at h
 intro bY
 have hw:=h bY
 obtain⟨L,R,h2,h3⟩:=AH hn
 simp only[JP,Cx.rd,Is,DG]
 refine⟨L,r,R,h2,bW,?_⟩
 simp only[JP,h3] at hw
 exact hw
theorem tGe{b:Frame}{D:List Deferred}{ro:Nat→Option Obj}(h:TT T b Ag cs n D ro (geO o)):TT T b Ag cs n D ro o:=by
 rintro e w kn rfl bY
 have:=h e (.l []::w) kn (by simp only[geO]) bY
 rw[gI] at this
 exact this
def adC:Option JS→Option JS
 |some ⟨.fin .normal,e,w,kn⟩=>some ⟨.fin .ret,e,w,kn⟩
 |_=>none
theorem ar9{c:Code}{ro:Nat→Option Obj}{L:Cells}(hf:P.funcs[f]?=some fn) (hb:fn.body=some c) (hn:fn.ntmps=n) (hle:Nat.ble args.length n=true)
 (h:TT T (fr0 f .normal) ([c].map .code++[]) cs n [] ro (some ⟨.fin .normal,fZ 0 args,[.l L],⟨[],[]⟩⟩)):T (G (Frame.enter P f ⟨args⟩ .normal) cs) ⟨ro,L⟩:=by
 have iA:Frame.enter P f ⟨args⟩ .normal=aL (fr0 f .normal) (A n (fZ 0 args) []) [.code c]:=by
  rw[←k8 args n (Nat.le_of_ble_eq_true hle)]
  simp[Frame.enter,aL,hf,hb,hn,fr0]
 rw[iA]
 exact h _ _ _ rfl fun x hx=>(by cases hx)
theorem aOv(hm:P.follows .mixedOrders=true)(hT:Closed P main T){cl:Frame}{N6:List Frame}{ro:Nat→Option Obj}(v:Value)(hs ps:List Nat)(Y:Cells)(hf:P.funcs[f]?=some fn)
 (hk:T (G (cl.finish v) N6) ⟨ro,Y⟩) (h1:tC (j8 P n f hs (adC o))=some v:=by kernel_rfl) (h2:S6 (j8 P n f hs (adC o))=S5 (j8 P n f hs (adC o)):=by kernel_rfl) (h3:eA ps o=some Y:=by kernel_rfl):TT T (fr0 f .normal) (.code .ret::Ag) (cl::N6) n [] ro o:=by
 rintro e w kn rfl bY
 simp only[adC] at h1 h2
 simp only[j8] at h1 h2
 cases hr:Cj P n e w kn.c hs (tE P f).results.toList with
 |none=>simp only[hr,tC] at h1;cases h1
 |some x=>
  rcases x with ⟨vs,q⟩
  simp only[hr,tC,Option.some.injEq,S6,S5] at h1 h2
  have sC:=tX (X:=⟨P,fun m T'=>m=main∧T'=T,by rintro _ _ ⟨rfl,rfl⟩;exact hT,hm,f,none,n,[],ro,fun _ _ _=>True⟩) bY hr (my h2)
  have hp:=bL h3
  have vk:tE P f=fn:=by simp only[tE,hf]
  have Eb:=PB (s0:=⟨ro,Y⟩) (R:=fun en s'=>∃v,en= .returned v∧T (G (cl.finish v) N6) s') (.inl rfl) sC h1 (dZ hp (Sub.refl _)) ⟨v,rfl,hk⟩
  rw[vk] at Eb
  refine hT.go rfl rfl (g':=G {aL (fr0 f .normal) (A n e []) (.code .ret::Ag) with mode:= .returning} (cl::N6)) (fun w=>by simp[G,stepG,stepG.exec,aL,fr0])<|sY (C:=CA P) (fun _ _ h=>h) (T:=T) hT hf (fr:={aL (fr0 f .normal) (A n e []) (.code .ret::Ag) with mode:= .returning}) rfl rfl rfl rfl (R:=fun en s'=>∃v,en= .returned v∧T (G (cl.finish v) N6) s') Eb.2 (fun v s' hv=>?_)
  obtain⟨v',hv',ht⟩:=hv
  cases hv'
  exact ht
attribute [irreducible] Xz bkO bgI TD adC
def B1(P:Program)(f:FuncId)(args:List Value)(ro:Nat→Option Obj)(own:Cells)(Φ:Value→Cells→Prop):Prop:=
 ∀fr,Fn (C0 P) P f ⟨args⟩ ⟨ro,own++fr⟩ (fun en s'=>∃v Y,en= .returned v∧(⟨ro,Y++fr⟩:St).le s'∧Φ v Y)
theorem B1.mono{ro:Nat→Option Obj}{own:Cells}{Φ':Value→Cells→Prop}(h:B1 P f args ro own Φ)(hk:∀v X,Φ v X→Φ' v X):B1 P f args ro own Φ':=
 fun fr=>Fn.mono (h fr) fun _ _ ⟨v,X,h1,h2,h3⟩=>⟨v,X,h1,h2,hk v X h3⟩
abbrev RC(ro:Nat→Option Obj)(fr:Cells)(Φ:Value→Cells→Prop):Ending→St→Prop:=fun en s'=>∃v Y,en= .returned v∧(⟨ro,Y++fr⟩:St).le s'∧Φ v Y
def XC(P:Program)(hm:P.follows .mixedOrders=true)(f:FuncId)(ro:Nat→Option Obj)(R:Ending→St→Prop):Cx:=⟨P,C0 P,xT,hm,f,none,(tE P f).ntmps,[],ro,rO P (tE P f) R⟩
theorem qC{hm:P.follows .mixedOrders=true}{ro:Nat→Option Obj}:QR (XC P hm f ro R) R:=⟨rfl,rfl⟩
theorem Lu(hC:∀main T,C main T→Closed P main T){c:Code}(hf:P.funcs[f]?=some fn) (hb:fn.body=some c) (hl:Nat.ble args.length fn.ntmps=true) (h:Wp C f none c (rO P fn R) (A fn.ntmps (fZ 0 args) []) s):Fn C P f ⟨args⟩ s R:=by
 refine RG hC hf hb ?_
 have he:=k8 args fn.ntmps (Nat.le_of_ble_eq_true hl)
 rw[←he] at h
 exact h
theorem za(hm:P.follows .mixedOrders=true){ro:Nat→Option Obj}{L:Cells}(own:List Sg)(kn:Cells)(hk:Knows ro kn)(h:∀fr,J (XC P hm f ro (RC ro fr Φ)) (lg P f args (own++[.l fr]) kn))(hL:den own=L:=by rfl):B1 P f args ro L Φ:=by
 subst hL
 intro fr
 have h:=h fr
 unfold lg at h
 split at h<;>try exact h.elim
 rename_i fn hf
 split at h<;>try exact h.elim
 rename_i c hc
 cases hl:Nat.ble args.length fn.ntmps with
 |false=>rw[hl] at h;exact h.elim
 |true=>
  rw[hl] at h
  have vk:tE P f=fn:=by simp only[tE,hf]
  have:=h hk
  simp only[JP,XC,KQ,vk] at this
  have hd:den (own++[.l fr])=den own++fr:=by rw[lP];rfl
  rw[hd] at this
  exact Lu xT hf hc hl this
section
variable {X:Cx} {o:Option JS}
theorem KZ{own:Cells}(ps:List Nat)(hC:∀main T,X.C main T→C0 X.P main T)(hf:B1 X.P f vs X.ro own Φ)(hj:∀v Y,Φ v Y→J X (nH ps v Y o))(h1:fx X.n (yG X.P X.n) o=some (f,vs):=by kernel_rfl)(h2:eA ps o=some own:=by kernel_rfl):J X o:=by
 obtain⟨ops,i,todo,k,e,w,kn,p,rfl,ho,hw,hc⟩:=dG h1
 obtain⟨ff,x,xs,at_,fi,ca,ws,aA,hx,sB,rfl⟩:=qZ hc
 intro bY
 rcases p with ⟨dst,op,ty,pos,db,g⟩
 dsimp only at aA;subst aA
 have hp:=bL h2
 have vk:Fn X.C X.P f ⟨fi++ws++ca⟩ ⟨X.ro,den w⟩ (fun en s'=>∃v Y,en= .returned v∧(⟨X.ro,Y++den (dL ps 0 w)⟩:St).le s'∧Φ v Y):=fun main T hT c cs k1 k2=>
  (X.hC main T hT).mono _ ⟨X.ro,own++den (dL ps 0 w)⟩ _ (dZ (J:=[]) (by rw[List.append_nil];exact hp) (Sub.refl _)) (Fn.weaken hC (hf _) main T hT c cs k1 k2)
 refine ur (fi:=⟨fi⟩) (ca:=⟨ca⟩) (ws:=fi++ws++ca) X.hC ho hw hx ff sB (Sq fi ws ca) vk (fun v' s' hr=>?_) (fun ch s' hr=>by obtain⟨_,_,e,_⟩:=hr;cases e) (fun s' hr=>by obtain⟨_,_,e,_⟩:=hr;cases e)
 obtain⟨v,Y,hv,hle,qF⟩:=hr
 cases hv
 have:=hj _ Y qF
 rw[oC ho] at this
 have:=this bY
 simp only[JP,gI] at this
 exact this.more X.hC hle
theorem II(hq:QR X (RC pZ fr Φ))(v:Value)(ps:List Nat)(Y:Cells)(fM:Sub pZ X.ro)(hR:Φ v Y)(h1:tC (j8 X.P X.n X.fn [] o)=some v:=by kernel_rfl)(h2:S6 (j8 X.P X.n X.fn [] o)=S5 (j8 X.P X.n X.fn [] o):=by kernel_rfl)(h3:eA ps o=some (Y++fr):=by kernel_rfl)(h4:Dg o=true:=by kernel_rfl):J X o:=
 aH hq v [] ps (Y++fr) fM ⟨v,Y,rfl,St.le_refl _,hR⟩ h1 h2 h3 h4
end
noncomputable def Gl(P:Program)(g:FuncId):Func:=match Jc P g with
 |some (gn,_,_)=>gn
 |none=>default
noncomputable def Jb(P:Program)(g:FuncId):Tmp:=match Jc P g with
 |some (_,t,_)=>t
 |none=>0
noncomputable def recC(P:Program)(g:FuncId):Code:=match Jc P g with
 |some (_,_,c)=>c
 |none=> .skip
def asH(P:Program)(g:FuncId):Bool:=(Jc P g).isSome
theorem alB(h:asH P g=true):Jc P g=some (Gl P g,Jb P g,recC P g):=by
 unfold asH at h
 unfold Gl Jb recC
 cases hr:Jc P g with
 |none=>rw[hr] at h;cases h
 |some x=>rcases x with ⟨a,b,c⟩;rfl
noncomputable def XD(P:Program)(hm:P.follows .mixedOrders=true)(f:FuncId)(ro:Nat→Option Obj)(R:Ending→St→Prop)(g:FuncId):Cx:=⟨P,CP P,fq,hm,f,none,(tE P f).ntmps,[],ro,VC (CP P) P (tE P f) g (Gl P g) (Jb P g) (recC P g) R⟩
theorem aQH(hm:P.follows .mixedOrders=true){ro:Nat→Option Obj}{L:Cells}(g:FuncId)(own:List Sg)(kn:Cells)(hk:Knows ro kn)(h:J (XD P hm f ro (RX ro Φ) g) (lg P f args own kn))(hL:den own=L:=by rfl)(af6:asH P g=true:=by kernel_rfl):eV P f args ro L Φ:=by
 subst hL
 unfold lg at h
 split at h<;>try exact h.elim
 rename_i fn hf
 split at h<;>try exact h.elim
 rename_i c hc
 cases hl:Nat.ble args.length fn.ntmps with
 |false=>rw[hl] at h;exact h.elim
 |true=>
  rw[hl] at h
  have vk:tE P f=fn:=by simp only[tE,hf]
  have:=h hk
  simp only[JP,XD,KQ,vk] at this
  exact HN fq hf hc rfl hl (alB af6) this
def dfV(n:Nat)(p:Oper)(e:Env):Option (FuncId×List Value):=match p.op with
 | .defer ⟨.value x,⟨[]⟩,⟨[]⟩⟩=>match bp n e x with
  |some (.func (.func f) ⟨[]⟩ ⟨ca⟩)=>some (f,ca)
  |_=>none
 |_=>none
theorem axl(h:dfV n p e=some (f,ca)):∃x,p.op= .defer ⟨.value x,#[],#[]⟩∧bp n e x=some (.func (.func f) ⟨[]⟩ ⟨ca⟩):=by
 unfold dfV at h
 split at h<;>try (cases h;done)
 rename_i x aA
 split at h<;>try (cases h;done)
 rename_i hx
 cases h
 exact⟨x,aA,hx⟩
def skO:Option JS→Option JS
 |some ⟨.ops ops (i::todo) k,e,w,kn⟩=>match ops[i]? with
  |some p=>some ⟨.ops ops todo k,upd p.dst undef e,w,kn⟩
  |none=>none
 |_=>none
def QJ(t:Tmp)(rest:Code)(ca:List Value):Option JS→Option JS
 |some ⟨.fin _,_,w,kn⟩=>some ⟨.code rest [],upd (some t) .nilIface (fZ 0 ca),w,⟨kn.c,[]⟩⟩
 |_=>none
def rwS:Option JS→Option (List Sg)
 |some s=>some s.rw
 |none=>none
section
variable {X:Cx} {o:Option JS}
theorem jdf(hj:J (X.wd ({target:= .fn (.func f) ⟨ca⟩,args:= #[]}::X.D)) (skO o))(h1:fx X.n (dfV X.n) o=some (f,ca):=by kernel_rfl)(hr:X.aB=none:=by rfl):J X o:=by
 obtain⟨ops,i,todo,k,e,w,kn,p,rfl,ho,hw,hc⟩:=dG h1
 obtain⟨x,aA,hx⟩:=axl hc
 intro bY
 rcases p with ⟨dst,op,ty,pos,db,g⟩
 dsimp only at aA;subst aA
 simp only[skO,ho] at hj
 have:=hj bY
 simp only[JP,SD] at this
 show ab X.C X.fn X.aB ops (i::todo) (KQ X k) (A X.n e X.D) ⟨X.ro,den w⟩
 rw[hr]
 have h2:(X.wd ({target:= .fn (.func f) ⟨ca⟩,args:= #[]}::X.D)).aB=none:=hr
 rw[h2] at this
 exact al3 X.hC ho hw hx this
structure QD(X:Cx)(g:FuncId)(R:Ending→St→Prop)(ca:List Value):Prop where
 q:X.Q=VC X.C X.P (tE X.P X.fn) g (Gl X.P g) (Jb X.P g) (recC X.P g) R
 d:X.D=[{target:= .fn (.func g) ⟨ca⟩,args:= #[]}]
theorem jrD(hq:QD X g R ca)(v:Value)(hs ps:List Nat)(Y:Cells)(k:Nat)(fM:Sub pZ X.ro)(hR:R (.returned v) ⟨pZ,Y⟩)(hl:Nat.ble ca.length (Gl X.P g).ntmps=true:=by kernel_rfl)
 (h1:tC (j8 X.P X.n X.fn hs o)=some v:=by kernel_rfl)(h2:S6 (j8 X.P X.n X.fn hs o)=S5 (j8 X.P X.n X.fn hs o):=by kernel_rfl)(h3:eA ps o=some Y:=by kernel_rfl)(h4:Dg o=true:=by kernel_rfl)
 (h5:Dg (res (adv X.P (Gl X.P g).ntmps k [] (QJ (Jb X.P g) (recC X.P g) ca o)))=true:=by kernel_rfl)(h6:rwS (res (adv X.P (Gl X.P g).ntmps k [] (QJ (Jb X.P g) (recC X.P g) ca o)))=rwS o:=by kernel_rfl)
 (h7:lhs (adv X.P (Gl X.P g).ntmps k [] (QJ (Jb X.P g) (recC X.P g) ca o))=rhs (adv X.P (Gl X.P g).ntmps k [] (QJ (Jb X.P g) (recC X.P g) ca o)):=by kernel_rfl):J X o:=by
 obtain⟨ex,e,w,kn,rfl,hex⟩:=tG h4
 simp only[j8] at h1 h2
 cases hr:Cj X.P X.n e w kn.c hs (tE X.P X.fn).results.toList with
 |none=>simp only[hr,tC] at h1;cases h1
 |some x=>
  rcases x with ⟨vs,q⟩
  simp only[hr,tC,Option.some.injEq,S6,S5] at h1 h2
  intro bY
  have sC:=tX bY hr (my h2)
  have hp:=bL h3
  have Eb:=PB (s0:=⟨pZ,Y⟩) (R:=R) hex sC h1 (dZ hp fM) hR
  have ht:bR X.P (results (tE X.P X.fn) (A X.n e X.D).tmps) ⟨X.ro,den w⟩ (fun v s'=>∃s0,s0.le s'∧R (.returned v) s0) (fun _ _=>False):=by
   rcases hex with rfl|rfl<;>exact Eb.2
  show X.Q ex (A X.n e X.D) ⟨X.ro,den w⟩
  rw[hq.q]
  refine⟨hex.symm,ca,hl,hq.d,?_⟩
  let X2:Cx:=⟨X.P,X.C,X.hC,X.hm,g,none,(Gl X.P g).ntmps,[],X.ro,fun e2 a2 s2=>(e2= .normal∨e2= .ret)∧a2.defers=[]∧bR X.P (results (tE X.P X.fn) (A X.n e X.D).tmps) s2 (fun v s3=>∃s0,s0.le s3∧R (.returned v) s0) (fun _ _=>False)⟩
  have hj:J X2 (QJ (Jb X.P g) (recC X.P g) ca (some ⟨.fin ex,e,w,kn⟩)):=by
   refine jd k [] ?_ h7
   have h5':=h5
   have h6':=h6
   obtain⟨ex2,e2,w2,kn2,uz,aTe⟩:=tG h5'
   show J X2 (res (adv X.P (Gl X.P g).ntmps k [] (QJ (Jb X.P g) (recC X.P g) ca (some ⟨.fin ex,e,w,kn⟩))))
   rw[uz] at h6' ⊢
   simp only[rwS,Option.some.injEq] at h6'
   subst h6'
   exact fun _=>⟨aTe.symm,rfl,ht⟩
  simp only[QJ] at hj
  exact hj bY
end
attribute [irreducible] skO QJ rwS dfV
def uY(r ck:Nat)(seen:List Nat):Obj:= .mapIter (some r) ck ⟨seen⟩ ck
def cM(es:Array MapEntry)(seen:List Nat):List MapEntry:=es.toList.filter fun e=> !seen.contains e.born
theorem CX(es:Array MapEntry):cM es []=es.toList:=by simp[cM]
theorem aao{es:Array MapEntry}{e:MapEntry}:e∈cM es (seen++[b])↔e∈cM es seen∧e.born≠b:=by
 simp only[cM,List.mem_filter,Bool.not_eq_true',List.contains_eq_mem,List.mem_append,List.mem_singleton,decide_eq_false_iff_not,not_or,and_assoc]
theorem GS{es:Array MapEntry}{e:MapEntry}(h:e∈cM es seen):(cM es (seen++[e.born])).length <(cM es seen).length:=by
 have:cM es (seen++[e.born])=(cM es seen).filter fun x=> !decide (x.born=e.born):=by
  simp only[cM,List.filter_filter]
  refine List.filter_congr fun x _=>?_
  simp only[List.contains_eq_mem,List.mem_append,List.mem_singleton,Bool.decide_or,Bool.not_or]
  rw[Bool.and_comm]
 rw[this]
 exact List.length_filter_lt_length_iff_exists.2 ⟨e,h,by simp⟩
def mrV(P:Program)(n:Nat)(p:Oper)(e:Env):Option Value:=match p.op with
 | .range T x=>match aZ P T with
  |some ⟨.map _ _,_,_,_⟩=>bp n e x
  |_=>none
 |_=>none
def nmV(n:Nat)(p:Oper)(e:Env):Option Value:=match p.op with
 | .next x false=>bp n e x
 |_=>none
def enV(n:Nat)(p:Oper)(e:Env):Option Value:=match p.op with
 | .entry x=>bp n e x
 |_=>none
theorem JY{Q:β→St→Prop}{E:Halt→St→Prop}{k:Nat→Sem β}(hn:0 <n)(h:∀j,j <n→bR P (k j) s Q E):bR P (choose (.mapNext n) >>= k) s Q E:=by
 show (if (Question.mapNext n).forced=true then _ else _)
 split
 ·exact h 0 hn
 exact fun q=>h _ (Nat.mod_lt _ hn)
section
variable {X:Cx} {o:Option JS}
theorem jmR{es:Array MapEntry}(hm:X.ro r=some (.map es ck))(hj:∀b,J X (nH [] (.pointer (some ⟨b,0,none⟩)) [(b,uY r ck [])] o))(hv:fx X.n (mrV X.P X.n) o=some (.map (some r)):=by kernel_rfl)(hB:eA [] o=some []:=by kernel_rfl):J X o:=by
 refine jS (Φ:=fun v L'=>∃b,v= .pointer (some ⟨b,0,none⟩)∧L'=[(b,uY r ck [])]) [] [] hv hB (fun p e hf=>?_) (fun v L' qF=>?_)
 ·unfold mrV at hf
  split at hf<;>try (cases hf;done)
  rename_i T x aA
  split at hf<;>try (cases hf;done)
  rename_i ee
  obtain⟨bD,tf⟩:=aw ee
  refine⟨by rw[aA];simp,fun R Q E hQ=>?_⟩
  simp only[execOp,aA,Instr.range,aa,a8 tf,aG hf]
  refine cH (.inl hm) rfl rfl ?_
  simp only[aa,ae,oE]
  intro b hb
  exact hQ _ _ ⟨b,rfl,rfl⟩
 obtain⟨b,rfl,rfl⟩:=qF
 exact hj b
theorem jmN{kv:κ→Value}{F:List (κ×Value)}{es:Array MapEntry}(i:Nat)(hm:X.ro r=some (.map es ck))(hE:tK kv F es ck)
 (hT:∀k v e,(k,v)∈F→e∈cM es seen→e.key=kv k→e.val=v→J X (nH [i] (.tuple ⟨[.bool true,kv k,v]⟩) [(it,uY r ck (seen++[e.born]))] o))
 (hF:cM es seen=[]→J X (nH [i] (.tuple ⟨[.bool false]⟩) [(it,uY r ck seen)] o))
 (hv:fx X.n (nmV X.n) o=some (.pointer (some ⟨it,0,none⟩)):=by kernel_rfl)(hB:eA [i] o=some [(it,uY r ck seen)]:=by kernel_rfl):J X o:=by
 refine jS (Φ:=fun v L'=>(∃e,e∈cM es seen∧v= .tuple ⟨[.bool true,e.key,e.val]⟩∧L'=[(it,uY r ck (seen++[e.born]))])∨(cM es seen=[]∧v= .tuple ⟨[.bool false]⟩∧L'=[(it,uY r ck seen)])) [i] _ hv hB (fun p e hf=>?_) (fun v L' qF=>?_)
 ·unfold nmV at hf
  split at hf<;>try (cases hf;done)
  rename_i x aA
  refine⟨by rw[aA];simp,fun R Q E hQ=>?_⟩
  simp only[execOp,aA,Instr.next,aa,aG hf]
  have hs:(⟨X.ro,[(it,uY r ck seen)]++R⟩:St).rw=[]++(it,uY r ck seen)::R:=rfl
  refine cH (o:=uY r ck seen) (.inr (by rw[hs];exact fH)) rfl rfl ?_
  simp only[uY,aa]
  refine cH (.inl hm) rfl rfl ?_
  simp only[aa]
  have hb:=hE.2.2
  have bW:¬((!(⟨seen⟩:Array Nat).isEmpty&& !es.isEmpty&&es.all (·.born≥ck))=true):=by
   intro h
   simp only[Bool.and_eq_true,Bool.not_eq_true',Array.all_eq_true,decide_eq_true_eq] at h
   obtain⟨⟨_,h1⟩,h2⟩:=h
   have vi:0 <es.size:=by
    rcases Nat.eq_zero_or_pos es.size with h0|h0
    ·simp[Array.isEmpty,h0] at h1
    exact h0
   have:=h2 0 vi
   have:=hb es[0] (by simp)
   omega
  rw[if_neg bW]
  have yt:(es.filter fun e=> !(⟨seen⟩:Array Nat).contains e.born)=⟨cM es seen⟩:=by
   rcases es with ⟨l⟩
   simp[cM]
  have hold:((⟨cM es seen⟩:Array MapEntry).filter fun e=>decide (e.born <ck))=⟨cM es seen⟩:=by
   have:(cM es seen).filter (fun e=>decide (e.born <ck))=cM es seen:=List.filter_eq_self.2 fun e he=>decide_eq_true (hb e (List.mem_filter.1 he).1)
   simp[this]
  have tA:((⟨cM es seen⟩:Array MapEntry).filter fun e=>decide (e.born≥ck))=⟨[]⟩:=by
   have:(cM es seen).filter (fun e=>decide (e.born≥ck))=[]:=List.filter_eq_nil_iff.2 fun e he=>by
    have:=hb e (List.mem_filter.1 he).1
    simp only[decide_eq_true_eq];omega
   simp[this]
  simp only[yt,hold,tA]
  cases hl:cM es seen with
  |nil=>
   simp only[List.isEmpty_toArray,List.isEmpty_nil,if_true]
   refine JY (by simp) fun j hj=>?_
   have hc:(#[(none:Option MapEntry)]++((⟨[]⟩:Array MapEntry)++⟨[]⟩).map some)[j]?=some none:=by
    simp at hj
    subst hj;simp
   show bR X.P ((match (#[(none:Option MapEntry)]++((⟨[]⟩:Array MapEntry)++⟨[]⟩).map some)[j]? with|some (some e)=>_|some none=>_|none=>_) >>= fun v=>pure (Next.value v)) _ _ _
   rw[hc]
   exact hQ _ _ (.inr ⟨hl,rfl,rfl⟩)
  |cons e0 l=>
   have hem:(⟨e0::l⟩:Array MapEntry).isEmpty=false:=by simp
   simp only[hem,Bool.false_eq_true,if_false]
   have Hq:(#[]++((⟨e0::l⟩:Array MapEntry)++⟨[]⟩).map some:Array (Option MapEntry))=⟨(e0::l).map some⟩:=by simp
   rw[Hq]
   refine JY (by simp) fun k cN=>?_
   have cN:k <(e0::l).length:=by simpa using cN
   have hk:(⟨(e0::l).map some⟩:Array (Option MapEntry))[k]?=some (some (e0::l)[k]):=by
    rw[List.getElem?_toArray,List.getElem?_map,List.getElem?_eq_getElem cN];rfl
   show bR X.P ((match (⟨(e0::l).map some⟩:Array (Option MapEntry))[k]? with|some (some e)=>_|some none=>_|none=>_) >>= fun v=>pure (Next.value v)) _ _ _
   rw[hk]
   simp only[aa]
   have nF:(⟨X.ro,[(it,Obj.mapIter (some r) ck ⟨seen⟩ ck)]++R⟩:St).rw=[]++(it,Obj.mapIter (some r) ck ⟨seen⟩ ck)::R:=rfl
   refine eL (o:= .mapIter (some r) ck ((⟨seen⟩:Array Nat).push (e0::l)[k].born) ck) rfl nF rfl ?_
   have hp:(⟨seen⟩:Array Nat).push (e0::l)[k].born=⟨seen++[(e0::l)[k].born]⟩:=by simp
   rw[hp]
   have:=hQ (.tuple ⟨[.bool true,(e0::l)[k].key,(e0::l)[k].val]⟩) [(it,uY r ck (seen++[(e0::l)[k].born]))] (.inl ⟨_,by rw[hl];exact List.getElem_mem cN,rfl,rfl⟩)
   exact this
 rcases qF with ⟨e,he,rfl,rfl⟩| ⟨h1,rfl,rfl⟩
 ·have:(e.key,e.val)∈F.map (fun x=>(kv x.1,x.2)):=by
   rw[←hE.1];exact List.mem_map_of_mem (f:=fun e:MapEntry=>(e.key,e.val)) (List.mem_filter.1 he).1
  obtain⟨⟨k,v⟩,h1,h2⟩:=List.mem_map.1 this
  simp only[Prod.mk.injEq] at h2
  have:=hT k v e h1 he h2.1.symm h2.2.symm
  rwa[h2.1,h2.2] at this
 exact hF h1
theorem jmE{kv:κ→Value}{F:List (κ×Value)}{es:Array MapEntry}{e:MapEntry}{k:κ}{v:Value}(i:Nat)(hm:X.ro r=some (.map es ck))(hE:tK kv F es ck)(he:e∈cM es seen)(hk:e.key=kv k)(hvl:e.val=v)
 (hj:J X (nH [i] (.tuple ⟨[kv k,v]⟩) [(it,uY r ck (seen++[e.born]))] o))
 (hv:fx X.n (enV X.n) o=some (.pointer (some ⟨it,0,none⟩)):=by kernel_rfl)(hB:eA [i] o=some [(it,uY r ck (seen++[e.born]))]:=by kernel_rfl):J X o:=by
 refine jS (Φ:=fun w L'=>w= .tuple ⟨[kv k,v]⟩∧L'=[(it,uY r ck (seen++[e.born]))]) [i] _ hv hB (fun p en hf=>?_) (fun w L' qF=>?_)
 ·unfold enV at hf
  split at hf<;>try (cases hf;done)
  rename_i x aA
  refine⟨by rw[aA];simp,fun R Q E hQ=>?_⟩
  simp only[execOp,aA,Instr.entry,aa,aG hf]
  have hs:(⟨X.ro,[(it,uY r ck (seen++[e.born]))]++R⟩:St).rw=[]++(it,uY r ck (seen++[e.born]))::R:=rfl
  refine cH (o:=uY r ck (seen++[e.born])) (.inr (by rw[hs];exact fH)) rfl rfl ?_
  have sD:(⟨seen++[e.born]⟩:Array Nat).back?=some e.born:=by simp[Array.back?]
  simp only[uY,sD,aa]
  refine cH (.inl hm) rfl rfl ?_
  have hfe:es.find? (fun x=>x.born==e.born)=some e:=by
   rcases es with ⟨l⟩
   have Yc:e∈l:=(List.mem_filter.1 he).1
   have mw:(l.map (·.born)).Nodup:=hE.2.1
   simp only[List.find?_toArray]
   clear hm hE he hj hv hB hs hQ
   induction l with
   |nil=>cases Yc
   |cons y l ih=>
    simp only[List.map_cons,List.nodup_cons,List.mem_map,not_exists,not_and] at mw
    rcases List.mem_cons.1 Yc with rfl|h
    ·simp
    have:y.born≠e.born:=fun h2=>mw.1 e h h2.symm
    rw[List.find?_cons_of_neg (by simpa using this)]
    exact ih h mw.2
  simp only[bne_self_eq_false,Bool.false_eq_true,if_false,hfe,ae,aa]
  exact hQ _ _ ⟨by rw[hk,hvl],rfl⟩
 obtain⟨rfl,rfl⟩:=qF
 exact hj
end
theorem Uh{kv:κ→Value}{F:List (κ×Value)}{es:Array MapEntry}(hE:tK kv F es ck){e x:MapEntry}(he:e∈cM es seen)(hx:x∈cM es seen):x=e∨x∈cM es (seen++[e.born]):=by
 by_cases h:x.born=e.born
 ·left
  have mw:=hE.2.1
  have h1:=(List.mem_filter.1 he).1
  have h2:=(List.mem_filter.1 hx).1
  generalize es.toList=l at mw h1 h2
  induction l with
  |nil=>cases h1
  |cons y l ih=>
   simp only[List.map_cons,List.nodup_cons,List.mem_map,not_exists,not_and] at mw
   rcases List.mem_cons.1 h1 with k1|k1
   ·rcases List.mem_cons.1 h2 with k2|k2
    ·rw[k1,k2]
    exact absurd (by rw[h,k1]) (mw.1 x k2)
   rcases List.mem_cons.1 h2 with k2|k2
   ·exact absurd (by rw[←h,k2]) (mw.1 e k1)
   exact ih mw.2 k1 k2
 exact .inr (aao.2 ⟨hx,h⟩)
def msV(P:Program)(n:Nat)(p:Oper)(e:Env):Option (TypeId×List Value):=match p.op with
 | .makeSlice T x y=>match aZ P T with
  |some ⟨.slice E,_,_,_⟩=>match aZ P E with
   |some te=>match bp n e x,bp n e y with
    |some (.int .i64 a),some (.int .i64 b)=>bif (decide (a=2)&&decide (b=2))&&(Nat.beq te.size 1&&Nat.ble (tR P E) 65536) then some (E,te.zero) else none
    |_,_=>none
   |none=>none
  |_=>none
 |_=>none
theorem jmS{E:TypeId}{z:Value}(hj:∀b,J X (nH [] (.slice (some ⟨b,0,none⟩) 2 2) [(b,.cells ⟨[z,z]⟩ E (0,0))] o))(hv:fx X.n (msV X.P X.n) o=some (E,[z]):=by kernel_rfl)(hB:eA [] o=some []:=by kernel_rfl):J X o:=by
 refine jS (Φ:=fun v L'=>∃b,v= .slice (some ⟨b,0,none⟩) 2 2∧L'=[(b,.cells ⟨[z,z]⟩ E (0,0))]) [] [] hv hB (fun p e hf=>?_) (fun v L' qF=>?_)
 ·unfold msV at hf
  split at hf<;>try (cases hf;done)
  rename_i T x y aA
  split at hf<;>try (cases hf;done)
  rename_i E' _ _ _ ee
  split at hf<;>try (cases hf;done)
  rename_i te uy
  split at hf<;>try (cases hf;done)
  rename_i a b hx hy
  cases hc:((decide (a=2)&&decide (b=2))&&(Nat.beq te.size 1&&Nat.ble (tR X.P E') 65536)) with
  |false=>rw[hc] at hf;cases hf
  |true=>
   rw[hc] at hf
   simp only[cond_true,Option.some.injEq,Prod.mk.injEq] at hf
   obtain⟨rfl,hz⟩:=hf
   simp only[Bool.and_eq_true,decide_eq_true_eq,Nat.beq_eq,Nat.ble_eq] at hc
   obtain⟨⟨rfl,rfl⟩,vi,hby⟩:=hc
   obtain⟨byT,tf⟩:=aw ee
   obtain⟨bD,j7⟩:=aw uy
   obtain⟨i,hi,hi1,Q8,hi3⟩:=j7.info
   have anA:bD≤65536:=by simp only[tR,hi] at hby;omega
   have awc:¬((bD:Int)*2>2^48):=by omega
   have w2:IntKind.i64.wrap 2=2:=kL 2 (by omega)
   have iZ:(OM [z] te.agg).cells=⟨[z]⟩:=by rw[←hz];exact eE j7
   have Hq:((Array.range ((2:Int).toNat*1)).map fun x=>(⟨[z]⟩:Array Value)[x % (⟨[z]⟩:Array Value).size]!)=⟨[z,z]⟩:=by apply Array.ext';simp[Nat.mod_one,List.range,List.range.loop]
   refine⟨by rw[aA];simp,fun R Q E hQ=>?_⟩
   simp only[execOp,aA,Instr.makeSlice,aG hx,aG hy,asInt,asIntOf,aa,a8 tf,ae,nS hi,Q8,w2,awc,show ¬((2:Int) <0) by omega,show ¬((2:Int)>2) by omega,decide_false,Bool.or_self,Bool.false_eq_true,if_false]
   refine sU ?_
   simp only[aa,cv j7,vi,show ¬((2:Int).toNat*1=0) by decide,if_false,ky j7,ae,hz,iZ,Hq,jI]
   intro b hb
   exact hQ _ _ ⟨b,rfl,rfl⟩
 obtain⟨b,rfl,rfl⟩:=qF
 exact hj b
def aor(body:Code):Option JS→Option (JS×Nat)
 |some ⟨.fin .normal,e,.b c oc:: .b b (.loop r)::w,kn⟩=>match r.state with
  | .ready=>some (⟨.code body [],e,.b c oc:: .b b (.loop {r with state:= .busy})::w,kn⟩,b)
  |_=>none
 |_=>none
theorem aCJ{ro:Nat→Option Obj}(h:J (X.re bl ro Φ) (E3 (aor body o)))(h1:Tw (aor body o)=some bl:=by kernel_rfl):J (X.rd bl ro Φ body) o:=by
 unfold aor at h h1
 split at h<;>try (unfold E3 at h;exact h.elim)
 rename_i e c oc b r w kn
 split at h<;>try (unfold E3 at h;exact h.elim)
 rename_i bW
 unfold Tw at h1
 unfold E3 at h
 simp only[bW,Option.some.injEq] at h1
 subst h1
 intro bY
 have hw:=h bY
 simp only[JP,Cx.rd,Is,DG]
 refine⟨[(c,oc)],r,den w,by rw[iW,iW];rfl,bW,?_⟩
 simp only[JP,iW] at hw
 exact hw
theorem aCF{hm:P.follows .mixedOrders=true}{ro:Nat→Option Obj}(own:List Sg)(kn:Cells)(hk:Knows ro kn)(h:J (XM P hm f ro R) (lg P f args own kn)):Fn (CP P) P f ⟨args⟩ ⟨ro,den own⟩ R:=by
 unfold lg at h
 split at h<;>try exact h.elim
 rename_i fn hf
 split at h<;>try exact h.elim
 rename_i c hc
 cases hl:Nat.ble args.length fn.ntmps with
 |false=>rw[hl] at h;exact h.elim
 |true=>
  rw[hl] at h
  have vk:tE P f=fn:=by simp only[tE,hf]
  have:=h hk
  simp only[JP,XM,KQ,vk] at this
  refine Lx fq hf hc ?_
  have he:=k8 args fn.ntmps (Nat.le_of_ble_eq_true hl)
  rw[←he] at this
  exact this
section
variable {X:Cx} {o:Option JS}
theorem aQI(hq:QM X R uJ)(v:Value)(pm hs ps:List Nat)(Y:Cells)(fM:Sub pZ X.ro)(hR:R (.returned v) ⟨pZ,Y⟩)(h0:eA pm o=some (mk uJ):=by kernel_rfl)(h1:tC (j8 X.P X.n X.fn hs (Dp pm o))=some v:=by kernel_rfl)(h2:S6 (j8 X.P X.n X.fn hs (Dp pm o))=S5 (j8 X.P X.n X.fn hs (Dp pm o)):=by kernel_rfl)(h3:eA ps (Dp pm o)=some Y:=by kernel_rfl)(h4:Dg o=true:=by kernel_rfl):J X o:=by
 obtain⟨ex,e,w,kn,rfl,hex⟩:=tG h4
 simp only[Dp,j8] at h1 h2 h3
 cases hr:Cj X.P X.n e (dL pm 0 w) kn.c hs (tE X.P X.fn).results.toList with
 |none=>simp only[hr,tC] at h1;cases h1
 |some x=>
  rcases x with ⟨vs,q⟩
  simp only[hr,tC,Option.some.injEq,S6,S5] at h1 h2
  intro bY
  have sC:=tX bY hr (my h2)
  have hp:=bL h3
  have Eb:=PB (s0:=⟨pZ,Y⟩) (R:=R) hex sC h1 (dZ hp fM) hR
  have ht:bR X.P (results (tE X.P X.fn) (A X.n e X.D).tmps) ⟨X.ro,den (dL pm 0 w)⟩ (fun v s'=>∃s0,s0.le s'∧R (.returned v) s0) (fun _ _=>False):=by
   rcases hex with rfl|rfl<;>exact Eb.2
  show X.Q ex (A X.n e X.D) ⟨X.ro,den w⟩
  rw[hq.q]
  have hm:∃uJ rest,(A X.n e X.D).defers=uJ.map eH∧(den w).Perm (mk uJ++rest)∧bR X.P (results (tE X.P X.fn) (A X.n e X.D).tmps) ⟨X.ro,rest⟩ (fun v s'=>∃s0,s0.le s'∧R (.returned v) s0) (fun _ _=>False):=⟨uJ,_,hq.d,bL h0,ht⟩
  rcases hex with rfl|rfl<;>exact hm
end
attribute [irreducible] mrV nmV enV uY msV aor
end Go.L
