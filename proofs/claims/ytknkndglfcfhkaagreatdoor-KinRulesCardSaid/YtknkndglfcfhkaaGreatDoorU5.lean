/- Part 5 of the proof. -/
import Derived.Test.YtknkndglfcfhkaaGreatDoorU4
set_option maxRecDepth 100000
set_option linter.all false
namespace Go.L
open Go Go.Conc
variable {ro oU aI:Nat→Option Obj} {Φ:Value→Cells→Prop} {P:Program} {R:Ending→St→Prop} {f g:FuncId} {todo seen tY:List Nat} {κ ι α β:Type} {El:(Nat→Option Obj)→Nat→List Value→Cells→Prop} {T:Goroutine→St→Prop} {vs ca args z l fi:List Value} {o o1:Option JS} {i n r bl sz bB bd off b id ck dep N q it:Nat} {k zb:List Item} {s s':St} {ats:Array TypeId} {X:Cx} {tm:Array Value} {cs:List Frame} {fn:Func} {C:Class} {main ag:Bool} {fz:Nat×Nat} {rest e:Env} {as body:Code} {x y:Operand} {p:Oper} {fr:Cells} {t U:TypeId}
section
variable {X:Cx} {o:Option JS}
def nxV(n:Nat)(p:Oper)(e:Env):Option Nat:=match p.op with
 | .next x true=>match bp n e x with
  |some (.pointer (some ⟨r,0,none⟩))=>some r
  |_=>none
 |_=>none
theorem aej(h:nxV n p e=some r):∃x,p.op= .next x true∧bp n e x=some (.pointer (some ⟨r,0,none⟩)):=by
 unfold nxV at h
 split at h<;>try (cases h;done)
 rename_i ax
 split at h<;>try (cases h;done)
 rename_i hx
 cases h
 exact⟨_,ax,hx⟩
def Ti(i:Nat)(v:Value)(b:Nat)(ob:Obj):Option JS→Option JS
 |some ⟨.ops ops (j::todo) k,e,w,kn⟩=>match ops[j]? with
  |some p=>some ⟨.ops ops todo k,upd p.dst v e,.b b ob::dA [i] 0 w,kn⟩
  |none=>none
 |_=>none
theorem jnA{b:ByteArray}{p:Nat}{c:UInt8}(r i:Nat)(hp:b.data.toList[p]?=some c) (ha:c.toNat <128) (hj:J X (Ti i (.tuple ⟨[.bool true,.int .i64 p,.int .i32 c.toNat]⟩) r (.stringIter b (p+1)) o))
 (hv:eR X.n (nxV X.n) o=some r:=by kernel_rfl) (hB:dL [i] o=some [(r,.stringIter b p)]:=by kernel_rfl):J X o:=by
 obtain⟨ops,i0,todo,kk,ev,w0,kn,q,rfl,ho,hw,hc⟩:=du hv
 obtain⟨x,ax,hx⟩:=aej hc
 intro bV
 rcases q with ⟨dst,op,ty,pos,cX,g⟩
 dsimp only at ax;subst ax
 refine vi X.hC (bH hB) (alE X.hC ho hw hx hp ha ?_)
 simp only[Ti,ho] at hj
 have:=hj bV
 simp only[JP,iv] at this
 exact this
theorem jnZ{b:ByteArray}{p:Nat}(r i:Nat)(hp:b.data.toList[p]?=none) (hj:J X (Ti i (.tuple ⟨[.bool false]⟩) r (.stringIter b p) o))
 (hv:eR X.n (nxV X.n) o=some r:=by kernel_rfl) (hB:dL [i] o=some [(r,.stringIter b p)]:=by kernel_rfl):J X o:=by
 obtain⟨ops,i0,todo,kk,ev,w0,kn,q,rfl,ho,hw,hc⟩:=du hv
 obtain⟨x,ax,hx⟩:=aej hc
 intro bV
 rcases q with ⟨dst,op,ty,pos,cX,g⟩
 dsimp only at ax;subst ax
 refine vi X.hC (bH hB) (alD X.hC ho hw hx hp ?_)
 simp only[Ti,ho] at hj
 have:=hj bV
 simp only[JP,iv] at this
 exact this
theorem jcG{own:Cells}{Φ:Value→(Nat→Option Obj)→Cells→Prop}(ps:List Nat)(hf:FnG X.P f vs X.ro own Φ)(hj:∀v aI Y,Sub X.ro aI→Φ v aI Y→J (X.at aI) (mL ps v Y o))(h1:eR X.n (xY X.P X.n) o=some (f,vs):=by kernel_rfl)(h2:dL ps o=some own:=by kernel_rfl):J X o:=by
 obtain⟨ops,i,todo,k,e,w,kn,p,rfl,ho,hw,hc⟩:=du h1
 obtain⟨ff,x,xs,at_,fi,ca,ws,ax,hx,rE,rfl⟩:=qn hc
 intro bV
 rcases p with ⟨dst,op,ty,pos,cX,g⟩
 dsimp only at ax;subst ax
 have hp:=bH h2
 refine tI (fi:=⟨fi⟩) (ca:=⟨ca⟩) (ws:=fi++ws++ca) X.hC ho hw hx ff rE (R6 fi ws ca) (Fn.weaken X.hC (FnG.use (s:=⟨X.ro,den w⟩) hp hf)) (fun v' s' hr=>?_) (fun ch s' hr=>by obtain⟨_,_,_,e,_⟩:=hr;cases e) (fun s' hr=>by obtain⟨_,_,_,e,_⟩:=hr;cases e)
 obtain⟨v,aI,Y,hv,hs,pQ,hle⟩:=hr
 cases hv
 have:=hj _ aI Y hs pQ
 rw[nP ho] at this
 have:=this (bV.up hs)
 simp only[JP,fZ,Ie] at this
 exact this.more X.hC hle
def aii(n:Nat)(p:Oper)(e:Env):Option (FuncId×List Value):=match p.op with
 | .call ⟨.value (.func f),xs,_⟩=>match xF n e xs.toList with
  |some vs=>some (f,vs)
  |none=>none
 |_=>none
theorem NK(h:aii n p e=some (f,vs)):∃xs at_,p.op= .call ⟨.value (.func f),xs,at_⟩∧xF n e xs.toList=some vs:=by
 unfold aii at h
 split at h<;>try (cases h;done)
 rename_i ax
 split at h<;>try (cases h;done)
 rename_i hx
 cases h
 exact⟨_,_,ax,hx⟩
theorem jib{a:ByteArray}{b:Int}(ef:EF X.P f Extern.BytealgIndexByte.indexByte)(hj:J X (jQ (.int .i64 (Qv a b.toNat.toUInt8)) o))(hv:dE X.n (aii X.n) o=some (f,[.string a,.int .u8 b]):=by kernel_rfl):J X o:=by
 refine jGS hv (fun s p e _ hf=>?_) hj
 obtain⟨xs,at_,ax,hx⟩:=NK hf
 rcases p with ⟨dst,op,ty,pos,cX,g⟩
 dsimp only at ax;subst ax
 exact⟨fun ops i sM rest hw s' hs todo Q hk=>aee X.hC sM hw ef (wY hx) hk,fun hk=>by cases hk⟩
theorem aLI{v:Value}(ef:EF X.P f Extern.AbiNoEscape.same)(hj:J X (jQ v o))(hv:dE X.n (aii X.n) o=some (f,[v]):=by kernel_rfl):J X o:=by
 refine jGS hv (fun s p e _ hf=>?_) hj
 obtain⟨xs,at_,ax,hx⟩:=NK hf
 rcases p with ⟨dst,op,ty,pos,cX,g⟩
 dsimp only at ax;subst ax
 exact⟨fun ops i sM rest hw s' hs todo Q hk=>alC X.hC sM hw ef (wY hx) hk,fun hk=>by cases hk⟩
def mmV(n:Nat)(p:Oper)(e:Env):Option (Bool×Value×Value):=match p.op with
 | .call ⟨.builtin .min,⟨[x,y]⟩,⟨[_,_]⟩⟩=>match bp n e x with
  |some v=>match bp n e y with
   |some w=>some (true,v,w)
   |none=>none
  |none=>none
 | .call ⟨.builtin .max,⟨[x,y]⟩,⟨[_,_]⟩⟩=>match bp n e x with
  |some v=>match bp n e y with
   |some w=>some (false,v,w)
   |none=>none
  |none=>none
 |_=>none
theorem jmn{k:IntKind}{a b:Int}(hj:J X (jQ (.int k (min a b)) o))(hv:dE X.n (mmV X.n) o=some (true,.int k a,.int k b):=by kernel_rfl):J X o:=by
 refine Sr hv (fun s p e _ hf=>?_) hj
 unfold mmV at hf
 split at hf<;>try (cases hf;done)
 ·rename_i ax
  split at hf<;>try (cases hf;done)
  rename_i hx
  split at hf<;>try (cases hf;done)
  rename_i hy
  cases hf
  rcases p with ⟨dst,op,ty,pos,cX,g⟩
  dsimp only at ax;subst ax
  exact fun s0 ops i sM rest hw s' hs todo Q hk=>asQ X.hC sM hw (bh hx) (bh hy) hk
 split at hf<;>try (cases hf;done)
 split at hf<;>cases hf
theorem jmx{k:IntKind}{a b:Int}(hj:J X (jQ (.int k (max a b)) o))(hv:dE X.n (mmV X.n) o=some (false,.int k a,.int k b):=by kernel_rfl):J X o:=by
 refine Sr hv (fun s p e _ hf=>?_) hj
 unfold mmV at hf
 split at hf<;>try (cases hf;done)
 ·split at hf<;>try (cases hf;done)
  split at hf<;>cases hf
 rename_i ax
 split at hf<;>try (cases hf;done)
 rename_i hx
 split at hf<;>try (cases hf;done)
 rename_i hy
 cases hf
 rcases p with ⟨dst,op,ty,pos,cX,g⟩
 dsimp only at ax;subst ax
 exact fun s0 ops i sM rest hw s' hs todo Q hk=>asR X.hC sM hw (bh hx) (bh hy) hk
theorem jsx(i b off:Nat)(c l:List Value)(t:TypeId)(h1:∀v∈l,single v=true)(hb:Nat.ble (off+l.length) c.length=true)(hj:J X (Ti i undef b (.cells ⟨dw c off l⟩ t (0,0)) o))(hv:eR X.n (akW X.P X.n) o=some (⟨b,off,none⟩,l,l.length):=by kernel_rfl)(h2:dL [i] o=some [(b,.cells ⟨c⟩ t (0,0))]:=by kernel_rfl):J X o:=by
 obtain⟨ops,i0,todo,kk,ev,w,kn,p,rfl,ho,hw,hc⟩:=du hv
 obtain⟨T,x,y,d,bB,z,ag,u,ax,tf,hx,hy,hu⟩:=Wo hc
 intro bV
 rcases p with ⟨dst,op,ty,pos,cX,g⟩
 dsimp only at ax;subst ax
 refine vi X.hC (bH h2)<|ost X.hC ho hw tf hx hy hu rfl h1 (Nat.le_of_ble_eq_true hb) ?_
 simp only[Ti,ho] at hj
 have:=hj bV
 simp only[JP,iv] at this
 exact this
def aiV(P:Program)(n:Nat)(p:Oper)(e:Env):Option (List Value×Int×Nat×Nat×Bool):=match p.op with
 | .index T x y=>match aZ P T with
  |some ⟨.array len E,_,_,_⟩=>match aZ P E with
   |some te=>match bp n e x with
    |some (.agg ⟨l⟩)=>match bp n e y with
     |some (.int _ ix)=>some (l,ix,len,te.size,te.agg)
     |_=>none
    |_=>none
   |none=>none
  |_=>none
 |_=>none
theorem jai{v:Value}(ix:Int)(len sz:Nat)(ag:Bool)(hi:0≤ix∧ix <len)(hp:Gd ag l (ix.toNat*sz) sz=some v)(hj:J X (jQ v o))(hv:dE X.n (aiV X.P X.n) o=some (l,ix,len,sz,ag):=by kernel_rfl):J X o:=by
 refine Sr hv (fun s p e _ hf=>?_) hj
 unfold aiV at hf
 split at hf<;>try (cases hf;done)
 rename_i ax
 split at hf<;>try (cases hf;done)
 rename_i dJ
 split at hf<;>try (cases hf;done)
 rename_i te tO
 split at hf<;>try (cases hf;done)
 rename_i hx
 split at hf<;>try (cases hf;done)
 rename_i hy
 cases hf
 obtain⟨b1,tf⟩:=av dJ
 obtain⟨b2,qz⟩:=av tO
 rcases p with ⟨dst,op,ty,pos,cX,g⟩
 dsimp only at ax;subst ax
 exact fun s0 ops i sM rest hw s' hs todo Q hk=>aef X.hC sM hw tf qz (bh hx) (bh hy) hi hp hk
def sS(m:Nat)(e:Env):Option JS→Option JS
 |some ⟨.ops ops todo k,_,w,kn⟩=>some ⟨.ops ops (todo.drop m) k,e,w,kn⟩
 |_=>none
theorem jj(m:Nat)(e:Env)(hj:∀rest,J X (sS m (e++rest) o))(h:(∀o',sS 0 [] o'=sS m [] o→qP (mQ e) o'=some e→J X o')→J X o)(hd:lkE (mQ e) e=some e:=by kernel_rfl):J X o:=by
 refine h fun o' h1 h2=>?_
 cases o' with
 |none=>simp[qP] at h2
 |some s'=>
  rcases s' with ⟨p',e',w',kn'⟩
  cases o with
  |none=>exact(hj []).elim
  |some s=>
   rcases s with ⟨p,e0,w,kn⟩
   cases p' with
   |ops aXG acF k'=>
    cases p with
    |ops ops todo k=>
     simp only[sS,Option.some.injEq,JS.mk.injEq,Pos.ops.injEq,List.drop_zero,true_and] at h1
     obtain⟨⟨rfl,rfl,rfl⟩,rfl,rfl⟩:=h1
     rw[sI] at h2
     obtain⟨r,hr⟩:=fN (n:=X.n) (D:=X.D) (ko h2) (ko hd)
     intro bV
     have:=hj r bV
     show ab _ _ _ _ _ _ (A X.n e' X.D) _
     rw[hr]
     exact this
    |_=>simp[sS] at h1
   |_=>cases p<;>simp[sS] at h1<;>exact(hj []).elim
end
attribute [irreducible] sS Ti
section
variable {X:Cx} {o:Option JS}
def as8(i:Nat)(rest:Env)(todo:List Nat):Option JS→Option JS
 |some ⟨.HA ops base Pl _ k,_,w,kn⟩=>some ⟨.ops ops (i::todo) k,cg ops base i Pl++rest,w,kn⟩
 |_=>none
def LK(X:Cx)(i:Nat)(o:Option JS)(rest:Env)(todo:List Nat):Prop:=match o with
 |some ⟨.HA ops base Pl Sl k,_,w,kn⟩=>∀v s',(∀j u,(j,u)∈pending ops i Sl→sB ops X.n base Pl j=false→(∀B,(j,B)∈kn.nd→Ext ⟨X.ro,[]⟩ s'→(∀x∈B,s'.has x.1 x.2)→eG X.C X.fn X.az ops X.n X.D j u (cg ops base j Pl) s')→eG X.C X.fn X.az ops X.n X.D j u (cg ops base j Pl) ⟨X.ro,den w⟩→eG X.C X.fn X.az ops X.n X.D j u (cg ops base j Pl) s')→
  (PF X kn.nd ops base ((i,v)::Pl) (pending ops i Sl)→sZ X.C X.fn X.az ops X.n X.D base ((i,v)::Pl) (pending ops i Sl) (KQ X k) s')→ab X.C X.fn X.az ops todo (KQ X k) (A X.n (upd (aQ ops i) v (cg ops base i Pl++rest)) X.D) s'
 |_=>True
def Xd(is:List Nat):Option JS→Bool
 |some ⟨.HA ops _ Pl Sl _,_,_,_⟩=>fy ops&&((is.all fun i=>Nat.blt i ops.size&& !ba i (ak Pl))&&(nodupB (ak Pl)&&(oG ops (ak Pl)&&(fA (ak Sl) (ak Pl)&&(ad8 ops (ak Pl) is&& !is.isEmpty)))))
 |_=>false
def ajr(X:Cx)(o:Option JS):List Nat→Prop
 | []=>True
 |i::is=>(∀rest todo,LK X i o rest todo→J X (as8 i rest todo o))∧ajr X o is
theorem ET(is:List Nat)(h:ajr X o is)(hb:Xd is o=true:=by kernel_rfl):J X o:=by
 unfold Xd at hb
 split at hb<;>try (cases hb;done)
 rename_i ops base Pl Sl k e w kn
 simp only[Bool.and_eq_true,Bool.not_eq_true'] at hb
 obtain⟨h1,h2,h3,h4,h5,h6,h7⟩:=hb
 intro bV hpf
 refine abq is h1 h2 h3 h4 h5 h6 ?_ h7
 clear h6 h7
 induction is with
 |nil=>trivial
 |cons i is ih=>
  simp only[List.all_cons,Bool.and_eq_true,Bool.not_eq_true'] at h2
  refine⟨fun rest todo hk=>h.1 rest todo (fun v s' hp ha=>?_) bV,ih h.2 h2.2⟩
  have iP:∀x,x∈pending ops i Sl→x∈Sl:=fun x hx=>(List.mem_filter.1 hx).1
  refine hk v s' (fun j u Ir bS=>?_) (ha ⟨fun j u Ir hpb s0=>?_,fun j u B Ir hB s0 GM uK=>?_⟩)
  ·cases hpb:sB ops X.n base Pl j with
   |true=>exact hpf.1 j u (iP _ Ir) hpb s'
   |false=>exact hp j u Ir hpb (fun B hB hx hb=>hpf.2 j u B (iP _ Ir) hB s' hx hb) bS
  ·have OH:j∈ak Sl:=aP.2 ⟨u,iP _ Ir⟩
   have qx:i∉bu ops j:=fun hd=>by
    have h8:=bM.1 h5 j OH
    have h9:=bM.1 (List.all_eq_true.1 h4 j h8) i hd
    rw[aJ.2 h9] at h2;exact absurd h2.1.2 (by simp)
   rw[cR qx]
   exact hpf.1 j u (iP _ Ir) (by simp only[sB,cR qx] at hpb;exact hpb) s0
  have OH:j∈ak Sl:=aP.2 ⟨u,iP _ Ir⟩
  have qx:i∉bu ops j:=fun hd=>by
   have h8:=bM.1 h5 j OH
   have h9:=bM.1 (List.all_eq_true.1 h4 j h8) i hd
   rw[aJ.2 h9] at h2;exact absurd h2.1.2 (by simp)
  rw[cR qx]
  exact hpf.2 j u B (iP _ Ir) hB s0 GM uK
theorem aS(i:Nat)(h:∀rest todo,LK X i o rest todo→J X (as8 i rest todo o))(hb:Xd [i] o=true:=by kernel_rfl):J X o:=ET [i] ⟨h,trivial⟩ hb
def VB(i:Nat):Option JS→Option JS→Option JS
 |some ⟨.HA ops base Pl Sl k,e,_,kn⟩,some ⟨.ops _ _ _,e',w',kn'⟩=>some ⟨.HA ops base ((i,match aQ ops i with
  |some d=>(gE e' d).getD undef
  |none=>undef)::Pl) (pending ops i Sl) k,e,w',⟨kn'.c,kn.nd⟩⟩
 |_,_=>none
def bkL(i:Nat)(rest:Env)(todo:List Nat):Option JS→Option JS→Option JS
 |some ⟨.HA ops base Pl _ k,_,_,_⟩,some ⟨_,e',w',kn'⟩=>some ⟨.ops ops todo k,upd (aQ ops i) (match aQ ops i with
  |some d=>(gE e' d).getD undef
  |none=>undef) (cg ops base i Pl++rest),w',kn'⟩
 |_,_=>none
theorem Vx(h:bkL i rest todo o o1=o1)(h1:o1≠none):∃ops base Pl Sl k e w kn v w' kn',o=some ⟨.HA ops base Pl Sl k,e,w,kn⟩∧o1=some ⟨.ops ops todo k,upd (aQ ops i) v (cg ops base i Pl++rest),w',kn'⟩:=by
 unfold bkL at h
 split at h
 ·simp only[Option.some.injEq,JS.mk.injEq] at h
  obtain⟨rfl,h,_⟩:=h
  exact⟨_,_,_,_,_,_,_,_,_,_,_,rfl,by rw[h]⟩
 exact(h1 h.symm).elim
def rwO:Option JS→List Sg
 |some s=>s.rw
 |none=>[]
theorem ez(hK:LK X i o rest todo)(is:List Nat)(hj:J X (VB i o o1))(hc:bkL i rest todo o o1=o1:=by kernel_rfl)(h2:qK is o1=some (rwO o):=by kernel_rfl):J X o1:=by
 by_cases dK:o1=none
 ·subst dK
  cases o with
  |none=>exact hj
  |some s=>rcases s with ⟨p,e,w,kn⟩;cases p<;>exact hj
 obtain⟨jV,base,Pl,Sl,k,e,w,kn,v,w',kn',rfl,rfl⟩:=Vx hc dK
 intro bV
 have hp:=lE h2
 have hv:(match aQ jV i with
  |some d=>(gE (upd (aQ jV i) v (cg jV base i Pl++rest)) d).getD undef
  |none=>undef)=v∨aQ jV i=none:=by
  cases hd:aQ jV i with
  |none=>exact .inr rfl
  |some d=>left;simp[upd,gE]
 have hj:=hj bV
 simp only[VB,JP] at hj
 have key:=hK (match aQ jV i with
  |some d=>(gE (upd (aQ jV i) v (cg jV base i Pl++rest)) d).getD undef
  |none=>undef) ⟨X.ro,den w'⟩ (fun j u _ _ _ hs=>hs.ext fun b ob hb=>?_) hj
 ·show ab _ _ _ _ _ _ _ _
  rcases hv with hv|hv
  ·rw[hv] at key;exact key
  rw[hv] at key ⊢;exact key
 rcases hb with hb|hb
 ·exact .inl hb
 exact .inr (hp.mem_iff.2 (List.mem_append_left _ hb))
def adS(i:Nat):Option JS→Bool
 |some ⟨.HA ops _ _ Sl _,_,_,_⟩=>(pending ops i Sl).isEmpty
 |_=>false
theorem fT(hK:LK X i o rest todo)(hj:J X (VB i o o1))(hc:bkL i rest todo o o1=o1:=by kernel_rfl)(h2:adS i o=true:=by kernel_rfl):J X o1:=by
 by_cases dK:o1=none
 ·subst dK
  cases o with
  |none=>exact hj
  |some s=>rcases s with ⟨p,e,w,kn⟩;cases p<;>exact hj
 obtain⟨jV,base,Pl,Sl,k,e,w,kn,v,w',kn',rfl,rfl⟩:=Vx hc dK
 intro bV
 have hv:(match aQ jV i with
  |some d=>(gE (upd (aQ jV i) v (cg jV base i Pl++rest)) d).getD undef
  |none=>undef)=v∨aQ jV i=none:=by
  cases hd:aQ jV i with
  |none=>exact .inr rfl
  |some d=>left;simp[upd,gE]
 have hj:=hj bV
 simp only[VB,JP] at hj
 have hpe:pending jV i Sl=[]:=by simpa [adS] using h2
 have key:=hK (match aQ jV i with
  |some d=>(gE (upd (aQ jV i) v (cg jV base i Pl++rest)) d).getD undef
  |none=>undef) ⟨X.ro,den w'⟩ (fun j u Ir=>by rw[hpe] at Ir;cases Ir) hj
 show ab _ _ _ _ _ _ _ _
 rcases hv with hv|hv
 ·rw[hv] at key;exact key
 rw[hv] at key ⊢;exact key
def ndG:List (Nat×Cells)→Nat→Option Cells
 | [],_=>none
 | (i,B)::l,j=>bif Nat.beq i j then some B else ndG l j
theorem WZ{j:Nat}{B:Cells}:∀ {l:List (Nat×Cells)},ndG l j=some B→(j,B)∈l
 | (i,C)::l,h=>by
  simp only[ndG] at h
  cases hb:Nat.beq i j with
  |true=>
   rw[hb] at h;simp only[cond_true,Option.some.injEq] at h;subst h
   have:=Nat.eq_of_beq_eq_true hb;subst this
   exact List.mem_cons_self
  |false=>rw[hb] at h;simp only[cond_false] at h;exact List.mem_cons_of_mem _ (WZ h)
structure Rk where
 a:List Value
 b:List Value
 c:List (Option Cells)
 d:List (Option Cells)
def aFj(ps:List Nat)(w:List Sg):Option Cells:=bif Gi ps then (match PK ps w with
 |some x=>some (den x)
 |none=>none) else none
def rkL(P:Program)(n:Nat)(ops:Array Oper)(base:Env)(Pl:List (Nat×Value))(nd:List (Nat×Cells))(w:List Sg)(kn:Cells):List (List Nat)→List (Nat×Value)→Option Rk
 |_,[]=>some ⟨[],[],[],[]⟩
 |hs,(j,u)::r=>bif sB ops n base Pl j then rkL P n ops base Pl nd w kn hs r else (match hs with
  |h::hs=>match ndG nd j with
   |some B=>match rkL P n ops base Pl nd w kn hs r with
    |some ⟨a,b,c,d⟩=>some ⟨a,b,aFj h w::c,some B::d⟩
    |none=>none
   |none=>match ops[j]? with
    |some p=>match vL ops n (cg ops base j Pl) p.guard with
     |some true=>match p.op with
      | .load T x=>match bp n (cg ops base j Pl) x with
       |some (.pointer (some ⟨b,off,none⟩))=>match AY w kn (h.headD 0) with
        |some (b',l)=>match ldv P T l off with
         |some v=>match rkL P n ops base Pl nd w kn hs r with
          |some ⟨a1,b1,c,d⟩=>some ⟨v:: .int .i64 b'::a1,u:: .int .i64 b::b1,c,d⟩
          |none=>none
         |none=>none
        |none=>none
       |_=>none
      |_=>none
     |_=>none
    |none=>none
  | []=>none)
theorem Mc{ops:Array Oper}{base:Env}{Pl:List (Nat×Value)}{nd:List (Nat×Cells)}{w:List Sg}{kn:Cells}(bV:Knows X.ro kn):∀ {l:List (Nat×Value)} {hs:List (List Nat)} {k:Rk},rkL X.P X.n ops base Pl nd w kn hs l=some k→k.a=k.b→k.c=k.d→∀j u,(j,u)∈l→sB ops X.n base Pl j=false→
 (∀B,(j,B)∈nd→Ext ⟨X.ro,[]⟩ ⟨X.ro,den w⟩→(∀x∈B,(⟨X.ro,den w⟩:St).has x.1 x.2)→eG X.C X.fn X.az ops X.n X.D j u (cg ops base j Pl) ⟨X.ro,den w⟩)→eG X.C X.fn X.az ops X.n X.D j u (cg ops base j Pl) ⟨X.ro,den w⟩
 | [],_,_,_,_,_,j,u,h,_,_=>by cases h
 | (j0,u0)::r,hs,k,h,zh,hcd,j,u,hm,hpj,lQ=>by
  simp only[rkL] at h
  cases hpb:sB ops X.n base Pl j0 with
  |true=>
   rw[hpb] at h;simp only[cond_true] at h
   rcases List.mem_cons.1 hm with h1|h1
   ·cases h1;rw[hpb] at hpj;cases hpj
   exact Mc bV h zh hcd j u h1 hpj lQ
  |false=>
   rw[hpb] at h;simp only[cond_false] at h
   split at h<;>try (cases h;done)
   rename_i h0 bX
   split at h
   ·rename_i B hB
    split at h<;>try (cases h;done)
    rename_i a b c d hr
    cases h
    simp only[List.cons.injEq] at hcd
    rcases List.mem_cons.1 hm with h1|h1
    ·cases h1
     refine lQ B (WZ hB) NJ fun x hx=> .inr ?_
     have hw:=hcd.1
     unfold aFj at hw
     cases ho:Gi h0 with
     |false=>rw[ho] at hw;cases hw
     |true=>
      rw[ho] at hw;simp only[cond_true] at hw
      split at hw<;>try (cases hw;done)
      rename_i y hy
      simp only[Option.some.injEq] at hw;subst hw
      exact(wR hy ho).mem_iff.2 (List.mem_append_left _ hx)
    exact Mc bV hr zh hcd.2 j u h1 hpj lQ
   split at h<;>try (cases h;done)
   rename_i p hp
   have Ej:aQ ops j0=p.dst:=by simp only[aQ,hp,Option.bind_some]
   split at h<;>try (cases h;done)
   rename_i hg
   split at h<;>try (cases h;done)
   rename_i T x ax
   split at h<;>try (cases h;done)
   rename_i b0 off hx
   split at h<;>try (cases h;done)
   rename_i b' l hc
   split at h<;>try (cases h;done)
   rename_i v hv
   split at h<;>try (cases h;done)
   rename_i a1 b1 c d hr
   cases h
   simp only[List.cons.injEq,Value.int.injEq,true_and] at zh
   obtain⟨rfl,hb,zh⟩:=zh
   have hb:b'=b0:=by omega
   subst hb
   rcases List.mem_cons.1 hm with h1|h1
   ·cases h1
    obtain⟨t,fz,hh⟩:=y3 (X:=X) bV hc
    intro s1 hx1 rest todo Q hk
    rw[Ej] at hk
    exact lF X.hC hp rest (ny hg rest) (by rw[ax];rfl) (aeS ax hx hh hv) hx1 hk
   exact Mc bV hr zh hcd j u h1 hpj lQ
def rkO(P:Program)(n i:Nat)(hs:List (List Nat)):Option JS→Option JS→Option Rk
 |some ⟨.HA ops base Pl Sl _,_,_,kn⟩,some s1=>rkL P n ops base Pl kn.nd s1.rw s1.kn.c hs (pending ops i Sl)
 |_,_=>none
def rkA:Option Rk→Option (List Value×List (Option Cells))
 |some k=>some (k.a,k.c)
 |none=>some ([],[])
def rkB:Option Rk→Option (List Value×List (Option Cells))
 |some k=>some (k.b,k.d)
 |none=>none
theorem fS(hK:LK X i o rest todo)(hs:List (List Nat))(hj:J X (VB i o o1))(hc:bkL i rest todo o o1=o1:=by kernel_rfl)(h2:rkA (rkO X.P X.n i hs o o1)=rkB (rkO X.P X.n i hs o o1):=by kernel_rfl):J X o1:=by
 by_cases dK:o1=none
 ·subst dK
  cases o with
  |none=>exact hj
  |some s=>rcases s with ⟨p,e,w,kn⟩;cases p<;>exact hj
 obtain⟨jV,base,Pl,Sl,k,e,w,kn,v,w',kn',rfl,rfl⟩:=Vx hc dK
 intro bV
 have hv:(match aQ jV i with
  |some d=>(gE (upd (aQ jV i) v (cg jV base i Pl++rest)) d).getD undef
  |none=>undef)=v∨aQ jV i=none:=by
  cases hd:aQ jV i with
  |none=>exact .inr rfl
  |some d=>left;simp[upd,gE]
 have hj:=hj bV
 simp only[VB,JP] at hj
 have bS:∀j u,(j,u)∈pending jV i Sl→sB jV X.n base Pl j=false→(∀B,(j,B)∈kn.nd→Ext ⟨X.ro,[]⟩ ⟨X.ro,den w'⟩→(∀x∈B,(⟨X.ro,den w'⟩:St).has x.1 x.2)→eG X.C X.fn X.az jV X.n X.D j u (cg jV base j Pl) ⟨X.ro,den w'⟩)→eG X.C X.fn X.az jV X.n X.D j u (cg jV base j Pl) ⟨X.ro,den w'⟩:=by
  simp only[rkO] at h2
  cases hr:rkL X.P X.n jV base Pl kn.nd w' kn'.c hs (pending jV i Sl) with
  |none=>rw[hr] at h2;cases h2
  |some x=>
   rw[hr] at h2
   simp only[rkA,rkB,Option.some.injEq,Prod.mk.injEq] at h2
   exact Mc bV hr h2.1 h2.2
 have key:=hK (match aQ jV i with
  |some d=>(gE (upd (aQ jV i) v (cg jV base i Pl++rest)) d).getD undef
  |none=>undef) ⟨X.ro,den w'⟩ (fun j u Ir hpb hn _=>bS j u Ir hpb hn) hj
 show ab _ _ _ _ _ _ _ _
 rcases hv with hv|hv
 ·rw[hv] at key;exact key
 rw[hv] at key ⊢;exact key
end
attribute [irreducible] rkO rkA rkB as8 Xd VB bkL rwO adS
abbrev RY(ro:Nat→Option Obj)(Φ:Value→Cells→Prop):Ending→St→Prop:=fun en s'=>∃v X,en= .returned v∧(⟨ro,X⟩:St).le s'∧Φ v X
theorem Round.mono{l:Nat}{bd:Code}{R':Ending→St→Prop}(h:Round C l f tm as bd s R)(hr:∀e s,R e s→R' e s):Round C l f tm as bd s R':=
 fun main T hT c cs k1 k2=>h main T hT c cs (fun v s' hv=>k1 v s' (hr _ _ hv)) (fun ch s' hv=>k2 ch s' (hr _ _ hv))
theorem Round.weaken{C':Class}(hc:∀main T,C' main T→C main T){l:Nat}{bd:Code}(h:Round C l f tm as bd s R):Round C' l f tm as bd s R:=
 fun main T hT=>h main T (hc main T hT)
theorem Round.frame{l:Nat}{bd:Code}{s1:St}{B:Cells}(hf:Round (CP P) l f tm as bd s1 R)(hB:∀x∈B,x∈fr)(hc:abD fr B ro s1 s):
 Round (CP P) l f tm as bd s (fun en s'=>∃ym,R en ym∧abD fr B ro ym s'):=
 fun main T hT c cs k1 k2=>hf main _ (AI hT hB ro) c cs (fun v ym hv _ s' sO=>k1 v s' ⟨ym,hv,sO⟩) (fun ch ym hv _ s' sO=>k2 ch s' ⟨ym,hv,sO⟩) rfl s hc
def ab6(r:Loop)(vs:List Value):Array Value:=(r.params.zip ⟨vs⟩).foldl (fun tmps (x:Tmp×Value)=>tmps.setIfInBounds x.1 x.2) r.tmps
def YX(P:Program)(bl:Nat)(vs:List Value)(ro:Nat→Option Obj)(own:Cells)(Φ:Value→Cells→Prop):Prop:=
 ∃r,(bl,.loop r)∈own∧vs.length=r.params.size∧Round (CP P) bl r.fn (ab6 r vs) r.assign r.body ⟨ro,own⟩ (RY ro Φ)
theorem YX.use{own:Cells}(hy:YX P bl vs ro own Φ)(hs:Sub ro s.ro)(hp:s.rw.Perm (own++fr)){Q:Next→St→Prop}{E:Halt→St→Prop}
 (h:∀l f tm as bd,Round (CP P) l f tm as bd s (fun en s'=>∃v X,en= .returned v∧Φ v X∧(⟨s.ro,X++fr⟩:St).le s')→Q (.round l f tm as bd) s):bP P (Instr.yield bl ⟨vs⟩) s Q E:=by
 obtain⟨r,h1,h2,h3⟩:=hy
 simp only[Instr.yield,Instr.getLoop,aa]
 refine cD (o:= .loop r) (.inr (hp.mem_iff.2 (List.mem_append_left _ h1))) rfl rfl ?_
 have uI:¬(⟨vs⟩:Array Value).size≠r.params.size:=by simpa using h2
 simp only[ae,if_neg uI]
 refine h _ _ _ _ _ (Round.mono (Round.frame (fr:=fr) (B:=[]) (ro:=s.ro) (s:=s) h3 (fun _ h=>(by cases h)) ⟨hp,fun b o hb=> .inl (hs b o hb),Sub.refl _⟩) fun en s' Dt=>?_)
 obtain⟨ym,⟨v,X,rfl,⟨R,hR1,hR2⟩,pQ⟩,hc⟩:=Dt
 refine⟨v,X,rfl,pQ,R,?_,fun b o hb=> .inl (hc.keep b o hb)⟩
 refine hc.rw.trans ((hR1.append_right fr).trans ?_)
 simp only[List.append_assoc]
 exact List.Perm.append_left _ List.perm_append_comm
section
variable {X:Cx} {o:Option JS}
def aqY(n:Nat)(p:Oper)(e:Env):Option (Nat×List Value):=match p.op with
 | .call ⟨.value x,xs,_⟩=>match bp n e x with
  |some (.func (.yield bl) ⟨[]⟩ ⟨[]⟩)=>match xF n e xs.toList with
   |some vs=>some (bl,vs)
   |none=>none
  |_=>none
 |_=>none
theorem jyc{own:Cells}(ps:List Nat)(hy:YX X.P bl vs oU own Φ)(fw:Sub oU X.ro)(hj:∀v Y,Φ v Y→J X (mL ps v Y o))(h1:eR X.n (aqY X.n) o=some (bl,vs):=by kernel_rfl)(h2:dL ps o=some own:=by kernel_rfl):J X o:=by
 obtain⟨ops,i,todo,k,e,w,kn,p,rfl,ho,hw,hc⟩:=du h1
 intro bV
 unfold aqY at hc
 split at hc<;>try (cases hc;done)
 rename_i x xs at_ ax
 split at hc<;>try (cases hc;done)
 rename_i bl' hx
 split at hc<;>try (cases hc;done)
 rename_i nU Ef
 cases hc
 rcases p with ⟨dst,op,ty,pos,cX,g⟩
 dsimp only at ax;subst ax
 have hp:=bH h2
 refine bR X.hC ho hw (by simp) ?_
 have SD:xs.map (ev X.n e)=⟨vs⟩:=rK Ef
 simp only[execOp,resolve,aF hx,Deferred.ofValue,ae,SD]
 have hiv:(invoke (.fn (.yield bl) ⟨[]⟩) (⟨[]⟩++⟨vs⟩):Sem Next)=Instr.yield bl ⟨vs⟩:=by simp[invoke]
 rw[hiv]
 refine YX.use hy fw hp fun l f tm as bd hR=>?_
 show Round X.C l f tm as bd _ _
 refine Round.mono (Round.weaken X.hC hR) fun en s' Dt=>?_
 obtain⟨v,Y,rfl,pQ,hle⟩:=Dt
 have:=hj v Y pQ
 rw[nP ho] at this
 have:=this bV
 simp only[JP,fZ] at this
 have:=this.more X.hC hle
 show ab _ _ _ _ _ _ _ _
 rw[aY]
 exact this
end
attribute [irreducible] aqY
def mk:List Nat→Cells
 | []=>[]
 |b::r=>(b,.deferred (some []))::mk r
def aeD(P:Program)(fn:Func)(R:Ending→St→Prop):Post
 | .normal,a,s| .ret,a,s=>∃tY rest,a.defers=tY.map dX∧s.rw.Perm (mk tY++rest)∧bP P (results fn a.tmps) ⟨s.ro,rest⟩ (fun v s'=>∃s0,s0.le s'∧R (.returned v) s0) (fun _ _=>False)
 |_,_,_=>False
section
variable {P:Program} {C:Class}
theorem zr(hC:∀main T,C main T→Closed P main T)(hT:C main T){rest:Cells}:∀(tY:List Nat) (fr:Frame) (s:St),fr.mode= .returning→fr.defers=tY.map dX→s.rw.Perm (mk tY++rest)→T (G {fr with defers:=[]} cs) ⟨s.ro,rest⟩→T (G fr cs) s
 | [],fr,s,_,hd,hp,h=>by
  have:fr={fr with defers:=[]}:=by rcases fr with ⟨a,b,c,d,e,f,g⟩;simp only[List.map_nil] at hd;subst hd;rfl
  rw[this]
  exact(hC main T hT).mono _ ⟨s.ro,rest⟩ _ ⟨[],by simpa [mk] using hp,fun b o hb=> .inl hb⟩ h
 |b::r,fr,s,hm,hd,hp,h=>by
  obtain⟨L,Rr,hs⟩:=List.append_of_mem (hp.mem_iff.2 (List.mem_append_left _ List.mem_cons_self))
  refine unwind_mark hC hT (.inl hm) (ds:=r.map dX) (by simpa using hd) hs ?_
  have Sw:(L++Rr).Perm (mk r++rest):=by
   rw[hs] at hp
   exact(List.perm_middle.symm.trans hp).cons_inv
  refine(hC main T hT).mono _ ⟨s.ro,L++Rr⟩ _ ⟨[(b,.deferred none)],?_,fun b o hb=> .inl hb⟩ (zr hC hT r _ _ hm rfl Sw h)
  exact List.perm_middle.trans (List.perm_append_singleton _ _).symm
theorem KX(hC:∀main T,C main T→Closed P main T){c:Code}{args:Array Value} 
 (hf:P.funcs[f]?=some fn) (hb:fn.body=some c) (h:Wp C f none c (aeD P fn R) ⟨args++Array.replicate (fn.ntmps-args.size) undef,[]⟩ s):Fn C P f args s R:=by
 intro main T hT cl cs k1 k2
 let b:Frame:={(default:Frame) with fn:=f,kind:= .normal,roundOf:=none}
 have gM:Frame.enter P f args .normal=aK b ⟨args++Array.replicate (fn.ntmps-args.size) undef,[]⟩ [.code c]:=by
  simp[Frame.enter,aK,hf,hb,b]
 rw[gM]
 refine h main T hT b [] (cl::cs) rfl (by simp[b]) rfl fun e a' s' q=>?_
 have rG:∀(todo:List Item),(∃tY rest,a'.defers=tY.map dX∧s'.rw.Perm (mk tY++rest)∧bP P (results fn a'.tmps) ⟨s'.ro,rest⟩ (fun v s'=>∃s0,s0.le s'∧R (.returned v) s0) (fun _ _=>False))→T (G {aK b a' todo with mode:= .returning} (cl::cs)) s':=by
  intro todo ⟨tY,rest,hd,hp,hr⟩
  exact zr hC hT tY _ _ rfl hd hp (su hC hT hf rfl rfl rfl rfl hr k1)
 cases e with
 |normal=>
  exact(hC main T hT).go rfl rfl (g':=G {aK b a' [] with mode:= .returning} (cl::cs)) (fun w=>by simp[G,stepG,stepG.exec,aK,b]) (rG _ q)
 |ret=>
  exact fun todo=>(hC main T hT).go rfl rfl (g':=G {aK b a' (.code .ret::todo) with mode:= .returning} (cl::cs)) (fun w=>by simp[G,stepG,stepG.exec,aK,b]) (rG _ q)
 |panic ch=>exact q.elim
 |exit id=>exact q.elim
 |goto l=>exact q.elim
 |outgrown=>exact q.elim
end
def XM(P:Program)(hm:P.follows .mixedOrders=true)(f:FuncId)(ro:Nat→Option Obj)(R:Ending→St→Prop):Cx:=⟨P,CP P,eJ,hm,f,none,(qh P f).ntmps,[],ro,aeD P (qh P f) R⟩
theorem amn(hm:P.follows .mixedOrders=true){L:Cells}(own:List Sg)(kn:Cells)(hk:Knows ro kn)(h:J (XM P hm f ro (RX ro Φ)) (jo P f args own kn))(hL:den own=L:=by rfl):dR P f args ro L Φ:=by
 subst hL
 unfold jo at h
 split at h<;>try exact h.elim
 rename_i fn hf
 split at h<;>try exact h.elim
 rename_i c hc
 cases hl:Nat.ble args.length fn.ntmps with
 |false=>rw[hl] at h;exact h.elim
 |true=>
  rw[hl] at h
  have ur:qh P f=fn:=by simp only[qh,hf]
  have:=h hk
  simp only[JP,XM,KQ,ur] at this
  refine KX eJ hf hc ?_
  have he:=kz args fn.ntmps (Nat.le_of_ble_eq_true hl)
  rw[←he] at this
  exact this
structure QM(X:Cx)(R:Ending→St→Prop)(tY:List Nat):Prop where
 q:X.Q=aeD X.P (qh X.P X.fn) R
 d:X.D=tY.map dX
def Cx.dm(X:Cx)(bd:Nat):Cx:={X with D:=dX bd::X.D}
theorem qm0{hm:P.follows .mixedOrders=true}:QM (XM P hm f ro R) R []:=⟨rfl,rfl⟩
theorem QM.a(h:QM X R tY):QM (X.at ro) R tY:=⟨h.q,h.d⟩
theorem QM.m(h:QM X R tY):QM (X.dm bd) R (bd::tY):=⟨h.q,by simp[Cx.dm,h.d]⟩
theorem QM.w{aFz:List Nat}(h:QM X R tY):QM (X.wd (aFz.map dX)) R aFz:=⟨h.q,rfl⟩
def Ct(pm:List Nat):Option JS→Option JS
 |some ⟨p,e,w,kn⟩=>some ⟨p,e,dA pm 0 w,kn⟩
 |none=>none
section
variable {X:Cx} {o:Option JS}
theorem jrM(hq:QM X (RX oU Φ) tY)(v:Value)(pm hs ps:List Nat)(Y:Cells)(fw:Sub oU X.ro)(hR:Φ v Y)(h0:dL pm o=some (mk tY):=by kernel_rfl)(h1:qF (gZ X.P X.n X.fn hs (Ct pm o))=some v:=by kernel_rfl)(h2:OL (gZ X.P X.n X.fn hs (Ct pm o))=OJ (gZ X.P X.n X.fn hs (Ct pm o)):=by kernel_rfl)(h3:dL ps (Ct pm o)=some Y:=by kernel_rfl)(h4:yU o=true:=by kernel_rfl):J X o:=by
 obtain⟨ex,e,w,kn,rfl,hex⟩:=sR h4
 simp only[Ct,gZ] at h1 h2 h3
 cases hr:BA X.P X.n e (dA pm 0 w) kn.c hs (qh X.P X.fn).results.toList with
 |none=>simp only[hr,qF] at h1;cases h1
 |some x=>
  rcases x with ⟨vs,q⟩
  simp only[hr,qF,Option.some.injEq,OL,OJ] at h1 h2
  intro bV
  have rG:=tv bV hr (lR h2)
  have hp:=bH h3
  have EV:=Px (s0:=⟨oU,Y⟩) (R:=RX oU Φ) hex rG h1 (dI hp fw) ⟨v,Y,rfl,rfl,hR⟩
  have ht:bP X.P (results (qh X.P X.fn) (A X.n e X.D).tmps) ⟨X.ro,den (dA pm 0 w)⟩ (fun v s'=>∃s0,s0.le s'∧RX oU Φ (.returned v) s0) (fun _ _=>False):=by
   rcases hex with rfl|rfl<;>exact EV.2
  show X.Q ex (A X.n e X.D) ⟨X.ro,den w⟩
  rw[hq.q]
  have hm:∃tY rest,(A X.n e X.D).defers=tY.map dX∧(den w).Perm (mk tY++rest)∧bP X.P (results (qh X.P X.fn) (A X.n e X.D).tmps) ⟨X.ro,rest⟩ (fun v s'=>∃s0,s0.le s'∧RX oU Φ (.returned v) s0) (fun _ _=>False):=⟨tY,_,hq.d,bH h0,ht⟩
  rcases hex with rfl|rfl<;>exact hm
end
attribute [irreducible] Ct
def upQ(Q:Post):Post:=fun e a s=>∃s0,s0.le s∧Q e a s0
theorem jF.more(hT:Closed P main T){b:Frame}(hl:s.le s'):∀ {e:Exit} {a:Act},jF T b k cs e a s→jF T b k cs e a s'
 | .normal,_,h=>hT.mono _ _ _ hl h
 | .exit id,a,h=>by
  simp only[jF] at h ⊢
  cases hk:exitTo id k with
  |some k'=>rw[hk] at h;exact hT.mono _ _ _ hl h
  |none=>rw[hk] at h;exact fun todo ht=>hT.mono _ _ _ hl (h todo ht)
 | .ret,_,h=>fun todo=>hT.mono _ _ _ hl (h todo)
 | .panic _,_,h=>fun todo=>hT.mono _ _ _ hl (h todo)
 | .goto _,_,h=>h.elim
 | .outgrown,_,h=>h.elim
theorem ayJ(hC:∀main T,C main T→Closed P main T){fn:FuncId}{az:Option Nat}{c:Code}{Q:Post}{a:Act}(h:Wp C fn az c (upQ Q) a s):Wp C fn az c Q a s:=
 fun main T hT b k cs h1 h2 h3 h4=>h main T hT b k cs h1 h2 h3 fun _ _ _ ⟨_,hl,hq⟩=>jF.more (hC _ _ hT) hl (h4 _ _ _ hq)
def ItX(P:Program)(g:FuncId)(fi ca:List Value)(ro:Nat→Option Obj)(own:Cells)(N:Nat)(El:(Nat→Option Obj)→Nat→List Value→Cells→Prop)(Ψ:Cells→Prop):Prop:=
 ∀(bl:Nat) (aH:Nat→Option Obj) (Inv:Nat→Cells→Prop) (Stop:Cells→Prop),Sub ro aH→
  (∀k vs LL B kU,k <N→El kU k vs LL→Inv k B→Sub aH kU→YX P bl vs kU (LL++B) (fun r B'=>(r= .bool true∧Inv (k+1) B')∨(r= .bool false∧Stop B')))→
  ∀B,Inv 0 B→dR P g (fi++[.func (.yield bl) #[] #[]]++ca) aH (own++B) (fun _ Y=>∃Z B',Y=Z++B'∧Ψ Z∧(Inv N B'∨Stop B'))
theorem Round.more(hC:∀main T,C main T→Closed P main T){l:Nat}{bd:Code}(hl:s.le s')(h:Round C l f tm as bd s R):Round C l f tm as bd s' R:=
 fun main T hT c cs k1 k2=>(hC _ _ hT).mono _ _ _ hl (h main T hT c cs k1 k2)
def rfV(P:Program)(n:Nat):Option JS→Option (FuncId×List Value×List Value×Nat)
 |some ⟨.code (.rangeFunc x ps _ _) _,e,_,_⟩=>match bp n e x with
  |some (.func (.func g) ⟨fi⟩ ⟨ca⟩)=>bif Bj P g then some (g,fi,ca,ps.size) else none
  |_=>none
 |_=>none
def lpO(X:Cx)(bd:Nat):Option JS→Loop
 |some ⟨.code (.rangeFunc _ ps a b) _,e,_,_⟩=>ib X.fn (A X.n e X.D).tmps ps a b bd
 |_=>ib X.fn #[] #[] .ret .ret bd
def aFv:Option JS→Code
 |some ⟨.code (.rangeFunc _ _ _ b) _,_,_,_⟩=>b
 |_=> .ret
def Pr:List Tmp→List Value→Env→Env
 |t::ts,v::vs,e=>Pr ts vs (upd (some t) v e)
 |_,_,e=>e
theorem Pq{D:List Deferred}:∀(ts:List Tmp) (vs:List Value) (e:Env),(ts.zip vs).foldl (fun(tm:Array Value) (x:Tmp×Value)=>tm.setIfInBounds x.1 x.2) (A n e D).tmps=(A n (Pr ts vs e) D).tmps
 | [],_,_=>rfl
 |_::_,[],_=>rfl
 |t::ts,v::vs,e=>by
  have:=aY n e D (some t) v
  simp only[Act.put] at this
  simp only[List.zip_cons_cons,List.foldl_cons,Pr]
  rw[←Pq ts vs,←this]
def rdO(X:Cx)(bl bd:Nat)(vs:List Value)(w:List Sg)(o:Option JS):Option JS:=match o with
 |some ⟨.code (.rangeFunc _ ps a _) _,e,_,kn⟩=>some ⟨.code a [],Pr ps.toList vs e,.b bl (.loop (lpO X bd o))::w,⟨kn.c,[]⟩⟩
 |_=>none
def afO(jump:Option Code)(bd:Nat)(Z:Cells)(wi:List Sg)(is:List Nat):Option JS→Option JS
 |some ⟨.code _ k,e,w,kn⟩=>match jump with
  |none=>some ⟨PI k,e,.b bd (.deferred (some [])):: .l Z::(wi++dA is 0 w),⟨kn.c,[]⟩⟩
  |some .ret=>some ⟨.fin .ret,e,.b bd (.deferred (some [])):: .l Z::(wi++dA is 0 w),⟨kn.c,[]⟩⟩
  |some (.exit id)=>match AP id k with
   |some p=>some ⟨p,e,.b bd (.deferred (some [])):: .l Z::(wi++dA is 0 w),⟨kn.c,[]⟩⟩
   |none=>none
  |_=>none
 |_=>none
def aqZ(bl:Nat)(Lp:Loop)(wf:ι→List Sg)(Inv:Nat→ι→Prop)(Sp:Code→ι→Prop)(k:Nat):Value→Cells→Prop:=fun r B=>
 (r= .bool true∧∃j,Inv (k+1) j∧B=(bl,.loop Lp)::den (wf j))∨(r= .bool false∧∃jump j,Sp jump j∧B=(bl,.loop {Lp with state:= .done,pending:=some jump})::den (wf j))
def Cx.rd(X:Cx)(bl:Nat)(ro:Nat→Option Obj)(Φ:Value→Cells→Prop)(body:Code):Cx:=⟨X.P,CP X.P,eJ,X.hm,X.fn,some bl,X.n,[],ro,H2 (CP X.P) (RY ro Φ) bl X.fn body⟩
def Cx.re(X:Cx)(bl:Nat)(ro:Nat→Option Obj)(Φ:Value→Cells→Prop):Cx:=⟨X.P,CP X.P,eJ,X.hm,X.fn,some bl,X.n,[],ro,Bz (RY ro Φ) bl⟩
theorem Ls:∀(k:List KI),KQ (X.dm bd) k=KQ X k
 | []=>rfl
 | .seq _::k=>by simp only[KQ,Ls k];rfl
 | .block _::k=>by simp only[KQ,Ls k]
 | .next _::k=>by simp only[KQ,Ls k]
theorem J3(Z W R:List α)(x y:α):((Z++x::W)++y::R).Perm (x::y::(Z++(W++R))):=by
 refine List.perm_middle.trans ?_
 rw[List.append_assoc,List.cons_append]
 exact(List.Perm.cons y List.perm_middle).trans (List.Perm.swap _ _ _)
section
variable {X:Cx} {o:Option JS}
theorem jrf{np:Nat}{Ψ:Cells→Prop}(ow:List Sg)(hit:ItX X.P g fi ca X.ro (den ow) N El Ψ)(hel:∀ro k vs LL,El ro k vs LL→vs.length=np)
 (wf:ι→List Sg)(Inv:Nat→ι→Prop)(Sp:Code→ι→Prop)(i0:ι)(h0:Inv 0 i0)(is:List Nat)
 (hb:∀bl bd k vs LL i kU,k <N→El kU k vs LL→Inv k i→Sub X.ro kU→J (X.rd bl kU (aqZ bl (lpO X bd o) wf Inv Sp k) (aFv o)) (rdO X bl bd vs (wf i++[.l LL]) o))
 (hN:∀bd i Z,Inv N i→Ψ Z→J (X.dm bd) (afO none bd Z (wf i) is o))(hS:∀bd i Z jump,Sp jump i→Ψ Z→J (X.dm bd) (afO (some jump) bd Z (wf i) is o))
 (h1:rfV X.P X.n o=some (g,fi,ca,np):=by kernel_rfl)(h2:qK is o=some (ow++wf i0):=by kernel_rfl)(hf:(X.P.funcs[X.fn]?).isSome=true:=by kernel_rfl) (hr:X.az=none:=by rfl):J X o:=by
 unfold rfV at h1
 split at h1<;>try (cases h1;done)
 rename_i x params assign body k e w kn
 split at h1<;>try (cases h1;done)
 rename_i g' Vg y4 hx
 cases G6:Bj X.P g' with
 |false=>rw[G6] at h1;cases h1
 |true=>
  rw[G6] at h1
  simp only[cond_true,Option.some.injEq,Prod.mk.injEq] at h1
  obtain⟨rfl,rfl,rfl,hnp⟩:=h1
  have ff:=kM G6
  intro bV
  have hp:=lE h2
  rw[lh] at hp
  obtain⟨fn',ur⟩:=Option.isSome_iff_exists.1 hf
  show Wp X.C X.fn X.az (.rangeFunc x params assign body) (KQ X k) (A X.n e X.D) ⟨X.ro,den w⟩
  rw[hr]
  refine ayJ X.hC (zo X.hC (fi:=⟨Vg⟩) (ca:=⟨y4⟩) (by rw[dZ];exact aF hx) ff fun bd bl _ _=>?_)
  rw[R6]
  have hy:=hit bl X.ro (fun k B=>∃i,Inv k i∧B=(bl,.loop (ib X.fn (A X.n e X.D).tmps params assign body bd))::den (wf i))
   (fun B=>∃jump i,Sp jump i∧B=(bl,.loop {ib X.fn (A X.n e X.D).tmps params assign body bd with state:= .done,pending:=some jump})::den (wf i)) (Sub.refl _) (fun k vs LL B kU hk hv hi hs=>?_) _ ⟨i0,h0,rfl⟩
  rotate_left
  ·obtain⟨i,hi,rfl⟩:=hi
   refine⟨ib X.fn (A X.n e X.D).tmps params assign body bd,List.mem_append_right _ List.mem_cons_self,(hel _ _ _ _ hv).trans hnp.symm,Round.more eJ (s:=⟨kU,((bl,.loop (ib X.fn (A X.n e X.D).tmps params assign body bd))::den (wf i))++LL⟩) ⟨[],by rw[List.append_nil];exact List.perm_append_comm,fun b o hb=> .inl hb⟩ (Da eJ ur ?_)⟩
   have:=hb bl bd k vs LL i kU hk hv hi hs fun y hy=>hs _ _ (bV y hy)
   have Nn:den (.b bl (.loop (ib X.fn (A X.n e X.D).tmps params assign body bd))::(wf i++[.l LL]))=((bl,.loop (ib X.fn (A X.n e X.D).tmps params assign body bd))::den (wf i))++LL:=by rw[iv,lh];rfl
   rw[←Nn]
   have hyt:ab6 (ib X.fn (A X.n e X.D).tmps params assign body bd) vs=(A X.n (Pr params.toList vs e) X.D).tmps:=by
    rw[←Pq]
    simp only[ab6,ib]
    rw[←Array.foldl_toList,Array.toList_zip]
   rw[hyt]
   exact this
  refine Fn.weaken X.hC (Fn.mono (Fn.frame (fr:=(bd,.deferred (some []))::den (dA is 0 w)) (B:=[]) (ro:=X.ro) hy (fun _ h=>(by cases h)) ⟨?_,fun b o hb=> .inl hb,Sub.refl _⟩) fun en s' Dt=>?_)
  ·refine List.Perm.trans (.cons _ (.cons _ ?_)) (J3 _ _ _ _ _).symm
   rw[←List.append_assoc]
   exact hp
  obtain⟨ym,⟨v,Y,rfl,rfl,Z,B',rfl,hΨ,hI⟩,hc⟩:=Dt
  have hc1:s'.rw.Perm ((Z++B')++(bd,.deferred (some []))::den (dA is 0 w)):=hc.rw
  have key:∀(r0:Loop) (i:ι),B'=(bl,.loop r0)::den (wf i)→∃L Rr,s'.rw=L++(bl,.loop r0)::Rr∧∀r1,(⟨X.ro,den (.b bd (.deferred (some [])):: .l Z::(wf i++dA is 0 w))⟩:St).le ⟨s'.ro,L++(bl,.loop r1)::Rr⟩:=by
   intro r0 i hB
   subst hB
   have SF:=hc1.trans (J3 _ _ _ _ _)
   obtain⟨L,Rr,hs⟩:=List.append_of_mem (SF.mem_iff.2 List.mem_cons_self)
   refine⟨L,Rr,hs,fun r1=>dI (J:=[(bl,.loop r1)]) ?_ hc.keep⟩
   rw[hs] at SF
   have hc3:=(List.perm_middle.symm.trans SF).cons_inv
   rw[iv,fZ,lh]
   exact List.perm_middle.trans ((List.Perm.cons _ hc3).trans (List.perm_append_singleton _ _).symm)
  rcases hI with ⟨i,hi,hB⟩| ⟨jump,i,hi,hB⟩
  ·obtain⟨L,Rr,hs,hle⟩:=key _ i hB
   refine⟨L,_,Rr,hs,by simp[ib],?_⟩
   refine⟨_,hle _,?_⟩
   have:=hN bd i Z hi hΨ bV
   rw[←Ls (bd:=bd)]
   exact tA (X:=X.dm bd) (kn:=⟨kn.c,[]⟩) this
  obtain⟨L,Rr,hs,hle⟩:=key _ i hB
  refine⟨L,_,Rr,hs,by simp,?_⟩
  have:=hS bd i Z jump hi hΨ
  cases jump with
  |ret=>
   refine⟨_,hle _,?_⟩
   rw[←Ls (bd:=bd)]
   exact zy (X:=X.dm bd) (this bV) k
  |exit id=>
   simp only[afO] at this
   cases hk:AP id k with
   |none=>rw[hk] at this;exact this.elim
   |some p=>
    rw[hk] at this
    refine⟨_,hle _,?_⟩
    rw[←Ls (bd:=bd)]
    exact vY (X:=X.dm bd) (kn:=⟨kn.c,[]⟩) hk (this bV)
  |_=>exact this.elim
end
theorem aBv:(lpO X bd o).state= .ready∧(lpO X bd o).pending=none:=by
 unfold lpO
 split<;>exact⟨rfl,rfl⟩
attribute [irreducible] rfV lpO aFv rdO afO
def bgO(body:Code):Option JS→Option (JS×Nat)
 |some ⟨.fin .normal,e,.b b (.loop r)::w,kn⟩=>match r.state with
  | .ready=>some (⟨.code body [],e,.b b (.loop {r with state:= .busy})::w,kn⟩,b)
  |_=>none
 |_=>none
def Eo:Option (JS×Nat)→Option JS
 |some (s,_)=>some s
 |none=>none
def Td:Option (JS×Nat)→Option Nat
 |some (_,b)=>some b
 |none=>none
def Qu:Option JS→Option (Option Code)
 |some ⟨.fin .normal,_,_,_⟩=>some none
 |some ⟨.fin .ret,_,_,_⟩=>some (some .ret)
 |some ⟨.fin (.exit id),_,_,_⟩=>some (some (.exit id))
 |_=>none
structure QY(X:Cx)(bl:Nat)(ro:Nat→Option Obj)(Φ:Value→Cells→Prop):Prop where
 q:X.Q=Bz (RY ro Φ) bl
theorem ZF:QY (X.re bl ro Φ) bl ro Φ:=⟨rfl⟩
section
variable {X:Cx} {o:Option JS} {bl:Nat} {ro:Nat→Option Obj}
theorem jbg(h:J (X.re bl ro Φ) (Eo (bgO body o)))(h1:Td (bgO body o)=some bl:=by kernel_rfl):J (X.rd bl ro Φ body) o:=by
 unfold bgO at h h1
 split at h<;>try exact h.elim
 rename_i e b r w kn
 split at h<;>try exact h.elim
 rename_i bS
 simp only[bS,Td,Option.some.injEq] at h1
 subst h1
 simp only[Eo] at h
 intro bV
 have hw:=h bV
 simp only[JP,Cx.rd,H2,CL]
 refine⟨[],r,den w,by rw[iv];rfl,bS,?_⟩
 simp only[JP,iv] at hw
 exact hw
theorem jyR{Lp:Loop}{jump:Option Code}{Y:Cells}(hq:QY X bl ro Φ)(fw:Sub ro X.ro)(ps:List Nat)(pQ:Φ (.bool jump.isNone) ((bl,.loop {Lp with state:=if jump.isNone then .ready else .done,pending:=jump})::Y))(h1:dL ps o=some ((bl,.loop {Lp with state:= .busy})::Y):=by kernel_rfl)(h2:Qu o=some jump:=by kernel_rfl):J X o:=by
 have main:∀s w kn e,o=some ⟨s,e,w,kn⟩→Vm (RY ro Φ) bl jump ⟨X.ro,den w⟩:=by
  intro s w kn e ho
  subst ho
  have hp:=bH h1
  obtain⟨L,Rr,hs⟩:=List.append_of_mem (hp.mem_iff.2 (List.mem_append_left _ List.mem_cons_self))
  refine⟨L,_,Rr,hs,_,_,rfl,?_,pQ⟩
  have mI:den w=L++(bl,.loop {Lp with state:= .busy})::Rr:=hs
  have hp':(den w).Perm (((bl,.loop {Lp with state:= .busy})::Y)++den (dA ps 0 w)):=hp
  rw[mI] at hp'
  have Sw:=(List.perm_middle.symm.trans hp').cons_inv
  exact dI (J:=den (dA ps 0 w)) (List.perm_middle.trans (.cons _ Sw)) fw
 unfold Qu at h2
 split at h2<;>try (cases h2;done)
 ·rename_i e w kn;cases h2;intro _;show X.Q .normal _ _;rw[hq.q];exact main _ _ _ _ rfl
 ·rename_i e w kn;cases h2;intro _;show X.Q .ret _ _;rw[hq.q];exact main _ _ _ _ rfl
 rename_i id e w kn;cases h2;intro _;show X.Q (.exit id) _ _;rw[hq.q];exact main _ _ _ _ rfl
theorem jyn{Lp:Loop}{wf:ι→List Sg}{Inv:Nat→ι→Prop}{Sp:Code→ι→Prop}{k:Nat}(hq:QY X bl ro (aqZ bl Lp wf Inv Sp k))(fw:Sub ro X.ro)(j:ι)(h:Inv (k+1) j)(ps:List Nat)(hl:Lp.state= .ready∧Lp.pending=none:=by exact aBv)(h1:dL ps o=some ((bl,.loop {Lp with state:= .busy})::den (wf j)):=by kernel_rfl)(h2:Qu o=some none:=by kernel_rfl):J X o:=
 jyR hq fw ps (.inl ⟨rfl,j,h,by rcases Lp with ⟨a,b,c,d,e,f,g,i⟩;obtain⟨h1,h2⟩:=hl;dsimp only at h1 h2;subst h1 h2;rfl⟩) h1 h2
theorem jys{Lp:Loop}{wf:ι→List Sg}{Inv:Nat→ι→Prop}{Sp:Code→ι→Prop}{k:Nat}(hq:QY X bl ro (aqZ bl Lp wf Inv Sp k))(fw:Sub ro X.ro)(jump:Code)(j:ι)(h:Sp jump j)(ps:List Nat)(h1:dL ps o=some ((bl,.loop {Lp with state:= .busy})::den (wf j)):=by kernel_rfl)(h2:Qu o=some (some jump):=by kernel_rfl):J X o:=
 jyR hq fw ps (.inr ⟨rfl,jump,j,h,rfl⟩) h1 h2
end
attribute [irreducible] bgO Eo Td Qu
def rV[DecidableEq κ](k:κ):List (κ×Value)→Nat→Option (Nat×Value)
 | [],_=>none
 |x::l,i=>if k=x.1 then some (i,x.2) else rV k l (i+1)
def lkM[DecidableEq κ](k:κ)(F:List (κ×Value)):Option Value:=(rV k F 0).map (·.2)
def tq(k:κ)(v:Value):List (κ×Value)→Nat→List (κ×Value)
 | [],_=>[]
 |_::l,0=>(k,v)::l
 |x::l,i+1=>x::tq k v l i
def lV[DecidableEq κ](k:κ)(v:Value)(F:List (κ×Value)):List (κ×Value):=match rV k F 0 with
 |some (i,_)=>tq k v F i
 |none=>F++[(k,v)]
structure Sf(P:Program)(T:TypeId){κ:Type}[DecidableEq κ](kv:κ→Value):Prop where
 chk:∀(b:Bool) (k:κ) {α:Type} {K:Unit→Sem α} {s:St} {Q:α→St→Prop} {E:Halt→St→Prop},bP P (K ()) s Q E→bP P (Instr.checkKey b 10000 T (kv k) >>= K) s Q E
 find:∀(k:κ) (es:List MapEntry) (F:List (κ×Value)),es.map (fun e=>(e.key,e.val))=F.map (fun x=>(kv x.1,x.2))→∀ {α:Type} {K:Option (Nat×Value)→Sem α} {s:St} {Q:α→St→Prop} {E:Halt→St→Prop},bP P (K (rV k F 0)) s Q E→bP P (Instr.findKey T (kv k) es >>= K) s Q E
 stay:∀k,Instr.sameBits 10000 (kv k) (kv k)=true
theorem qg[DecidableEq κ]{k:κ}:∀ {F:List (κ×Value)} {i j:Nat} {v:Value},rV k F i=some (j,v)→i≤j∧F[j-i]?=some (k,v)
 | [],_,_,_,h=>by cases h
 |x::l,i,j,v,h=>by
  simp only[rV] at h
  split at h
  ·rename_i hk
   cases h
   exact⟨Nat.le_refl _,by simp[hk]⟩
  obtain⟨h1,h2⟩:=qg h
  refine⟨by omega,?_⟩
  rw[show j-i=(j-(i+1))+1 by omega,List.getElem?_cons_succ];exact h2
theorem N9(a b:ByteArray):(a==b)=decide (a=b):=by
 have h:(a==b)=(a.data==b.data):=by cases a;cases b;rfl
 rw[h,Bool.eq_iff_iff]
 cases a;cases b
 simp
theorem Dy(a:ByteArray):∀(es:List MapEntry) (F:List (ByteArray×Value)) (i:Nat),es.map (fun e=>(e.key,e.val))=F.map (fun x=>(Value.string x.1,x.2))→Instr.findNow .string (.string a) es i=some (rV a F i)
 | [],[],_,_=>rfl
 | [],_::_,_,h=>by simp at h
 |_::_,[],_,h=>by simp at h
 |e::es,x::F,i,h=>by
  simp only[List.map_cons,List.cons.injEq,Prod.mk.injEq] at h
  obtain⟨⟨h1,h2⟩,h3⟩:=h
  simp only[Instr.findNow,h1,Instr.sameNow,rV,N9]
  by_cases hk:a=x.1
  ·simp[hk,h2]
  simp only[hk,decide_false,if_false]
  exact Dy a es F (i+1) h3
def CkD(P:Program)(dep:Nat)(T:TypeId)(v:Value):Prop:=∀(b:Bool) {α:Type} {K:Unit→Sem α} {s:St} {Q:α→St→Prop} {E:Halt→St→Prop},bP P (Instr.checkKey b dep T v >>= K) s Q E=bP P (K ()) s Q E
theorem aFm{T:TypeId}(tf:TF P T .string sz bB z ag)(a:ByteArray):CkD P (dep+1) T (.string a):=by
 intro b α K s Q E
 simp only[Instr.checkKey,aa,a8 tf,ae]
theorem atg{T:TypeId}(tf:TF P T .string sz bB z ag):Sf P T (fun(a:ByteArray)=>Value.string a) where
 chk b k α K s Q E h:=by rw[aFm (dep:=9999) tf k b];exact h
 find k es F he α K s Q E h:=by
  simp only[Instr.findKey,aa,a8 tf,Dy k es F 0 he,ae]
  exact h
 stay k:=by simp[Instr.sameBits,N9]
def afp(P:Program)(T:TypeId):Bool:=match aZ P T with
 |some ⟨.string,_,_,_⟩=>true
 |_=>false
theorem Xk{T:TypeId}(h:afp P T=true):Sf P T (fun(a:ByteArray)=>Value.string a):=by
 unfold afp at h
 split at h
 ·rename_i dJ
  obtain⟨bB,tf⟩:=av dJ
  exact atg tf
 cases h
theorem ItX.up{own:Cells}{Ψ:Cells→Prop}(h:ItX P g fi ca ro own N El Ψ)(hs:Sub ro aI):ItX P g fi ca aI own N El Ψ:=
 fun bl aH Inv Stop h1=>h bl aH Inv Stop (hs.trans h1)
def YOK(P:Program)(bl:Nat)(ro:Nat→Option Obj)(N:Nat)(El:(Nat→Option Obj)→Nat→List Value→Cells→Prop)(Inv:Nat→Cells→Prop)(Stop:Cells→Prop):Prop:=
 ∀k vs LL B kU,k <N→El kU k vs LL→Inv k B→Sub ro kU→YX P bl vs kU (LL++B) (fun r B'=>(r= .bool true∧Inv (k+1) B')∨(r= .bool false∧Stop B'))
theorem YOK.up{Inv:Nat→Cells→Prop}{Stop:Cells→Prop}(h:YOK P bl ro N El Inv Stop)(hs:Sub ro aI):YOK P bl aI N El Inv Stop:=
 fun k vs LL B kU h1 h2 h3 h4=>h k vs LL B kU h1 h2 h3 (hs.trans h4)
def Part(L:List α)(p:Nat)(m:List α):Prop:=∃a b,L=a++m++b∧a.length=p
theorem Part.get{L m:List α}{p:Nat}{x:α}(h:Part L p m)(hx:m[i]?=some x):p+i <L.length∧L[p+i]?=some x:=by
 obtain⟨a,b,rfl,rfl⟩:=h
 have hi:=(List.getElem?_eq_some_iff.1 hx).1
 have:(a++m++b)[a.length+i]?=some x:=by
  rw[List.append_assoc,List.getElem?_append_right (by omega),List.getElem?_append_left (by omega),show a.length+i-a.length=i by omega];exact hx
 exact⟨(List.getElem?_eq_some_iff.1 this).1,this⟩
theorem Part.flat{L:List β}{p:Nat}{G:α→List β}{l a b:List α}{s:α}(h:Part L p (l.flatMap G))(hl:l=a++[s]++b):Part L (p+(a.flatMap G).length) (G s):=by
 obtain⟨u,v,rfl,rfl⟩:=h
 subst hl
 exact⟨u++a.flatMap G,b.flatMap G++v,by simp[List.flatMap_append],by simp⟩
theorem Pc{T:TypeId}[DecidableEq κ]{kv:κ→Value}(he:∀a b,EqD P 10000 T (kv a) (kv b) (decide (a=b)))(k:κ):∀(es:List MapEntry) (F:List (κ×Value)) (i:Nat),es.map (fun e=>(e.key,e.val))=F.map (fun x=>(kv x.1,x.2))→∀ {α:Type} {K:Option (Nat×Value)→Sem α} {s:St} {Q:α→St→Prop} {E:Halt→St→Prop},bP P (K (rV k F i)) s Q E→bP P (Instr.findAsking T (kv k) es i >>= K) s Q E
 | [],[],_,_,_,_,_,_,_,h=>h
 | [],_::_,_,h,_,_,_,_,_,_=>by simp at h
 |_::_,[],_,h,_,_,_,_,_,_=>by simp at h
 |e::es,x::F,i,h,α,K,s,Q,E,hK=>by
  simp only[List.map_cons,List.cons.injEq,Prod.mk.injEq] at h
  obtain⟨⟨h1,h2⟩,h3⟩:=h
  simp only[Instr.findAsking,aa,h1,Op.equal]
  rw[show Op.maxDepth=10000 from rfl,he k x.1]
  simp only[rV] at hK
  by_cases hk:k=x.1
  ·rw[if_pos hk] at hK
   simp only[hk,decide_true,if_true,ae,h2]
   exact hK
  rw[if_neg hk] at hK
  simp only[hk,decide_false,Bool.false_eq_true,if_false]
  exact Pc he k es F (i+1) h3 hK
theorem HK{T:TypeId}{k:IntKind}(tf:TF P T (.int k) sz bB z ag)(a:Int):CkD P (dep+1) T (.int k a):=by
 intro b α K s Q E
 simp only[Instr.checkKey,aa,a8 tf,ae]
inductive Bb(P:Program)(dep:Nat)(l:List Value):List Field→Prop
 |nil:Bb P dep l []
 |cons {f:Field} {fs:List Field} {v:Value} (hn:f.name≠ "_") (hv:Ic P f.type l f.offset v) (he:CkD P dep f.type v) (ht:Bb P dep l fs):Bb P dep l (f::fs)
theorem RP{T:TypeId}{fields:Array Field}(tf:TF P T (.struct fields) sz bB z true)(hf:Bb P dep l fields.toList):CkD P (dep+1) T (.agg ⟨l⟩):=by
 intro b α K s Q E
 simp only[Instr.checkKey,aa,a8 tf]
 rw[←Array.forIn_toList]
 generalize fields.toList=fl at hf
 clear tf
 induction hf with
 |nil=>simp only[List.forIn_nil,ae,aa]
 | @cons f fs v hn hv he ht ih=>
  simp only[List.forIn_cons,hn,ne_eq,not_false_eq_true,if_true,aa]
  rw[hv]
  simp only[aa]
  rw[he]
  simp only[ae]
  exact ih
theorem ae1{T:TypeId}[DecidableEq κ]{kv:κ→Value}{d:TypeDesc}(tf:TF P T d sz bB z ag)(hl:∀k,∃l,kv k= .agg l)(hc:∀k,CkD P 10000 T (kv k))(he:∀a b,EqD P 10000 T (kv a) (kv b) (decide (a=b)))(hs:∀k,Instr.sameBits 10000 (kv k) (kv k)=true):Sf P T kv where
 chk b k α K s Q E h:=by rw[hc k b];exact h
 find k es F hm α K s Q E h:=by
  simp only[Instr.findKey,aa,a8 tf]
  cases es with
  |nil=>
   cases F with
   |nil=>exact h
   |cons x F=>simp at hm
  |cons e es=>
   have:Instr.findNow d (kv k) (e::es) 0=none:=by
    cases F with
    |nil=>simp at hm
    |cons x F=>
     simp only[List.map_cons,List.cons.injEq,Prod.mk.injEq] at hm
     obtain⟨l,Ca⟩:=hl k
     obtain⟨l2,qy⟩:=hl x.1
     simp only[Instr.findNow,hm.1.1,Ca,qy]
     cases d<;>rfl
   rw[this]
   exact Pc he k _ F 0 hm h
 stay:=hs
def sY(kv:κ→Value)(F:List (κ×Value))(es:Array MapEntry)(ck:Nat):Prop:=
 es.toList.map (fun e=>(e.key,e.val))=F.map (fun x=>(kv x.1,x.2))∧(es.toList.map (·.born)).Nodup∧∀e∈es.toList,e.born <ck
def jJ(r:Nat)(kv:κ→Value)(F:List (κ×Value))(L:Cells):Prop:=∃es ck,L=[(r,.map es ck)]∧sY kv F es ck
def ajx(s:St)(r:Nat)(kv:κ→Value)(F:List (κ×Value)):Prop:=∃es ck,s.has r (.map es ck)∧sY kv F es ck
theorem jJ.has{kv:κ→Value}{F:List (κ×Value)}{L:Cells}(h:jJ r kv F L)(hs:∀x∈L,s.has x.1 x.2):ajx s r kv F:=by
 obtain⟨es,ck,rfl,hm⟩:=h
 exact⟨es,ck,hs _ List.mem_cons_self,hm⟩
theorem ajx.ext{kv:κ→Value}{F:List (κ×Value)}(h:ajx s r kv F)(hs:Ext s s'):ajx s' r kv F:=by
 obtain⟨es,ck,h1,h2⟩:=h
 exact⟨es,ck,hs _ _ h1,h2⟩
theorem jJ.nil(r:Nat)(kv:κ→Value):jJ r kv [] [(r,.map #[] 0)]:=⟨#[],0,rfl,rfl,List.nodup_nil,fun _ h=>(by cases h)⟩
section
variable {X:Cx} {o:Option JS}
def Qn[DecidableEq κ](z:Value)(ok:Bool)(k:κ)(F:List (κ×Value)):Value:=match lkM k F with
 |some v=>bif ok then .tuple ⟨[v,.bool true]⟩ else v
 |none=>bif ok then .tuple ⟨[z,.bool false]⟩ else z
def luV(P:Program)(n:Nat)(p:Oper)(e:Env):Option (TypeId×Value×Value×Value×Bool):=match p.op with
 | .lookup T x y ok=>match aZ P T with
  |some ⟨.map K E,_,_,_⟩=>match aZ P E with
   |some te=>match bp n e x with
    |some m=>match bp n e y with
     |some k=>some (K,m,k,OO te.zero te.agg,ok)
     |none=>none
    |none=>none
   |none=>none
  |_=>none
 |_=>none
theorem jlu[DecidableEq κ]{kv:κ→Value}{F:List (κ×Value)}{K:TypeId}(k:κ)(z:Value)(ok:Bool)(ps:List Nat)(B:Cells)(hk:Sf X.P K kv)(hm:∀s:St,Ext ⟨X.ro,[]⟩ s→(∀x∈B,s.has x.1 x.2)→ajx s r kv F)(hj:J X (MD B (Qn z ok k F) o))
 (hv:dE X.n (luV X.P X.n) o=some (K,.map (some r),kv k,z,ok):=by kernel_rfl)(hB:dL ps o=some B:=by kernel_rfl):J X o:=by
 refine jGN hv hB (fun s p e ho hh hf=>?_) hj
 subst ho
 unfold luV at hf
 split at hf<;>try (cases hf;done)
 rename_i T x y ok' ax
 split at hf<;>try (cases hf;done)
 rename_i K' E' _ _ _ dJ
 split at hf<;>try (cases hf;done)
 rename_i te tO
 split at hf<;>try (cases hf;done)
 rename_i m hx
 split at hf<;>try (cases hf;done)
 rename_i k' hy
 simp only[Option.some.injEq,Prod.mk.injEq] at hf
 obtain⟨rfl,rfl,rfl,rfl,rfl⟩:=hf
 obtain⟨bB,tf⟩:=av dJ
 obtain⟨A0,qz⟩:=av tO
 refine⟨by rw[ax];rfl,fun s0 GM uK ops i ho rest hwt s' hs todo Q jA=>lF X.hC ho rest hwt (by rw[ax];rfl) ?_ hs jA⟩
 intro s1 bX f hf K2 E2 hK
 obtain⟨es,ck,iZ,B7⟩:=(hm s0 GM uK).ext bX
 simp only[execOp,ax,hf _ _ hx,hf _ _ hy,Instr.lookup,aa,a8 tf]
 refine cD iZ rfl rfl ?_
 simp only[ae,aa]
 refine hk.chk _ _ ?_
 simp only[aa]
 refine hk.find k _ F B7.1 ?_
 simp only[Qn,lkM] at hK
 cases xE:rV k F 0 with
 |none=>
  rw[xE] at hK
  simp only[aa,jN qz,ae]
  cases ok'<;>exact hK
 |some u=>
  obtain⟨i,v⟩:=u
  rw[xE] at hK
  simp only[ae]
  cases ok'<;>exact hK
def as0(p:Oper):Option Unit:=match p.op with
 | .makeMap _ none=>some ()
 |_=>none
theorem jmk(kv:κ→Value)(hj:∀r L,jJ r kv [] L→J X (mL [] (.map (some r)) L o))(hv:eR X.n (fun p _=>as0 p) o=some ():=by kernel_rfl):J X o:=by
 obtain⟨ops,i,todo,k,e,w,kn,p,rfl,ho,hw,hc⟩:=du hv
 intro bV
 unfold as0 at hc
 split at hc<;>try (cases hc;done)
 rename_i T ax
 rcases p with ⟨dst,op,ty,pos,cX,g⟩
 dsimp only at ax;subst ax
 refine bR X.hC ho hw (by simp) ?_
 simp only[execOp,Instr.makeMap,Option.map_none,aa,nV,ae]
 intro b hb
 have:=hj b _ (jJ.nil b kv)
 rw[nP ho] at this
 have:=this bV
 simp only[JP,fZ,w9] at this
 show ab _ _ _ _ _ _ _ _
 rw[aY]
 exact this
def muV(P:Program)(n:Nat)(p:Oper)(e:Env):Option (TypeId×Value×Value×Value):=match p.op with
 | .mapUpdate T x y z| .insert T x y z=>match aZ P T with
  |some ⟨.map K _,_,_,_⟩=>match bp n e x with
   |some m=>match bp n e y with
    |some k=>match bp n e z with
     |some v=>some (K,m,k,v)
     |none=>none
    |none=>none
   |none=>none
  |_=>none
 |_=>none
theorem EL(k:κ)(v:Value):∀(F:List (κ×Value)) (i:Nat),tq k v F i=F.set i (k,v)
 | [],_=>rfl
 |_::_,0=>rfl
 |x::l,i+1=>by simp only[tq,EL k v l i,List.set_cons_succ]
theorem Gt{kv:κ→Value}{k:κ}{v:Value}:∀(es:List MapEntry) (F:List (κ×Value)) (i:Nat),es.map (fun e=>(e.key,e.val))=F.map (fun x=>(kv x.1,x.2))→(es.modify i fun e=>{e with key:=kv k,val:=v}).map (fun e=>(e.key,e.val))=(tq k v F i).map (fun x=>(kv x.1,x.2))
 | [],[],_,_=>by simp[tq]
 | [],_::_,_,h=>by simp at h
 |_::_,[],_,h=>by simp at h
 |e::es,x::F,0,h=>by
  simp only[List.map_cons,List.cons.injEq] at h
  simp[tq,h.2]
 |e::es,x::F,i+1,h=>by
  simp only[List.map_cons,List.cons.injEq] at h
  simp[tq,h.1,Gt es F i h.2]
theorem wu{kx v:Value}:∀(es:List MapEntry) (i:Nat),(es.modify i fun e=>{e with key:=kx,val:=v}).map (·.born)=es.map (·.born)
 | [],i=>by simp
 |e::es,0=>by simp
 |e::es,i+1=>by simp[wu es i]
theorem jmu[DecidableEq κ]{kv:κ→Value}{F:List (κ×Value)}{K:TypeId}{L:Cells}(i:Nat)(k:κ)(v:Value)(hk:Sf X.P K kv)(hm:jJ r kv F L)(hj:∀L',jJ r kv (lV k v F) L'→J X (mL [i] undef L' o))
 (hv:eR X.n (muV X.P X.n) o=some (K,.map (some r),kv k,v):=by kernel_rfl)(hB:dL [i] o=some L:=by kernel_rfl):J X o:=by
 obtain⟨ops,i0,todo,kk,e,w,kn,p,rfl,ho,hw,hc⟩:=du hv
 intro bV
 rcases p with ⟨dst,op,ty,pos,cX,g⟩
 have main:∀T x y z,(op= .mapUpdate T x y z∨op= .insert T x y z)→muV X.P X.n ⟨dst,.mapUpdate T x y z,ty,pos,cX,g⟩ e=some (K,.map (some r),kv k,v)→ab X.C X.fn X.az ops (i0::todo) (KQ X kk) (A X.n e X.D) ⟨X.ro,den w⟩:=by
  intro T x y z heq hc
  simp only[muV] at hc
  split at hc<;>try (cases hc;done)
  rename_i K' E' _ _ _ dJ
  split at hc<;>try (cases hc;done)
  rename_i m hx
  split at hc<;>try (cases hc;done)
  rename_i k' hy
  split at hc<;>try (cases hc;done)
  rename_i v' hz
  simp only[Option.some.injEq,Prod.mk.injEq] at hc
  obtain⟨rfl,rfl,rfl,rfl⟩:=hc
  obtain⟨bB,tf⟩:=av dJ
  have hp:=bH hB
  obtain⟨es,ck,rfl,B7⟩:=hm
  obtain⟨L1,R1,bX⟩:=List.append_of_mem (hp.mem_iff.2 (List.mem_append_left _ List.mem_cons_self))
  have hle:∀L',jJ r kv (lV k v' F) [(r,L')]→ab X.C X.fn X.az ops todo (KQ X kk) (A X.n (upd dst undef e) X.D) ⟨X.ro,L1++(r,L')::R1⟩:=by
   intro L' hL
   have:=hj _ hL
   rw[nP ho] at this
   have:=this bV
   simp only[JP,fZ] at this
   refine this.more X.hC (dI (J:=[]) ?_ (Sub.refl _))
   have hp':(den w).Perm ([(r,.map es ck)]++den (dA [i] 0 w)):=hp
   have aMM:den w=L1++(r,.map es ck)::R1:=bX
   rw[aMM] at hp'
   have Sw:=(List.perm_middle.symm.trans hp').cons_inv
   rw[List.append_nil]
   exact List.perm_middle.trans (List.Perm.cons _ Sw)
  have iZ:(⟨X.ro,den w⟩:St).has r (.map es ck):= .inr (by show _∈den w;rw[show den w=_ from bX];exact fg)
  refine bR X.hC ho hw (by rcases heq with rfl|rfl<;>simp) ?_
  have hex:∀f:Operand→Value,execOp f ⟨dst,op,ty,pos,cX,g⟩=(do Instr.mapUpdate T (f x) (f y) (f z);pure .skip:Sem Next):=by
   intro f;rcases heq with rfl|rfl<;>simp only[execOp]
  rw[hex,aF hx,aF hy,aF hz]
  simp only[Instr.mapUpdate,aa,a8 tf]
  refine cD iZ rfl rfl ?_
  simp only[aa]
  refine hk.chk _ _ ?_
  simp only[aa]
  refine hk.find k _ F B7.1 ?_
  have fin:∀ob,jJ r kv (lV k v' F) [(r,ob)]→upon X.C X.P X.az dst (A X.n e X.D) (fun a' s'=>ab X.C X.fn X.az ops todo (KQ X kk) a' s') (KQ X kk) .skip ⟨X.ro,L1++(r,ob)::R1⟩:=by
   intro ob hL
   show ab _ _ _ _ _ _ _ _
   have:=hle ob hL
   rw[←aY] at this
   exact this
  cases xE:rV k F 0 with
  |some u=>
   obtain⟨j,u⟩:=u
   have SC:=qg xE
   simp only[Nat.sub_zero] at SC
   have aNK:((es[j]?).map (·.key)).getD (kv k)=kv k:=by
    have h1:(es.toList.map (fun e=>(e.key,e.val)))[j]?=some (kv k,u):=by rw[B7.1];simp[SC.2]
    simp only[List.getElem?_map,Array.getElem?_toList] at h1
    cases he:es[j]? with
    |none=>rfl
    |some e1=>rw[he] at h1;simp at h1;simp[h1.1]
   simp only[aa,Instr.keyThatStays,aNK,hk.stay,if_true,ae]
   refine eg rfl bX rfl<|fin _ ⟨_,_,rfl,?_,?_,?_⟩
   ·simp only[Array.toList_modify,lV,xE]
    exact Gt _ _ _ B7.1
   ·simp only[Array.toList_modify,wu];exact B7.2.1
   intro e1 h1
   have:e1.born∈((es.toList.modify j fun e=>{e with key:=kv k,val:=v'}).map (·.born)):=List.mem_map_of_mem (by simpa using h1)
   rw[wu] at this
   obtain⟨e2,h3,h4⟩:=List.mem_map.1 this
   rw[←h4];exact B7.2.2 e2 h3
  |none=>
   refine eg rfl bX rfl<|fin _ ⟨_,_,rfl,?_,?_,?_⟩
   ·simp only[Array.toList_push,List.map_append,lV,xE,B7.1];rfl
   ·simp only[Array.toList_push,List.map_append,List.map_cons,List.map_nil]
    refine List.nodup_append.2 ⟨B7.2.1,by simp,?_⟩
    intro a ha b hb
    obtain⟨e2,h3,rfl⟩:=List.mem_map.1 ha
    have:=B7.2.2 e2 h3
    simp only[List.mem_singleton] at hb
    omega
   intro e1 h1
   simp only[Array.toList_push,List.mem_append,List.mem_singleton] at h1
   rcases h1 with h1|rfl
   ·have:=B7.2.2 e1 h1;omega
   exact Nat.lt_succ_self _
 have SF:=hc
 unfold muV at hc
 split at hc<;>try (cases hc;done)
 ·rename_i T x y z ax
  dsimp only at ax
  exact main T x y z (.inl ax) (by rw[←SF,ax])
 rename_i T x y z ax
 dsimp only at ax
 refine main T x y z (.inr ax) ?_
 rw[←SF,ax];rfl
end
attribute [irreducible] luV as0 muV
section
variable {X:Cx} {o:Option JS}
def Ln(P:Program)(n:Nat)(p:Oper)(e:Env):Option (FuncId×List Value):=match p.op with
 | .call ⟨.invoke x name,xs,_⟩=>match bp n e x with
  |some (.iface t v)=>match bw P (method (P.types.size+Made.depth) t v name) with
   |some (f,r)=>match xF n e xs.toList with
    |some vs=>bif Bj P f then some (f,r::vs) else none
    |none=>none
   |none=>none
  |_=>none
 |_=>none
theorem ai4(h:Ln P n p e=some (f,vs)):FF P f∧∃x name xs at_ t v r ws,p.op= .call ⟨.invoke x name,xs,at_⟩∧bp n e x=some (.iface t v)∧bw P (method (P.types.size+Made.depth) t v name)=some (f,r)∧xF n e xs.toList=some ws∧vs=r::ws:=by
 unfold Ln at h
 split at h<;>try (cases h;done)
 rename_i x name xs at_ ax
 split at h<;>try (cases h;done)
 rename_i t v hx
 split at h<;>try (cases h;done)
 rename_i f0 r hm
 split at h<;>try (cases h;done)
 rename_i ws rE
 cases hb:Bj P f0 with
 |false=>rw[hb] at h;cases h
 |true=>
  rw[hb] at h
  simp only[cond_true,Option.some.injEq,Prod.mk.injEq] at h
  obtain⟨rfl,rfl⟩:=h
  exact⟨kM hb,x,name,xs,at_,t,v,r,ws,ax,hx,hm,rE,rfl⟩
theorem jpI{V:Value}(hf:∀aH,Sub X.ro aH→dD X.P f vs aH V)(hj:J X (MD [] V o))(h1:dE X.n (Ln X.P X.n) o=some (f,vs):=by kernel_rfl)(h3:dL [] o=some []:=by kernel_rfl):J X o:=by
 refine jGN h1 h3 (fun s p e ho hh hc=>?_) hj
 obtain⟨ff,x,name,xs,at_,t,v,r,ws,ax,hx,hm,rE,rfl⟩:=ai4 hc
 rcases p with ⟨dst,op,ty,pos,cX,g⟩
 dsimp only at ax;subst ax
 refine⟨rfl,fun s0 GM uK ops i sM rest hw s' hs todo Q hk=>?_⟩
 refine bR X.hC sM hw (by simp) ?_
 have e1:=aF (bh (rest:=rest) hx)
 have e2:xs.map (ev X.n (e++rest))=⟨ws⟩:=rK (wY rE)
 simp only[execOp,resolve,e1,e2,ae]
 have hex:((#[Value.iface t v]++(⟨ws⟩:Array Value)).extract 1 (#[Value.iface t v]++(⟨ws⟩:Array Value)).size)=⟨ws⟩:=by simp
 have h0:(#[Value.iface t v]++(⟨ws⟩:Array Value))[0]?=some (.iface t v):=by simp
 simp only[invoke,h0,hex,callMethod,aa,eH]
 refine aX hm ?_
 have my:(#[r]++⟨ws⟩:Array Value)=⟨r::ws⟩:=by simp
 rw[my]
 refine jO ff ?_
 have hu:=(dD.use (s:=⟨X.ro,[]⟩) (sz:=s') (fun b o hb=>hs _ _ (GM _ _ hb)) (fun aH h1=>hf aH fun b ob hb=>h1 b ob (.inl hb))).weaken X.hC
 refine Fn.mono hu fun en s1 Dt=>?_
 obtain⟨rfl,hle⟩:=Dt
 show ab _ _ _ _ _ _ _ _
 rw[aY]
 exact hk.more X.hC hle
theorem jS{f:Oper→Env→Option β}{r:β}(ps:List Nat)(B:Cells)(hv:eR X.n f o=some r)(hB:dL ps o=some B)
 (hy:∀p e,f p e=some r→(∀c,p.op≠ .defer c)∧∀(R:Cells) (Q:Next→St→Prop) (E:Halt→St→Prop),(∀v L',Φ v L'→Q (.value v) ⟨X.ro,L'++R⟩)→bP X.P (execOp (ev X.n e) p) ⟨X.ro,B++R⟩ Q E)
 (hj:∀v L',Φ v L'→J X (mL ps v L' o)):J X o:=by
 obtain⟨ops,i,todo,k,e,w,kn,p,rfl,ho,hw,hc⟩:=du hv
 intro bV
 have hp:=bH hB
 obtain⟨hd,ht⟩:=hy p e hc
 have:ab X.C X.fn X.az ops (i::todo) (KQ X k) (A X.n e X.D) ⟨X.ro,B++den (dA ps 0 w)⟩:=by
  refine bR X.hC ho hw hd<|ht _ _ _ fun v L' pQ=>?_
  have:=hj v L' pQ
  rw[nP ho] at this
  have:=this bV
  simp only[JP,fZ] at this
  show ab _ _ _ _ _ _ _ _
  rw[aY]
  exact this
 have hle:(⟨X.ro,B++den (dA ps 0 w)⟩:St).le ⟨X.ro,den w⟩:=⟨[],by rw[List.append_nil];exact hp,fun b o hb=> .inl hb⟩
 exact this.more X.hC hle
end
attribute [irreducible] Ln
section
variable {X:Cx} {o:Option JS}
def iaA(P:Program)(n:Nat)(p:Oper)(e:Env):Option (Nat×Nat×Int×Nat×Nat):=match p.op with
 | .indexAddr T x y=>match aZ P T with
  |some ⟨.array len E,_,_,_⟩=>match aZ P E with
   |some te=>match bp n e x with
    |some (.pointer (some ⟨b,off,none⟩))=>match bp n e y with
     |some (.int _ ix)=>some (b,off,ix,len,te.size)
     |_=>none
    |_=>none
   |none=>none
  |_=>none
 |_=>none
theorem Kz{len:Nat}(ix:Int)(hi:0≤ix∧ix <len)(hj:J X (jQ (.pointer (some ⟨b,off+ix.toNat*sz,none⟩)) o))(hv:dE X.n (iaA X.P X.n) o=some (b,off,ix,len,sz):=by kernel_rfl):J X o:=by
 refine jG hv (fun s p e ho hh hf=>?_) hj
 unfold iaA at hf
 split at hf<;>try (cases hf;done)
 rename_i T x y ax
 split at hf<;>try (cases hf;done)
 rename_i aBA E _ _ _ dJ
 split at hf<;>try (cases hf;done)
 rename_i te tO
 split at hf<;>try (cases hf;done)
 rename_i b' asM hx
 split at hf<;>try (cases hf;done)
 rename_i ik ix' hy
 simp only[Option.some.injEq,Prod.mk.injEq] at hf
 obtain⟨rfl,rfl,rfl,rfl,rfl⟩:=hf
 obtain⟨bB,tf⟩:=av dJ
 obtain⟨A0,qz⟩:=av tO
 have key:∀s,Yields X.P X.n e p s (.pointer (some ⟨b',asM+ix'.toNat*te.size,none⟩)):=by
  intro s s' mI f hf K E hK
  simp only[execOp,ax,Instr.indexAt,Instr.sureAddr,hf _ _ hx,hf _ _ hy,asIntOf,aa,ae,a8 tf,hi,and_self,if_true,cd qz,dH]
  exact hK
 exact⟨by rw[ax];rfl,fun _=>key _,fun _=>key⟩
def saV(P:Program)(n:Nat)(p:Oper)(e:Env):Option (Nat×Nat×Int×Nat):=match p.op with
 | .slice T x none (some z) none=>match aZ P T with
  |some ⟨.array len E,_,_,_⟩=>match aZ P E with
   |some _=>match bp n e x with
    |some (.pointer (some ⟨b,off,none⟩))=>match bp n e z with
     |some (.int _ ix)=>some (b,off,ix,len)
     |_=>none
    |_=>none
   |none=>none
  |_=>none
 |_=>none
theorem jah{len:Nat}(hi:Int)(hl:0≤hi∧hi≤len)(hj:J X (jQ (.slice (some ⟨b,off,none⟩) hi.toNat len) o))(hv:dE X.n (saV X.P X.n) o=some (b,off,hi,len):=by kernel_rfl):J X o:=by
 refine jG hv (fun s p e ho hh hf=>?_) hj
 unfold saV at hf
 split at hf<;>try (cases hf;done)
 rename_i T x z ax
 split at hf<;>try (cases hf;done)
 rename_i aBA E _ _ _ dJ
 split at hf<;>try (cases hf;done)
 rename_i te tO
 split at hf<;>try (cases hf;done)
 rename_i b' asM hx
 split at hf<;>try (cases hf;done)
 rename_i ik ix' hy
 simp only[Option.some.injEq,Prod.mk.injEq] at hf
 obtain⟨rfl,rfl,rfl,rfl⟩:=hf
 obtain⟨bB,tf⟩:=av dJ
 obtain⟨A0,qz⟩:=av tO
 have key:∀s,Yields X.P X.n e p s (.slice (some ⟨b',asM,none⟩) ix'.toNat aBA):=by
  intro s s' mI f hf K E hK
  simp only[execOp,ax,Option.map_some,Option.map_none,Instr.sliceAt,Instr.sliceBounds,Instr.sliceBound,Instr.sureAddr,hf _ _ hx,hf _ _ hy,asIntOf,aa,ae,a8 tf,Option.isSome_none,Bool.false_eq_true,if_false,hl,and_self,if_true,cd qz,Nat.zero_mul,dH,Nat.add_zero,ite_self,Nat.sub_zero]
  exact hK
 exact⟨by rw[ax];rfl,fun _=>key _,fun _=>key⟩
end
theorem sA{v:Value}(h:s.has b (.cells ⟨l⟩ t fz))(hv:nth l off=some v):cv s b off 1 [v]:=
 ⟨_,_,_,h,by rw[rB] at hv;simp[iH (show off+1≤l.length by have:=(List.getElem?_eq_some_iff.1 hv).1;omega),List.drop_eq_getElem_cons (List.getElem?_eq_some_iff.1 hv).1,(List.getElem?_eq_some_iff.1 hv).2]⟩
theorem adt{o m:Nat}{v:Value}(h:cv s b o m l)(hv:nth l off=some v):cv s b (o+off) 1 [v]:=
 h.part off 1 (by rw[rB] at hv;simp[iH (show off+1≤l.length by have:=(List.getElem?_eq_some_iff.1 hv).1;omega),List.drop_eq_getElem_cons (List.getElem?_eq_some_iff.1 hv).1,(List.getElem?_eq_some_iff.1 hv).2])
open Go.ConcR (KK wgBlock WgAt stA smA rd wr)
def TT(T:Goroutine→St→Prop)(b:Frame)(zb:List Item)(cs:List Frame)(n:Nat)(D:List Deferred)(ro:Nat→Option Obj)(o:Option JS):Prop:=
 ∀e w kn,o=some ⟨.fin .normal,e,w,kn⟩→Knows ro kn.c→T (G (aK b (A n e D) zb) cs) ⟨ro,den w⟩
def CT(hm:P.follows .mixedOrders=true)(hT:Closed P main T)(b:Frame)(zb:List Item)(cs:List Frame)(n:Nat)(D:List Deferred)(ro:Nat→Option Obj):Cx:=
 ⟨P,fun m T'=>m=main∧T'=T,by rintro _ _ ⟨rfl,rfl⟩;exact hT,hm,b.fn,none,n,D,ro,jF T b zb cs⟩
def Ve:Option JS→Bool
 |some ⟨.fin .normal,_,_,_⟩=>true
 |_=>false
def opO(ops:Array Oper)(todo:List Nat):Option JS→Option JS
 |some ⟨.fin .normal,e,w,kn⟩=>some ⟨.ops ops todo [],e,w,⟨kn.c,[]⟩⟩
 |_=>none
def cdO(c:Code):Option JS→Option JS
 |some ⟨.fin .normal,e,w,kn⟩=>some ⟨.code c [],e,w,⟨kn.c,[]⟩⟩
 |_=>none
def stO(dst:Option Tmp)(v:Value):Option JS→Option JS
 |some ⟨p,e,w,kn⟩=>some ⟨p,upd dst v e,w,kn⟩
 |none=>none
def nwO(dst:Option Tmp)(v:Value)(q:Nat)(ob:Obj):Option JS→Option JS
 |some ⟨p,e,w,kn⟩=>some ⟨p,upd dst v e,.b q ob::w,kn⟩
 |none=>none
def adO(L:Cells):Option JS→Option JS
 |some ⟨p,e,w,kn⟩=>some ⟨p,e,.l L::w,kn⟩
 |none=>none
def evO(n:Nat)(x:Operand):Option JS→Option Value
 |some ⟨_,e,_,_⟩=>bp n e x
 |none=>none
def aQN(n:Nat)(xs:List Operand):Option JS→Option (List Value)
 |some ⟨_,e,_,_⟩=>xF n e xs
 |none=>none
def vaO(P:Program)(n:Nat)(a:Oper):Option JS→Option Value
 |some ⟨_,e,_,_⟩=>acv P n e a
 |none=>none
theorem aaY(h:Ve o=true):∃e w kn,o=some ⟨.fin .normal,e,w,kn⟩:=by
 unfold Ve at h
 split at h
 ·exact⟨_,_,_,rfl⟩
 cases h
def fr0(f:FuncId)(k:CallKind):Frame:={(default:Frame) with fn:=f,kind:=k,roundOf:=none}
section
variable {P:Program} {main:Bool} {T:Goroutine→St→Prop} {b:Frame} {zb:List Item} {cs:List Frame} {n:Nat} {D:List Deferred} {ro:Nat→Option Obj} {o:Option JS} {ops:Array Oper}
theorem acS(h:TT T b zb cs n D ro o)(hQ:X.Q=jF T b zb cs)(hn:X.n=n)(hD:X.D=D)(Ax:X.ro=ro)(h1:Ve o=true):J X o:=by
 subst hn hD Ax
 obtain⟨e,w,kn,rfl⟩:=aaY h1
 intro bV
 show X.Q .normal _ _
 rw[hQ]
 exact h _ _ _ rfl bV
theorem xu{hm:P.follows .mixedOrders=true}{hT:Closed P main T}(h:TT T b zb cs n D ro o)(h1:Ve o=true:=by kernel_rfl):J (CT hm hT b zb cs n D ro) o:=acS h rfl rfl rfl rfl h1
theorem azI{hm:P.follows .mixedOrders=true}{hT:Closed P main T}(h:TT T b zb cs n D ro o)(h1:Ve o=true:=by kernel_rfl):J ((CT hm hT b zb cs n D oU).at ro) o:=acS h rfl rfl rfl rfl h1
theorem azH{hm:P.follows .mixedOrders=true}{hT:Closed P main T}(h:TT T b zb cs n (dX bd::D) ro o)(h1:Ve o=true:=by kernel_rfl):J ((CT hm hT b zb cs n D ro).dm bd) o:=acS h rfl rfl rfl rfl h1
theorem u3(hm:P.follows .mixedOrders=true)(hT:Closed P main T)(hj:J (CT hm hT b zb cs n D ro) (opO ops todo o))(hk:b.kind≠ .early:=by decide)(hr:b.roundOf=none:=by rfl):TT T b (.inRegion ops todo::zb) cs n D ro o:=by
 rintro e w kn rfl bV
 exact hj bV main T ⟨rfl,rfl⟩ b zb cs rfl hk hr fun e a s q=>q
theorem azJ(hm:P.follows .mixedOrders=true)(hT:Closed P main T){c:Code}(hj:J (CT hm hT b zb cs n D ro) (cdO c o))(hk:b.kind≠ .early:=by decide)(hr:b.roundOf=none:=by rfl):TT T b (.code c::zb) cs n D ro o:=by
 rintro e w kn rfl bV
 exact hj bV main T ⟨rfl,rfl⟩ b zb cs rfl hk hr fun e a s q=>q
theorem tSt(hT:Closed P main T)(ef:Env)(wf:List Sg)(ps:List Nat)(h:∀rest,TT T b zb cs n D ro (some ⟨.fin .normal,ef++rest,wf,⟨[],[]⟩⟩))(h1:qP (mQ ef) o=some ef:=by kernel_rfl)(h2:qK ps o=some wf:=by kernel_rfl)(h3:lkE (mQ ef) ef=some ef:=by kernel_rfl):TT T b zb cs n D ro o:=by
 rintro e w kn rfl bV
 obtain⟨rest,he⟩:=fN (n:=n) (D:=D) (ko (by rw[sI] at h1;exact h1)) (ko h3)
 rw[he]
 exact hT.mono _ ⟨ro,den wf⟩ _ (dI (lE h2) (Sub.refl _)) (h rest _ _ _ rfl fun _ h=>(by cases h))
section
variable {k:List Item} {rest l:List Code} (hT:Closed P main T)
include hT
theorem pF(hl:gu l= .region id ops false::rest)(h:∀l',gu l'=rest→TT T b (.inRegion ops (List.range ops.size)::(l'.map .code++k)) cs n D ro o):TT T b (l.map .code++k) cs n D ro o:=
 fun e w kn ho bV=>dF hT hl fun l' yM=>h l' yM e w kn ho bV
theorem Wk{c:Operand}{x y:Code}{t q:Bool}(hl:gu l= .cond c x y::rest)(hq:q=t)(h:∀l',gu l'=rest→TT T b (.code (if t then x else y)::(l'.map .code++k)) cs n D ro o)(hc:evO n c o=some (.bool q):=by kernel_rfl):TT T b (l.map .code++k) cs n D ro o:=by
 subst hq
 rintro e w kn rfl bV
 exact Am hT hl (by rw[dZ];exact aF hc) fun l' yM=>h l' yM e w kn rfl bV
theorem LW{c:Code}(hl:gu l= .block id c::rest)(h:∀l',gu l'=rest→TT T b ([c].map .code++(.inBlock id::(l'.map .code++k))) cs n D ro o):TT T b (l.map .code++k) cs n D ro o:=
 fun e w kn ho bV=>vk hT hl fun l' yM=>h l' yM e w kn ho bV
theorem aoW{c:Code}(hl:gu l= .loop c::rest)(h:∀l',gu l'=rest→TT T b ([c].map .code++(.inLoop c::(l'.map .code++k))) cs n D ro o):TT T b (l.map .code++k) cs n D ro o:=
 fun e w kn ho bV=>ML hT hl fun l' yM=>h l' yM e w kn ho bV
theorem aoX{c:Code}(hl:gu l=c::rest)(h:∀l',gu l'=rest→TT T b (.code c::(l'.map .code++k)) cs n D ro o):TT T b (l.map .code++k) cs n D ro o:=
 fun e w kn ho bV=>nB hT hl fun l' yM=>h l' yM e w kn ho bV
theorem aoU(h:TT T b k cs n D ro o):TT T b (.code .skip::k) cs n D ro o:=fun e w kn ho bV=>NS hT (h e w kn ho bV)
theorem aoY{k':List Item}(hk:exitTo id k=some k')(h:TT T b k' cs n D ro o):TT T b (.code (.exit id)::k) cs n D ro o:=fun e w kn ho bV=>NT hT hk (h e w kn ho bV)
theorem aoZ(h:TT T b k cs n D ro o):TT T b (.inBlock id::k) cs n D ro o:=fun e w kn ho bV=>Cs hT (h e w kn ho bV)
theorem Wj(h:TT T b k cs n D ro o):TT T b (.inRegion ops []::k) cs n D ro o:=fun e w kn ho bV=>gN hT (h e w kn ho bV)
theorem acT{c:Code}(h:TT T b ([c].map .code++(.inLoop c::k)) cs n D ro o):TT T b (.inLoop c::k) cs n D ro o:=fun e w kn ho bV=>y6 hT (h e w kn ho bV)
theorem azD{a:Oper}{f:Nat→Value}{ob:Obj}(ho:ops[i]?=some a) (hg:a.guard=none) (sN:∀e q,TV P (execOp (ev n e) a) q=some (ob,f q)) (hk:b.kind≠ .early) (hr:b.roundOf=none)
 (h:∀q,TT T b (.inRegion ops todo::k) cs n D ro (nwO a.dst (f q) q ob o)):TT T b (.inRegion ops (i::todo)::k) cs n D ro o:=by
 rintro e w kn rfl bV
 refine sD hT ho (dt _ _ hg) hk hr ?_
 rw[dZ]
 refine Gn (f:=f) (fun q _=>⟨_,rfl,?_⟩) _ (sN e)
 rw[aY]
 have:=h q _ _ _ rfl bV
 rw[iv] at this
 exact this
theorem azA{a:Oper}(v:Value)(ho:ops[i]?=some a) (hg:a.guard=none) (hk:b.kind≠ .early) (hr:b.roundOf=none) (h:TT T b (.inRegion ops todo::k) cs n D ro (stO a.dst v o)) (hv:vaO P n a o=some v:=by kernel_rfl):TT T b (.inRegion ops (i::todo)::k) cs n D ro o:=by
 rintro e w kn rfl bV
 refine sD hT ho (dt _ _ hg) hk hr ?_
 rw[dZ]
 refine zq hv _ (Ext.refl _) _ (fun _ _ h=>aF h) _ _ ⟨v,rfl,?_⟩
 rw[aY]
 exact h _ _ _ rfl bV
theorem tLd{a:Oper}(v:Value)(ho:ops[i]?=some a) (hg:a.guard=none) (ax:a.op= .load U x) (ht:(aZ P U).map (·.agg)=some false) (hk:b.kind≠ .early) (hr:b.roundOf=none) (hb:∀e w kn,o=some ⟨.fin .normal,e,w,kn⟩→(⟨ro,den w⟩:St).has q (.cells ⟨[v]⟩ t fz))
 (h:TT T b (.inRegion ops todo::k) cs n D ro (stO a.dst v o)) (hx:evO n x o=some (.pointer (some ⟨q,0,none⟩)):=by kernel_rfl):TT T b (.inRegion ops (i::todo)::k) cs n D ro o:=by
 rintro e w kn rfl bV
 refine sD hT ho (dt _ _ hg) hk hr ?_
 rw[dZ]
 cases dJ:aZ P U with
 |none=>rw[dJ] at ht;cases ht
 |some z=>
 rw[dJ] at ht
 simp only[Option.map_some,Option.some.injEq] at ht
 obtain⟨bB,tf⟩:=av dJ
 rw[ht] at tf
 simp only[execOp,ax,Instr.loadAt,aF hx,Instr.sureAddr,loadVar,aa,ae,j7 tf,Bool.false_eq_true,if_false]
 refine u2 ⟨[v],t,fz,hb _ _ _ rfl,rfl⟩ ⟨v,rfl,?_⟩
 rw[aY]
 exact h _ _ _ rfl bV
theorem aJB{a:Oper}(v:Value)(ho:ops[i]?=some a) (hg:a.guard=none) (ax:a.op= .load U x) (ht:(aZ P U).map (·.agg)=some false) (hk:b.kind≠ .early) (hr:b.roundOf=none) (ps:List Nat) (t:TypeId)
 (h:TT T b (.inRegion ops todo::k) cs n D ro (stO a.dst v o)) (hx:evO n x o=some (.pointer (some ⟨q,0,none⟩)):=by kernel_rfl) (hd:dL ps o=some [(q,.cells ⟨[v]⟩ t (0,0))]:=by kernel_rfl):TT T b (.inRegion ops (i::todo)::k) cs n D ro o:=
 tLd hT v ho hg ax ht hk hr (fz:=(0,0)) (t:=t) (q:=q) (fun e w kn he=>by
  subst he
  exact .inr ((bH hd).mem_iff.2 (List.mem_append_left _ (List.mem_singleton.2 rfl)))) h hx
end
theorem arJ(hT:Closed P main T){a:Oper}{xs:Array Operand}(ho:ops[i]?=some a) (hg:a.guard=none) (ax:a.op= .defer ⟨.value (.func f),xs,ats⟩) (hk:b.kind≠ .early) (hr:b.roundOf=none)
 (h:TT T b k cs n ({target:= .fn (.func f) ⟨[]⟩,args:=⟨vs⟩}::D) ro (stO a.dst undef o)) (hx:aQN n xs.toList o=some vs:=by kernel_rfl):TT T b (.inRegion ops [i]::k) cs n D ro o:=by
 rintro e w kn rfl bV
 have hC:∀m T',(fun m T'=>m=main∧T'=T:Class) m T'→Closed P m T':=by rintro _ _ ⟨rfl,rfl⟩;exact hT
 have key:ab (fun m T'=>m=main∧T'=T) b.fn none ops [i] (jF T b k cs) (A n e D) ⟨ro,den w⟩:=by
  refine MK (P:=P) hC ho (dt _ _ hg) (.inl rfl) ?_
  rw[dZ]
  have e1:ev n e (.func f)= .func (.func f) #[] #[]:=rfl
  have e2:xs.map (ev n e)=⟨vs⟩:=rK hx
  simp only[execOp,ax,resolve,e1,Deferred.ofValue,ae,e2]
  refine⟨rfl,?_⟩
  have hA:({A n e D with defers:={target:= .fn (.func f) ⟨[]⟩,args:=⟨vs⟩}::(A n e D).defers}:Act).put a.dst undef=A n (upd a.dst undef e) ({target:= .fn (.func f) ⟨[]⟩,args:=⟨vs⟩}::D):=by
   rw[←aY];rfl
  have he:(⟨[]⟩:Array Value)++(⟨vs⟩:Array Value)=⟨vs⟩:=by simp
  rw[he]
  have:=h _ _ _ rfl bV
  rw[←hA] at this
  exact fun m T' hc b' k' IB h1 h2 h3 h4=>by
   obtain⟨rfl,rfl⟩:=hc
   exact gN hT (h4 .normal _ _ this)
 exact key main T ⟨rfl,rfl⟩ b k cs rfl hk hr fun e a s q=>q
end
attribute [irreducible] Ve opO cdO
structure ajs(L:Nat→Option Obj)(X:Cells)(ro aI:Nat→Option Obj):Prop where
 of:∀q o,L q=some o→(q,o)∈X
 on:∀q o,(q,o)∈X→L q=some o
 sub:Sub ro aI
 kn:Knows aI X
 nd:(X.map (·.1)).Nodup
 ap:∀q o,(q,o)∈X→ro q=none
def bkO(L:Cells):Option JS→Option JS
 |some ⟨p,e,w,_⟩=>some ⟨p,e,.l L::w,⟨[],[]⟩⟩
 |none=>none
def Tk(ps:List Nat):Option JS→Option Cells
 |some ⟨_,_,w,_⟩=>some (den (dA ps 0 w))
 |none=>none
def Xg:Option JS→Option JS
 |some ⟨p,e,_,kn⟩=>some ⟨p,e,[],⟨kn.c,[]⟩⟩
 |none=>none
theorem Cu:∀(w:List Sg) (k:Nat),dA [] k w=w
 | [],_=>rfl
 |x::w,k=>by
  simp only[dA,ba]
  rw[Cu w]
  rfl
theorem ajs.back{L:Nat→Option Obj}{X:Cells}{roK:Nat→Option Obj}{rwK:Cells}(h:ajs L X ro aI)(hs:Sub aI roK):
 (∀w,aR ⟨roK,rwK⟩ w→(∀b o,L b=some o→w.heap[b]?=some o)→aR ⟨ro,X++rwK⟩ w)∧∀b,(⟨ro,X++rwK⟩:St).knows b→L b≠none∨(⟨roK,rwK⟩:St).knows b:=by
 refine⟨fun w hw hL=>⟨fun q o hq=>hw.ro q o (hs _ _ (h.sub _ _ hq)),fun q o hq=>?_,?_,fun q o hq=>?_⟩,fun q hq=>?_⟩
 ·rcases List.mem_append.1 hq with hq|hq
  ·exact hL q o (h.on q o hq)
  exact hw.rw q o hq
 ·show ((X++rwK).map (·.1)).Nodup
  rw[List.map_append,List.nodup_append]
  refine⟨h.nd,hw.nodup,fun q hq q' EV e=>?_⟩
  subst e
  obtain⟨⟨q1,o1⟩,h1,rfl⟩:=List.mem_map.1 hq
  obtain⟨⟨q2,o2⟩,h2,e2⟩:=List.mem_map.1 EV
  simp only at e2
  subst e2
  have h3:=hs _ _ (h.kn _ h1)
  have h4:=hw.apart _ _ h2
  dsimp only at h3 h4
  rw[h4] at h3
  cases h3
 ·show ro q=none
  rcases List.mem_append.1 hq with hq|hq
  ·exact h.ap q o hq
  have h2:roK q=none:=hw.apart q o hq
  cases hr:ro q with
  |none=>rfl
  |some o'=>rw[hs _ _ (h.sub _ _ hr)] at h2;cases h2
 rcases hq with hq| ⟨o,hq⟩
 ·have hq:ro q≠none:=hq
  cases hr:ro q with
  |none=>exact absurd hr hq
  |some o'=>exact .inr (.inl (by show roK q≠none;rw[hs _ _ (h.sub _ _ hr)];simp))
 rcases List.mem_append.1 hq with h'|h'
 ·exact .inl (by rw[h.on q o h'];simp)
 exact .inr (.inr ⟨o,h'⟩)
section
variable {ι:Type} {E:dM ι} {Q:Machine→Outcome→World→Trace→Prop} {b:Frame} {zb:List Item} {cs:List Frame} {n:Nat} {D:List Deferred} {ro:Nat→Option Obj} {o:Option JS} {ops:Array Oper} {L:Nat→Option Obj}
theorem arI{tm:Bool}(iw ic:Nat)(X:Cells)(iD:Closed E.P true (TL E.P ep (fun _=>none) (Calm E.os E.out) Q))
 (h:∀L aI,ajs L X ro aI→E.Wg≠E.Ch→L E.Ch=none→TT (TM E L Q 0 false [] 0) b zb cs n D aI (Xg o))
 (hW:dL [iw,ic] o=some [(E.Wg,wgBlock E.ty 0 0),(E.Ch,.chan 0 #[] false 0 0 tm)]:=by kernel_rfl)(hX:Tk [iw,ic] o=some X:=by kernel_rfl):TT (TL E.P ep (fun _=>none) (Calm E.os E.out) Q) b zb cs n D ro o:=by
 rintro e w kn rfl bV
 refine Closed.jC iD rfl fun⟨w0,Xz⟩=>?_
 have hp:=bH hW
 simp only[Tk,Option.some.injEq] at hX
 have Sw:=hp
 dsimp only at Sw
 rw[hX] at Sw
 have hm:∀x,x∈den w↔x=(E.Wg,wgBlock E.ty 0 0)∨x=(E.Ch,.chan 0 #[] false 0 0 tm)∨x∈X:=fun x=>by
  rw[Sw.mem_iff]
  simp
 have lQ:=(Sw.map (·.1)).nodup_iff.1 Xz.nodup
 simp only[List.cons_append,List.nil_append,List.map_cons,List.nodup_cons,List.mem_cons,not_or] at lQ
 obtain⟨⟨dK,hW1⟩,hC1,QK⟩:=lQ
 have zf:∀x∈X,x∈den w:=fun x hx=>(hm x).2 (.inr (.inr hx))
 have aEa:(E.Wg,wgBlock E.ty 0 0)∈den w:=(hm _).2 (.inl rfl)
 have ahr:(E.Ch,Obj.chan 0 #[] false 0 0 tm)∈den w:=(hm _).2 (.inr (.inl rfl))
 have Nj:∀y∈X,y.1≠E.Wg∧y.1≠E.Ch:=fun y hy=>⟨fun e=>hW1 (e▸List.mem_map.2 ⟨_,hy,rfl⟩),fun e=>hC1 (e▸List.mem_map.2 ⟨_,hy,rfl⟩)⟩
 let L:Nat→Option Obj:=fun q=>(X.find? fun y=>y.1==q).map (·.2)
 have UW:∀q o,L q=some o→(q,o)∈X:=fun q o hq=>by
  obtain⟨y,hy,rfl⟩:=Option.map_eq_some_iff.1 hq
  obtain⟨h1,h2⟩:=og hy
  subst h2
  exact h1
 have aPD:∀q o,(q,o)∈X→L q=some o:=fun q o hq=>by
  show (X.find? fun y=>y.1==q).map (·.2)=some o
  rw[vW QK hq];rfl
 have UX:L E.Ch=none:=by
  cases hq:L E.Ch with
  |none=>rfl
  |some o=>exact absurd rfl (Nj _ (UW _ _ hq)).2
 have my:∀q o,(q,o)∈X→ro q=none:=fun q o hq=>Xz.apart q o (zf _ hq)
 have fw:Sub ro (St.freeze ⟨ro,X⟩).ro:=fun q o hq=>St.nz (s:=⟨ro,X⟩) hq fun q o hq=>my q o hq
 have agy:∀q,(∃o,(q,o)∈den w)→(q=E.Wg∨q=E.Ch)→¬(St.freeze ⟨ro,X⟩).knows q:=by
  rintro q ⟨o,ho⟩ hq (hk| ⟨o',EW⟩)
  ·simp only[St.freeze] at hk
   split at hk
   ·rename_i y hy
    obtain⟨h1,h2⟩:=og hy
    have:=Nj _ h1
    rcases hq with e|e
    ·exact this.1 (h2.trans e)
    exact this.2 (h2.trans e)
   exact hk (Xz.apart q o ho)
  cases EW
 have aDe:ajs L X ro (St.freeze ⟨ro,X⟩).ro:=⟨UW,aPD,fw,fun x hx=>St.sP (s:=⟨ro,X⟩) (by rcases x with ⟨q,o⟩;exact hx) QK,QK,my⟩
 refine O7 (E:=E) (L:=L) (s':=St.freeze ⟨ro,X⟩) rfl dK aEa ⟨tm,ahr⟩ ?_ (agy _ ⟨_,aEa⟩ (.inl rfl)) (agy _ ⟨_,ahr⟩ (.inr rfl)) (fun q ⟨o,ho⟩=>by cases ho) (fun q o hq=>⟨.inr (zf _ (UW _ _ hq)),Nj _ (UW _ _ hq)⟩) ?_
 ·refine⟨den w,by simp[St.freeze],fun q o hq=>?_⟩
  simp only[St.freeze] at hq
  split at hq
  ·rename_i y hy
   obtain⟨h1,h2⟩:=og hy
   cases hq
   subst h2
   exact .inr (zf _ h1)
  exact .inl hq
 exact(h L _ aDe dK UX _ _ _ rfl (bV.up fw)).1
theorem aJE{os:List ι}{a:Oper}{bs:List Nat}(h:TT (TM E L Q 1 false os 0) b k cs n D ro (stO a.dst (.tuple #[]) o))(ho:ops[0]?=some a) (hg:a.guard=none) (ax:a.op= .call ⟨.value (.func f),#[x,.const (.int .i64 1)],ats⟩) (hf:FF E.P f) (hk:b.kind≠ .early) (hr:b.roundOf=none) (I2:os.length <E.max)
 (ag0:HO E.P E.ty os.length (Frame.enter E.P f #[.pointer (some ⟨E.Wg,0,none⟩),.int .i64 1] .normal)=some bs) (hbs:∀b∈bs,b=E.Wg) (hx:evO n x o=some (.pointer (some ⟨E.Wg,0,none⟩)):=by kernel_rfl):TT (TM E L Q 0 false os 0) b (.inRegion ops [0]::k) cs n D ro o:=by
 rintro e w kn rfl bV
 have hT:Closed E.P true (TM E L Q 0 false os 0):=eX (E:=E) false os (fun e=>(by cases e))
 have UU:Closed E.P true (TM E L Q 1 false os 0):=eX (E:=E) false os (fun e=>(by cases e))
 refine PX (rest:=[]) hT ho hg hk hr ax hf ?_
 have mS:(#[x,.const (.int .i64 1)]:Array Operand).map (A n e D).eval= #[.pointer (some ⟨E.Wg,0,none⟩),.int .i64 1]:=by
  rw[dZ]
  simp only[List.map_toArray,List.map_cons,List.map_nil,aF hx]
  rfl
 rw[mS]
 refine⟨Ll (E:=E) ag0 hbs I2 ?_,fun e=>(by cases e)⟩
 rw[fC,ho]
 simp only[Option.bind_some]
 rw[aY]
 exact(gN UU (h _ _ _ rfl bV)).1
theorem tGo{os:List ι}(oo:ι){a:Oper}(L1:Cells)(ho:ops[i]?=some a) (hg:a.guard=none) (ax:a.op= .go ⟨.value y,#[],ats⟩) (hk:b.kind≠ .early) (hr:b.roundOf=none)
 (h:∀aI,Sub ro aI→Knows aI L1→eF E.P false (E.Jj oo) (born E.P {target:= .fn (.func f) ⟨ca⟩,args:= #[]}) ⟨aI,[]⟩∧TT (TM E L Q 0 false (os++[oo]) 0) b (.inRegion ops todo::k) cs n D aI (Xg (stO a.dst undef o)))
 (hy:evO n y o=some (.func (.func f) ⟨[]⟩ ⟨ca⟩):=by kernel_rfl) (hL:Tk [] o=some L1:=by kernel_rfl):TT (TM E L Q 1 false os 0) b (.inRegion ops (i::todo)::k) cs n D ro o:=by
 rintro e w kn rfl bV
 have UU:Closed E.P true (TM E L Q 1 false os 0):=eX (E:=E) false os (fun e=>(by cases e))
 refine Closed.jC UU rfl fun oX=>?_
 obtain⟨w0,Xz⟩:=oX
 have lQ:((den w).map (·.1)).Nodup:=Xz.nodup
 have my:∀q o,(q,o)∈den w→ro q=none:=Xz.apart
 have fw:Sub ro (St.freeze ⟨ro,den w⟩).ro:=fun q o hq=>St.nz (s:=⟨ro,den w⟩) hq my
 have au2:Knows (St.freeze ⟨ro,den w⟩).ro L1:=fun x hx=>St.sP (s:=⟨ro,den w⟩) (by rcases x with ⟨q,o⟩;simp only[Tk,Option.some.injEq] at hL;rw[←hL,Cu] at hx;exact hx) lQ
 obtain⟨h1,h2⟩:=h _ fw au2
 have bS:=fun w'=>E6 (P:=E.P) (main:=true) (b:=b) (a:=A n e D) (k:=k) (cs:=cs) (rest:=todo) ho hg hk hr ax (by rw[dZ];exact aF hy) w'
 have:=h2 _ _ _ rfl (bV.up fw)
 rw[←aY] at this
 exact⟨TC.mono (St.Cm ⟨ro,den w⟩) (Jw (E:=E) (o:=oo) (s:=St.freeze ⟨ro,den w⟩) rfl rfl (fun w' _=>bS w') h1 this.1),fun e=>(by cases e)⟩
theorem arM{os:List ι}{a:Oper}(L1:Cells)(ho:ops[i]?=some a) (hg:a.guard=none) (ax:a.op= .go ⟨.value y,#[],ats⟩) (hk:b.kind≠ .early) (hr:b.roundOf=none)
 (h:∀aI,Sub ro aI→Knows aI L1→E.closes ⟨aI,[]⟩ (born E.P {target:= .fn (.func f) ⟨ca⟩,args:= #[]})∧TT (TM E L Q 0 true os 0) b (.inRegion ops todo::k) cs n D aI (Xg (stO a.dst undef o)))
 (hy:evO n y o=some (.func (.func f) ⟨[]⟩ ⟨ca⟩):=by kernel_rfl) (hL:Tk [] o=some L1:=by kernel_rfl):TT (TM E L Q 0 false os 0) b (.inRegion ops (i::todo)::k) cs n D ro o:=by
 rintro e w kn rfl bV
 have UU:Closed E.P true (TM E L Q 0 false os 0):=eX (E:=E) false os (fun e=>(by cases e))
 refine Closed.jC UU rfl fun oX=>?_
 obtain⟨w0,Xz⟩:=oX
 have lQ:((den w).map (·.1)).Nodup:=Xz.nodup
 have my:∀q o,(q,o)∈den w→ro q=none:=Xz.apart
 have fw:Sub ro (St.freeze ⟨ro,den w⟩).ro:=fun q o hq=>St.nz (s:=⟨ro,den w⟩) hq my
 have au2:Knows (St.freeze ⟨ro,den w⟩).ro L1:=fun x hx=>St.sP (s:=⟨ro,den w⟩) (by rcases x with ⟨q,o⟩;simp only[Tk,Option.some.injEq] at hL;rw[←hL,Cu] at hx;exact hx) lQ
 obtain⟨h1,h2⟩:=h _ fw au2
 have bS:=fun w'=>E6 (P:=E.P) (main:=true) (b:=b) (a:=A n e D) (k:=k) (cs:=cs) (rest:=todo) ho hg hk hr ax (by rw[dZ];exact aF hy) w'
 have:=h2 _ _ _ rfl (bV.up fw)
 rw[←aY] at this
 exact⟨TC.mono (St.Cm ⟨ro,den w⟩) (Jx (E:=E) (s:=St.freeze ⟨ro,den w⟩) rfl rfl (fun w' _=>bS w') h1 this.1),fun e=>(by cases e)⟩
theorem aoV{os:List ι}{a:Oper}{rc:Operand}{z:Value}{X:Cells}{aH:Nat→Option Obj}(hl:ajs L X oU aH)(bX:Sub aH ro)(UX:L E.Ch=none)(ho:ops[0]?=some a) (hg:a.guard=none) (Su:∀ρ,bw E.P (execOp ρ a)=some (.comm #[{chan:=ρ rc,send:=none,zero:=z}] true (.recv true))) (hk:b.kind≠ .early) (hr:b.roundOf=none)
 (KE:∀a' oo b' v Y,os=a'++oo::b'→E.VP oo v Y→TT (TM E L Q 0 true (a'++b') 0) b (.inRegion ops todo::k) cs n D ro (adO Y (stO a.dst (.tuple #[v,.bool true]) o)))
 (pZ:os=[]→TT (TL E.P ep (fun _=>none) (Calm E.os E.out) Q) b (.inRegion ops todo::k) cs n D oU (bkO X (stO a.dst (.tuple #[z,.bool false]) o)))
 (hx:evO n rc o=some (.chan (some E.Ch)):=by kernel_rfl):TT (TM E L Q 0 true os 0) b (.inRegion ops (0::todo)::k) cs n D ro o:=by
 rintro e w kn rfl bV
 have hT:Closed E.P true (TM E L Q 0 true os 0):=eX (E:=E) true os (fun _=>rfl)
 refine Closed.jC hT rfl fun oX=>?_
 have hvc:ev n e rc= .chan (some E.Ch):=aF hx
 have bS:∀w',stepG E.P true (G (aK b (A n e D) (.inRegion ops (0::todo)::k)) cs) w'= .comm (G (aK b (A n e D) (.inRegion ops (0::todo)::k)) cs) #[rcase E.Ch z] true (.recv true) w' #[]:=by
  intro w'
  have zg:=ky b (A n e D) (.inRegion ops (0::todo)::k)
  simp only[aK] at zg
  have hw:Region.wanted a (yielded ops (A n e D).tmps)=true:=dt _ _ hg
  have jA:(b.kind==CallKind.early)=false:=by simpa using hk
  have gp:stepG E.P true (G (aK b (A n e D) (.inRegion ops (0::todo)::k)) cs) w'=stepG.apply E.P true (aK b (A n e D) (.inRegion ops (0::todo)::k)) cs none (execOp (A n e D).eval a) w':=by
   simp only[G,stepG,stepG.exec,aK,ho,Option.map_some,Option.getD_some,hw,if_true,stepG.oper,Frame.oper?,zg]
   rw[hr]
  have bU:=tt (Su (ev n e)) w' #[]
  rw[hvc] at bU
  rw[gp,dZ]
  simp only[stepG.apply,if_true,bU,aK,jA,Bool.false_eq_true,if_false]
  simp[seen_none,GStep.after,G,rcase]
 have oW:∀v,Conc.served (G (aK b (A n e D) (.inRegion ops (0::todo)::k)) cs) v=G (aK b (A n (upd a.dst v e) D) (.inRegion ops todo::k)) cs:=by
  intro v
  have:=fC b (A n e D) ops 0 todo k v
  rw[ho] at this
  simp only[Option.bind_some] at this
  rw[aY] at this
  simp only[Conc.served,G] at this ⊢
  rw[this]
 have tR:os=[]→∀pc (g:Goroutine),g.status= .running→(∀w',stepG E.P true g w'= .comm (G (aK b (A n e D) (.inRegion ops (0::todo)::k)) cs) #[rcase E.Ch z] true (.recv true) w' #[])→
  TL E.P (iU pc) L (Ig E pc) Q g ⟨ro,den w⟩:=by
  intro s9 pc g hg' auc
  obtain⟨hb1,fK⟩:=hl.back (rwK:=den w) bX
  refine V8 (E:=E) (z:=z) (s':=⟨oU,X++den w⟩) UX hg' (fun w' _=>auc w') hb1 fK ?_
  rw[oW]
  have:=pZ s9 _ _ _ rfl fun x hx=>(by cases hx)
  rw[fZ] at this
  exact this
 refine⟨Wd (E:=E) (z:=z) rfl (fun w' _=>bS w') (fun a' oo b' v Y s9 n7=>?_) fun s9 pc=>⟨tR s9 pc _ rfl bS,tR s9 pc _ rfl fun w'=>bS w'⟩,fun _ s9 pc=>tR s9 pc _ rfl bS⟩
 rw[oW]
 have:=KE a' oo b' v Y s9 n7 _ _ _ rfl bV
 rw[fZ] at this
 exact this.1
theorem azC{oo:ι}{a:Oper}{sc sv:Operand}{v:Value}{Y:Cells}(ys:List Nat)(ho:ops[i]?=some a) (hg:a.guard=none) (hse:∀ρ,execOp ρ a=Sem.pure (.comm #[{chan:=ρ sc,send:=some (ρ sv),zero:= .tuple #[]}] true .send)) (hk:b.kind≠ .early) (hr:b.roundOf=none)
 (hs:E.VP oo v Y) (h:TT (eF E.P false E.Ii) b (.inRegion ops todo::k) cs n D ro (Ct ys (stO a.dst undef o)))
 (hx:evO n sc o=some (.chan (some E.Ch)):=by kernel_rfl) (hv:evO n sv o=some v:=by kernel_rfl) (hY:dL ys o=some Y:=by kernel_rfl):TT (eF E.P false (E.Jj oo)) b (.inRegion ops (i::todo)::k) cs n D ro o:=by
 rintro e w kn rfl bV
 refine eF.stop ?_
 have:=h e w kn
 refine⟨rfl,G (aK b (A n e D) (.inRegion ops (i::todo)::k)) cs,v,.tuple #[],Y,den (dA ys 0 w),bH hY,hs,fun w' oX=>?_,?_⟩
 ·have he:=ky b (A n e D) (.inRegion ops (i::todo)::k)
  simp only[aK] at he
  have avj:ev n e sc= .chan (some E.Ch):=aF hx
  have avi:ev n e sv=v:=aF hv
  have hw:Region.wanted a (yielded ops (A n e D).tmps)=true:=dt _ _ hg
  have jA:(b.kind==CallKind.early)=false:=by simpa using hk
  have aCo:=hse (ev n e)
  rw[avj,avi] at aCo
  have gp:stepG E.P false (G (aK b (A n e D) (.inRegion ops (i::todo)::k)) cs) w'=stepG.apply E.P true (aK b (A n e D) (.inRegion ops (i::todo)::k)) cs none (execOp (A n e D).eval a) w':=by
   simp only[G,stepG,stepG.exec,aK,ho,Option.map_some,Option.getD_some,hw,if_true,stepG.oper,Frame.oper?,he]
   rw[hr]
  rw[gp,dZ,aCo]
  simp only[stepG.apply,if_true,Sem.runT,aK,jA,Bool.false_eq_true,if_false]
  simp[seen_none,GStep.after,G,scase]
 have oW:Conc.served (G (aK b (A n e D) (.inRegion ops (i::todo)::k)) cs) undef=G (aK b (A n (upd a.dst undef e) D) (.inRegion ops todo::k)) cs:=by
  have:=fC b (A n e D) ops i todo k undef
  rw[ho] at this
  simp only[Option.bind_some] at this
  rw[aY] at this
  simp only[Conc.served,G] at this ⊢
  rw[this]
 rw[oW]
 exact h _ _ _ (by simp only[Ct,stO]) bV
theorem arF{dn:Nat}{bs:List Nat}(hf:E.P.funcs[b.fn]?=some fn) (Ay:fn.results= #[]) (yQ:Bj E.P dn=true) (Du:xd E.P E.ty E.max (Frame.enter E.P dn #[.pointer (some ⟨E.Wg,0,none⟩)] .deferred)=some bs) (hbs:∀b∈bs,b=E.Wg) (ps:List Nat) (hk:b.kind= .deferred) (hr:b.roundOf=none)
 (hd:dL ps o=some [(bd,.deferred (some []))]:=by kernel_rfl):TT (eF E.P false E.Ii) b [] [cM E.P] n [dX bd,{target:= .fn (.func dn) ⟨[]⟩,args:=⟨[.pointer (some ⟨E.Wg,0,none⟩)]⟩}] ro o:=by
 rintro e w kn rfl bV
 have hT2:=dN E.P false E.Ii
 refine hT2.go rfl rfl (g':=G {aK b (A n e [dX bd,{target:= .fn (.func dn) ⟨[]⟩,args:=⟨[.pointer (some ⟨E.Wg,0,none⟩)]⟩}]) [] with mode:= .returning} [cM E.P]) (fun w=>by simp[G,stepG,stepG.exec,aK,hr]) ?_
 have hp:=bH hd
 obtain⟨Lw,Rr,hs⟩:=List.append_of_mem (hp.mem_iff.2 (List.mem_append_left _ (List.mem_singleton.2 rfl)))
 refine unwind_mark (C:=CA E.P) (fun _ _ h=>h) hT2 (.inl rfl) (fr:={aK b (A n e [dX bd,{target:= .fn (.func dn) ⟨[]⟩,args:=⟨[.pointer (some ⟨E.Wg,0,none⟩)]⟩}]) [] with mode:= .returning}) rfl hs<|jm (C:=CA E.P) (fun _ _ h=>h) hT2 (.inl rfl) (kM yQ) (ds:=[]) rfl<|eF.stop ?_
 have hq:QuitsD E.P 2 0 (G {aK b (A n e []) [] with mode:= .returning} [cM E.P]):=nM rfl rfl hk hf Ay
 exact HN (E:=E) (c:={aK b (A n e []) [] with mode:= .returning}) (.inl rfl) hq Du hbs
end
theorem azK{S:Goroutine→St→Prop}{c:Code}(hf:P.funcs[f]?=some fn) (hb:fn.body=some c) (hn:fn.ntmps=n) (ff:Bj P f=true) (hle:Nat.ble ca.length n=true)
 (h:TT (eF P false S) (fr0 f .deferred) ([c].map .code++[]) [cM P] n [] ro (some ⟨.fin .normal,fG 0 ca,[],⟨[],[]⟩⟩)):eF P false S (born P {target:= .fn (.func f) ⟨ca⟩,args:= #[]}) ⟨ro,[]⟩:=by
 have hT:=dN P false S
 refine jm (C:=CA P) (fun _ _ h=>h) hT (fr:={(default:Frame) with fn:=P.funcs.size,defers:=[{target:= .fn (.func f) ⟨ca⟩,args:= #[]}],mode:= .panicking [goexitEntry]}) (.inr ⟨_,rfl⟩) (kM ff) rfl ?_
 show eF P false S (G (Frame.enter P f (#[]++⟨ca⟩) .deferred) [cM P]) ⟨ro,[]⟩
 have gM:Frame.enter P f (#[]++⟨ca⟩) .deferred=aK (fr0 f .deferred) (A n (fG 0 ca) []) [.code c]:=by
  rw[←kz ca n (Nat.le_of_ble_eq_true hle)]
  simp[Frame.enter,aK,hf,hb,hn,fr0]
 rw[gM]
 exact h _ _ _ rfl fun x hx=>(by cases hx)
theorem akV{E:dM ι}{x:Ly}(hx:x.OK E.P E.ty){bs:List Nat}(QA:AW E.P E.ty E.max (Frame.enter E.P x.wait #[.pointer (some ⟨E.Wg,0,none⟩)] .normal)=some bs)(hbs:∀b∈bs,b=E.Wg)
 {a:Oper}(hq:ro q=some (.cells ⟨[.chan (some E.Ch)]⟩ t fz))(ho0:x.q1[0]?=some a) (hg0:a.guard=none) (aM8:a.op= .load U y) (ht:(aZ E.P U).map (·.agg)=some false)
 (hy:evO x.n y (some ⟨.fin .normal,eS x.o0.dst (.tuple #[]) (fG 0 [.pointer (some ⟨E.Wg,0,none⟩),.pointer (some ⟨q,0,none⟩)]),[],⟨[],[]⟩⟩)=some (.pointer (some ⟨q,0,none⟩)))
 (hc:evO x.n x.cx (stO a.dst (.chan (some E.Ch)) (some ⟨.fin .normal,eS x.o0.dst (.tuple #[]) (fG 0 [.pointer (some ⟨E.Wg,0,none⟩),.pointer (some ⟨q,0,none⟩)]),[],⟨[],[]⟩⟩))=some (.chan (some E.Ch))):
 E.closes ⟨ro,[]⟩ (born E.P {target:= .fn (.func x.f) ⟨[.pointer (some ⟨E.Wg,0,none⟩),.pointer (some ⟨q,0,none⟩)]⟩,args:= #[]}):=by
 obtain⟨fn,hf,Ay,Sx⟩:=hx.fn
 obtain⟨hbf,rH,qD⟩:=hx.bf
 have hk:x.b.kind≠ .early:=by rw[rH];simp
 have QH:∀g g',g.status= .running→g'.status= .running→(∀w,stepG E.P false g w= .go g' w #[])→E.closes ⟨ro,[]⟩ g'→E.closes ⟨ro,[]⟩ g:=
  fun g g' hg _ bS ⟨q,hq⟩=>⟨q+1,hg,g',fun w _=>bS w,hq⟩
 refine QH _ _ rfl rfl (HW (kM hx.ff) _) ?_
 have He:(#[]++(⟨[.pointer (some ⟨E.Wg,0,none⟩),.pointer (some ⟨q,0,none⟩)]⟩:Array Value))= #[.pointer (some ⟨E.Wg,0,none⟩),.pointer (some ⟨q,0,none⟩)]:=by simp
 rw[He]
 refine U8 (gY:=[]) (cs:=[cM E.P]) QH (hx.enter _ _)<|HL (E:=E) ?_ QA hbs
 have hT:=dN E.P false E.Ji
 show eF E.P false E.Ji (G ((aK x.b (A x.n (fG 0 [.pointer (some ⟨E.Wg,0,none⟩),.pointer (some ⟨q,0,none⟩)]) []) (.inRegion x.q0 (0::[])::[.code x.rest])).finish (.tuple #[])) [cM E.P]) ⟨ro,[]⟩
 rw[fC,hx.op0,aY]
 simp only[Option.bind_some]
 rw[jL]
 refine gN hT ?_
 obtain⟨id,afN⟩:=hx.rest
 refine dF (l:=[x.rest]) (k:=[]) hT afN fun l2 qy=>?_
 have:=fX qy
 subst this
 rw[hx.size]
 have key:TT (eF E.P false E.Ji) x.b (.inRegion x.q1 (0::[1])::[]) [cM E.P] x.n [] ro (some ⟨.fin .normal,eS x.o0.dst (.tuple #[]) (fG 0 [.pointer (some ⟨E.Wg,0,none⟩),.pointer (some ⟨q,0,none⟩)]),[],⟨[],[]⟩⟩):=by
  refine tLd hT (.chan (some E.Ch)) ho0 hg0 aM8 ht hk qD (q:=q) (t:=t) (fz:=fz) (fun _ _ _ _=> .inl hq) ?_ hy
  intro e w kn he bV
  refine eF.stop ?_
  have hx2:ev x.n e x.cx= .chan (some E.Ch):=by
   rw[he] at hc
   exact aF hc
  obtain⟨ho,hg,ats,ax⟩:=hx.op
  have hq:(E.P.funcs[x.b.fn]?).any (·.norace)=false:=by rw[hbf,hf];simpa using Sx
  refine⟨rfl,?_,G (x.b.at (Act.put (A x.n e []) x.oc.dst (.tuple #[])) (.inRegion x.q1 []::[])) [cM E.P],fun w s r tm hc=>?_,4,?_⟩
  ·simp[mayWake,G,aK,ho,ax]
  ·rw[Cq qD]
   have:=stepG_close (P:=E.P) (main:=false) (b:=x.b) (a:=A x.n e []) (kk:=[]) (cs:=[cM E.P]) (rest:=[]) ho (dt x.oc _ hg) hk ax (by rw[dZ];exact hx2) hc hq
   exact this
  rw[←Cq qD]
  refine .ctl (g':=G (aK x.b (Act.put (A x.n e []) x.oc.dst (.tuple #[])) []) [cM E.P]) rfl (fun w=>by simp[G,stepG,stepG.exec,aK])<|.ctl (g':=G {aK x.b (Act.put (A x.n e []) x.oc.dst (.tuple #[])) [] with mode:= .returning} [cM E.P]) rfl (fun w=>by simp[G,stepG,stepG.exec,aK,qD])<|nM rfl ?_ rH (by show E.P.funcs[x.b.fn]?=_;rw[hbf];exact hf) Ay
  show (Act.put (A x.n e []) x.oc.dst (.tuple #[])).defers=[]
  rw[aY];rfl
 exact key _ _ _ rfl fun x hx=>(by cases hx)
theorem jpF{V:Value}(lp:List Nat)(B:Cells)(G6:Bj X.P f=true)(hf:∀aH,Sub X.ro aH→Knows aH B→dD X.P f vs aH V)(hj:J X (MD B V o))(h1:dE X.n (ai3 X.n) o=some (f,vs):=by kernel_rfl)(h3:dL lp o=some B:=by kernel_rfl):J X o:=by
 refine jGN h1 h3 (fun s p e ho hh hc=>?_) hj
 have hcb:xY X.P X.n p e=some (f,vs):=by unfold xY;rw[hc];simp only[G6,cond_true]
 obtain⟨ff,x,xs,at_,fi,ca,ws,ax,hx,rE,rfl⟩:=qn hcb
 rcases p with ⟨dst,op,ty,pos,cX,g⟩
 dsimp only at ax;subst ax
 refine⟨rfl,fun s0 GM uK ops i sM rest hw s' hs todo Q hk=>?_⟩
 have hez:Ext ⟨X.ro,B⟩ s':=fun b ob hb=>hs _ _ (hb.elim (fun h=>GM _ _ (.inl h)) fun h=>uK (b,ob) h)
 exact P8 X.hC sM hw (bh hx) ff (wY rE) (R6 fi ws ca) hez (fun aH h1=>hf aH (FG h1) fun y hy=>h1 _ _ (.inr hy)) hk
def bgI(body:Code)(i:Nat):Option JS→Option (JS×Nat)
 |some ⟨.fin .normal,e,w,kn⟩=>match yx w i with
  |some (.b b (.loop r))=>match r.state with
   | .ready=>some (⟨.code body [],e,Tf w i (.b b (.loop {r with state:= .busy})),kn⟩,b)
   |_=>none
  |_=>none
 |_=>none
theorem jbI(i:Nat)(h:J (X.re bl ro Φ) (Eo (bgI body i o)))(h1:Td (bgI body i o)=some bl:=by kernel_rfl):J (X.rd bl ro Φ body) o:=by
 unfold bgI at h h1
 split at h<;>try (simp only[Eo] at h;exact h.elim)
 rename_i e w kn
 split at h<;>try (simp only[Eo] at h;exact h.elim)
 rename_i b r hn
 split at h<;>try (simp only[Eo] at h;exact h.elim)
 rename_i bS
 simp only[hn,bS,Td,Option.some.injEq] at h1
 subst h1
 simp only[Eo] at h
 intro bV
 have hw:=h bV
 obtain⟨L,R,h2,h3⟩:=zx hn
 simp only[JP,Cx.rd,H2,CL]
 refine⟨L,r,R,h2,bS,?_⟩
 simp only[JP,h3] at hw
 exact hw
theorem tGe{b:Frame}{D:List Deferred}(h:TT T b zb cs n D ro (geO o)):TT T b zb cs n D ro o:=by
 rintro e w kn rfl bV
 have:=h e (.l []::w) kn (by simp only[geO]) bV
 rw[fZ] at this
 exact this
def adk:Option JS→Option JS
 |some ⟨.fin .normal,e,w,kn⟩=>some ⟨.fin .ret,e,w,kn⟩
 |_=>none
theorem arE{c:Code}{L:Cells}(hf:P.funcs[f]?=some fn) (hb:fn.body=some c) (hn:fn.ntmps=n) (hle:Nat.ble args.length n=true)
 (h:TT T (fr0 f .normal) ([c].map .code++[]) cs n [] ro (some ⟨.fin .normal,fG 0 args,[.l L],⟨[],[]⟩⟩)):T (G (Frame.enter P f ⟨args⟩ .normal) cs) ⟨ro,L⟩:=by
 have gM:Frame.enter P f ⟨args⟩ .normal=aK (fr0 f .normal) (A n (fG 0 args) []) [.code c]:=by
  rw[←kz args n (Nat.le_of_ble_eq_true hle)]
  simp[Frame.enter,aK,hf,hb,hn,fr0]
 rw[gM]
 exact h _ _ _ rfl fun x hx=>(by cases hx)
theorem aJA(hm:P.follows .mixedOrders=true)(hT:Closed P main T){cl:Frame}{NU:List Frame}(v:Value)(hs ps:List Nat)(Y:Cells)(hf:P.funcs[f]?=some fn)
 (hk:T (G (cl.finish v) NU) ⟨ro,Y⟩) (h1:qF (gZ P n f hs (adk o))=some v:=by kernel_rfl) (h2:OL (gZ P n f hs (adk o))=OJ (gZ P n f hs (adk o)):=by kernel_rfl) (h3:dL ps o=some Y:=by kernel_rfl):TT T (fr0 f .normal) (.code .ret::zb) (cl::NU) n [] ro o:=by
 rintro e w kn rfl bV
 simp only[adk] at h1 h2
 simp only[gZ] at h1 h2
 cases hr:BA P n e w kn.c hs (qh P f).results.toList with
 |none=>simp only[hr,qF] at h1;cases h1
 |some x=>
  rcases x with ⟨vs,q⟩
  simp only[hr,qF,Option.some.injEq,OL,OJ] at h1 h2
  have rG:=tv (X:=⟨P,fun m T'=>m=main∧T'=T,by rintro _ _ ⟨rfl,rfl⟩;exact hT,hm,f,none,n,[],ro,fun _ _ _=>True⟩) bV hr (lR h2)
  have hp:=bH h3
  have ur:qh P f=fn:=by simp only[qh,hf]
  have EV:=Px (s0:=⟨ro,Y⟩) (R:=fun en s'=>∃v,en= .returned v∧T (G (cl.finish v) NU) s') (.inl rfl) rG h1 (dI hp (Sub.refl _)) ⟨v,rfl,hk⟩
  rw[ur] at EV
  refine hT.go rfl rfl (g':=G {aK (fr0 f .normal) (A n e []) (.code .ret::zb) with mode:= .returning} (cl::NU)) (fun w=>by simp[G,stepG,stepG.exec,aK,fr0])<|su (C:=CA P) (fun _ _ h=>h) (T:=T) hT hf (fr:={aK (fr0 f .normal) (A n e []) (.code .ret::zb) with mode:= .returning}) rfl rfl rfl rfl (R:=fun en s'=>∃v,en= .returned v∧T (G (cl.finish v) NU) s') EV.2 (fun v s' hv=>?_)
  obtain⟨v',hv',ht⟩:=hv
  cases hv'
  exact ht
attribute [irreducible] Xg bkO bgI Tk adk
def Fb(P:Program)(f:FuncId)(args:List Value)(ro:Nat→Option Obj)(own:Cells)(Φ:Value→Cells→Prop):Prop:=
 ∀fr,Fn (C0 P) P f ⟨args⟩ ⟨ro,own++fr⟩ (fun en s'=>∃v Y,en= .returned v∧(⟨ro,Y++fr⟩:St).le s'∧Φ v Y)
theorem Fb.mono{own:Cells}{Φ':Value→Cells→Prop}(h:Fb P f args ro own Φ)(hk:∀v X,Φ v X→Φ' v X):Fb P f args ro own Φ':=
 fun fr=>Fn.mono (h fr) fun _ _ ⟨v,X,h1,h2,h3⟩=>⟨v,X,h1,h2,hk v X h3⟩
abbrev RC(ro:Nat→Option Obj)(fr:Cells)(Φ:Value→Cells→Prop):Ending→St→Prop:=fun en s'=>∃v Y,en= .returned v∧(⟨ro,Y++fr⟩:St).le s'∧Φ v Y
def XC(P:Program)(hm:P.follows .mixedOrders=true)(f:FuncId)(ro:Nat→Option Obj)(R:Ending→St→Prop):Cx:=⟨P,C0 P,xe,hm,f,none,(qh P f).ntmps,[],ro,qX P (qh P f) R⟩
theorem qC{hm:P.follows .mixedOrders=true}:QR (XC P hm f ro R) R:=⟨rfl,rfl⟩
theorem KW(hC:∀main T,C main T→Closed P main T){c:Code}(hf:P.funcs[f]?=some fn) (hb:fn.body=some c) (hl:Nat.ble args.length fn.ntmps=true) (h:Wp C f none c (qX P fn R) (A fn.ntmps (fG 0 args) []) s):Fn C P f ⟨args⟩ s R:=by
 refine Ro hC hf hb ?_
 have he:=kz args fn.ntmps (Nat.le_of_ble_eq_true hl)
 rw[←he] at h
 exact h
theorem GD(hm:P.follows .mixedOrders=true){L:Cells}(own:List Sg)(kn:Cells)(hk:Knows ro kn)(h:∀fr,J (XC P hm f ro (RC ro fr Φ)) (jo P f args (own++[.l fr]) kn))(hL:den own=L:=by rfl):Fb P f args ro L Φ:=by
 subst hL
 intro fr
 have h:=h fr
 unfold jo at h
 split at h<;>try exact h.elim
 rename_i fn hf
 split at h<;>try exact h.elim
 rename_i c hc
 cases hl:Nat.ble args.length fn.ntmps with
 |false=>rw[hl] at h;exact h.elim
 |true=>
  rw[hl] at h
  have ur:qh P f=fn:=by simp only[qh,hf]
  have:=h hk
  simp only[JP,XC,KQ,ur] at this
  have hd:den (own++[.l fr])=den own++fr:=by rw[lh];rfl
  rw[hd] at this
  exact KW xe hf hc hl this
section
variable {X:Cx} {o:Option JS}
theorem Sq{own:Cells}(ps:List Nat)(hC:∀main T,X.C main T→C0 X.P main T)(hf:Fb X.P f vs X.ro own Φ)(hj:∀v Y,Φ v Y→J X (mL ps v Y o))(h1:eR X.n (xY X.P X.n) o=some (f,vs):=by kernel_rfl)(h2:dL ps o=some own:=by kernel_rfl):J X o:=by
 obtain⟨ops,i,todo,k,e,w,kn,p,rfl,ho,hw,hc⟩:=du h1
 obtain⟨ff,x,xs,at_,fi,ca,ws,ax,hx,rE,rfl⟩:=qn hc
 intro bV
 rcases p with ⟨dst,op,ty,pos,cX,g⟩
 dsimp only at ax;subst ax
 have hp:=bH h2
 have ur:Fn X.C X.P f ⟨fi++ws++ca⟩ ⟨X.ro,den w⟩ (fun en s'=>∃v Y,en= .returned v∧(⟨X.ro,Y++den (dA ps 0 w)⟩:St).le s'∧Φ v Y):=fun main T hT c cs k1 k2=>
  (X.hC main T hT).mono _ ⟨X.ro,own++den (dA ps 0 w)⟩ _ (dI (J:=[]) (by rw[List.append_nil];exact hp) (Sub.refl _)) (Fn.weaken hC (hf _) main T hT c cs k1 k2)
 refine tI (fi:=⟨fi⟩) (ca:=⟨ca⟩) (ws:=fi++ws++ca) X.hC ho hw hx ff rE (R6 fi ws ca) ur (fun v' s' hr=>?_) (fun ch s' hr=>by obtain⟨_,_,e,_⟩:=hr;cases e) (fun s' hr=>by obtain⟨_,_,e,_⟩:=hr;cases e)
 obtain⟨v,Y,hv,hle,pQ⟩:=hr
 cases hv
 have:=hj _ Y pQ
 rw[nP ho] at this
 have:=this bV
 simp only[JP,fZ] at this
 exact this.more X.hC hle
theorem Ub(hq:QR X (RC oU fr Φ))(v:Value)(ps:List Nat)(Y:Cells)(fw:Sub oU X.ro)(hR:Φ v Y)(h1:qF (gZ X.P X.n X.fn [] o)=some v:=by kernel_rfl)(h2:OL (gZ X.P X.n X.fn [] o)=OJ (gZ X.P X.n X.fn [] o):=by kernel_rfl)(h3:dL ps o=some (Y++fr):=by kernel_rfl)(h4:yU o=true:=by kernel_rfl):J X o:=
 aM hq v [] ps (Y++fr) fw ⟨v,Y,rfl,St.le_refl _,hR⟩ h1 h2 h3 h4
end
noncomputable def FQ(P:Program)(g:FuncId):Func:=match IP P g with
 |some (gn,_,_)=>gn
 |none=>default
noncomputable def IN(P:Program)(g:FuncId):Tmp:=match IP P g with
 |some (_,t,_)=>t
 |none=>0
noncomputable def recC(P:Program)(g:FuncId):Code:=match IP P g with
 |some (_,_,c)=>c
 |none=> .skip
def ar9(P:Program)(g:FuncId):Bool:=(IP P g).isSome
theorem alc(h:ar9 P g=true):IP P g=some (FQ P g,IN P g,recC P g):=by
 unfold ar9 at h
 unfold FQ IN recC
 cases hr:IP P g with
 |none=>rw[hr] at h;cases h
 |some x=>rcases x with ⟨a,b,c⟩;rfl
noncomputable def XD(P:Program)(hm:P.follows .mixedOrders=true)(f:FuncId)(ro:Nat→Option Obj)(R:Ending→St→Prop)(g:FuncId):Cx:=⟨P,CP P,eJ,hm,f,none,(qh P f).ntmps,[],ro,Vn (CP P) P (qh P f) g (FQ P g) (IN P g) (recC P g) R⟩
theorem aLE(hm:P.follows .mixedOrders=true){L:Cells}(g:FuncId)(own:List Sg)(kn:Cells)(hk:Knows ro kn)(h:J (XD P hm f ro (RX ro Φ) g) (jo P f args own kn))(hL:den own=L:=by rfl)(afP:ar9 P g=true:=by kernel_rfl):dR P f args ro L Φ:=by
 subst hL
 unfold jo at h
 split at h<;>try exact h.elim
 rename_i fn hf
 split at h<;>try exact h.elim
 rename_i c hc
 cases hl:Nat.ble args.length fn.ntmps with
 |false=>rw[hl] at h;exact h.elim
 |true=>
  rw[hl] at h
  have ur:qh P f=fn:=by simp only[qh,hf]
  have:=h hk
  simp only[JP,XD,KQ,ur] at this
  exact Hp eJ hf hc rfl hl (alc afP) this
def dfV(n:Nat)(p:Oper)(e:Env):Option (FuncId×List Value):=match p.op with
 | .defer ⟨.value x,⟨[]⟩,⟨[]⟩⟩=>match bp n e x with
  |some (.func (.func f) ⟨[]⟩ ⟨ca⟩)=>some (f,ca)
  |_=>none
 |_=>none
theorem awH(h:dfV n p e=some (f,ca)):∃x,p.op= .defer ⟨.value x,#[],#[]⟩∧bp n e x=some (.func (.func f) ⟨[]⟩ ⟨ca⟩):=by
 unfold dfV at h
 split at h<;>try (cases h;done)
 rename_i x ax
 split at h<;>try (cases h;done)
 rename_i hx
 cases h
 exact⟨x,ax,hx⟩
def skO:Option JS→Option JS
 |some ⟨.ops ops (i::todo) k,e,w,kn⟩=>match ops[i]? with
  |some p=>some ⟨.ops ops todo k,upd p.dst undef e,w,kn⟩
  |none=>none
 |_=>none
def Qx(t:Tmp)(rest:Code)(ca:List Value):Option JS→Option JS
 |some ⟨.fin _,_,w,kn⟩=>some ⟨.code rest [],upd (some t) .nilIface (fG 0 ca),w,⟨kn.c,[]⟩⟩
 |_=>none
def rwS:Option JS→Option (List Sg)
 |some s=>some s.rw
 |none=>none
section
variable {X:Cx} {o:Option JS}
theorem jdf(hj:J (X.wd ({target:= .fn (.func f) ⟨ca⟩,args:= #[]}::X.D)) (skO o))(h1:eR X.n (dfV X.n) o=some (f,ca):=by kernel_rfl)(hr:X.az=none:=by rfl):J X o:=by
 obtain⟨ops,i,todo,k,e,w,kn,p,rfl,ho,hw,hc⟩:=du h1
 obtain⟨x,ax,hx⟩:=awH hc
 intro bV
 rcases p with ⟨dst,op,ty,pos,cX,g⟩
 dsimp only at ax;subst ax
 simp only[skO,ho] at hj
 have:=hj bV
 simp only[JP,Si] at this
 show ab X.C X.fn X.az ops (i::todo) (KQ X k) (A X.n e X.D) ⟨X.ro,den w⟩
 rw[hr]
 have h2:(X.wd ({target:= .fn (.func f) ⟨ca⟩,args:= #[]}::X.D)).az=none:=hr
 rw[h2] at this
 exact alG X.hC ho hw hx this
structure QD(X:Cx)(g:FuncId)(R:Ending→St→Prop)(ca:List Value):Prop where
 q:X.Q=Vn X.C X.P (qh X.P X.fn) g (FQ X.P g) (IN X.P g) (recC X.P g) R
 d:X.D=[{target:= .fn (.func g) ⟨ca⟩,args:= #[]}]
theorem jrD(hq:QD X g R ca)(v:Value)(hs ps:List Nat)(Y:Cells)(k:Nat)(fw:Sub oU X.ro)(hR:R (.returned v) ⟨oU,Y⟩)(hl:Nat.ble ca.length (FQ X.P g).ntmps=true:=by kernel_rfl)
 (h1:qF (gZ X.P X.n X.fn hs o)=some v:=by kernel_rfl)(h2:OL (gZ X.P X.n X.fn hs o)=OJ (gZ X.P X.n X.fn hs o):=by kernel_rfl)(h3:dL ps o=some Y:=by kernel_rfl)(h4:yU o=true:=by kernel_rfl)
 (h5:yU (res (adv X.P (FQ X.P g).ntmps k [] (Qx (IN X.P g) (recC X.P g) ca o)))=true:=by kernel_rfl)(h6:rwS (res (adv X.P (FQ X.P g).ntmps k [] (Qx (IN X.P g) (recC X.P g) ca o)))=rwS o:=by kernel_rfl)
 (h7:lhs (adv X.P (FQ X.P g).ntmps k [] (Qx (IN X.P g) (recC X.P g) ca o))=rhs (adv X.P (FQ X.P g).ntmps k [] (Qx (IN X.P g) (recC X.P g) ca o)):=by kernel_rfl):J X o:=by
 obtain⟨ex,e,w,kn,rfl,hex⟩:=sR h4
 simp only[gZ] at h1 h2
 cases hr:BA X.P X.n e w kn.c hs (qh X.P X.fn).results.toList with
 |none=>simp only[hr,qF] at h1;cases h1
 |some x=>
  rcases x with ⟨vs,q⟩
  simp only[hr,qF,Option.some.injEq,OL,OJ] at h1 h2
  intro bV
  have rG:=tv bV hr (lR h2)
  have hp:=bH h3
  have EV:=Px (s0:=⟨oU,Y⟩) (R:=R) hex rG h1 (dI hp fw) hR
  have ht:bP X.P (results (qh X.P X.fn) (A X.n e X.D).tmps) ⟨X.ro,den w⟩ (fun v s'=>∃s0,s0.le s'∧R (.returned v) s0) (fun _ _=>False):=by
   rcases hex with rfl|rfl<;>exact EV.2
  show X.Q ex (A X.n e X.D) ⟨X.ro,den w⟩
  rw[hq.q]
  refine⟨hex.symm,ca,hl,hq.d,?_⟩
  let X2:Cx:=⟨X.P,X.C,X.hC,X.hm,g,none,(FQ X.P g).ntmps,[],X.ro,fun e2 a2 s2=>(e2= .normal∨e2= .ret)∧a2.defers=[]∧bP X.P (results (qh X.P X.fn) (A X.n e X.D).tmps) s2 (fun v s3=>∃s0,s0.le s3∧R (.returned v) s0) (fun _ _=>False)⟩
  have hj:J X2 (Qx (IN X.P g) (recC X.P g) ca (some ⟨.fin ex,e,w,kn⟩)):=by
   refine jd k [] ?_ h7
   have h5':=h5
   have h6':=h6
   obtain⟨ex2,e2,w2,kn2,rS,aOa⟩:=sR h5'
   show J X2 (res (adv X.P (FQ X.P g).ntmps k [] (Qx (IN X.P g) (recC X.P g) ca (some ⟨.fin ex,e,w,kn⟩))))
   rw[rS] at h6' ⊢
   simp only[rwS,Option.some.injEq] at h6'
   subst h6'
   exact fun _=>⟨aOa.symm,rfl,ht⟩
  simp only[Qx] at hj
  exact hj bV
end
attribute [irreducible] skO Qx rwS dfV
def uo(r ck:Nat)(seen:List Nat):Obj:= .mapIter (some r) ck ⟨seen⟩ ck
def cI(es:Array MapEntry)(seen:List Nat):List MapEntry:=es.toList.filter fun e=> !seen.contains e.born
theorem BX(es:Array MapEntry):cI es []=es.toList:=by simp[cI]
theorem aad{es:Array MapEntry}{e:MapEntry}:e∈cI es (seen++[b])↔e∈cI es seen∧e.born≠b:=by
 simp only[cI,List.mem_filter,Bool.not_eq_true',List.contains_eq_mem,List.mem_append,List.mem_singleton,decide_eq_false_iff_not,not_or,and_assoc]
theorem Gx{es:Array MapEntry}{e:MapEntry}(h:e∈cI es seen):(cI es (seen++[e.born])).length <(cI es seen).length:=by
 have:cI es (seen++[e.born])=(cI es seen).filter fun x=> !decide (x.born=e.born):=by
  simp only[cI,List.filter_filter]
  refine List.filter_congr fun x _=>?_
  simp only[List.contains_eq_mem,List.mem_append,List.mem_singleton,Bool.decide_or,Bool.not_or]
  rw[Bool.and_comm]
 rw[this]
 exact List.length_filter_lt_length_iff_exists.2 ⟨e,h,by simp⟩
def mrV(P:Program)(n:Nat)(p:Oper)(e:Env):Option Value:=match p.op with
 | .range T x=>match aZ P T with
  |some ⟨.map _ _,_,_,_⟩=>bp n e x
  |_=>none
 |_=>none
def nmV(n:Nat)(p:Oper)(e:Env):Option Value:=match p.op with
 | .next x false=>bp n e x
 |_=>none
def enV(n:Nat)(p:Oper)(e:Env):Option Value:=match p.op with
 | .entry x=>bp n e x
 |_=>none
theorem Jy{Q:β→St→Prop}{E:Halt→St→Prop}{k:Nat→Sem β}(hn:0 <n)(h:∀j,j <n→bP P (k j) s Q E):bP P (choose (.mapNext n) >>= k) s Q E:=by
 show (if (Question.mapNext n).forced=true then _ else _)
 split
 ·exact h 0 hn
 exact fun q=>h _ (Nat.mod_lt _ hn)
section
variable {X:Cx} {o:Option JS}
theorem jmR{es:Array MapEntry}(hm:X.ro r=some (.map es ck))(hj:∀b,J X (mL [] (.pointer (some ⟨b,0,none⟩)) [(b,uo r ck [])] o))(hv:eR X.n (mrV X.P X.n) o=some (.map (some r)):=by kernel_rfl)(hB:dL [] o=some []:=by kernel_rfl):J X o:=by
 refine jS (Φ:=fun v L'=>∃b,v= .pointer (some ⟨b,0,none⟩)∧L'=[(b,uo r ck [])]) [] [] hv hB (fun p e hf=>?_) (fun v L' pQ=>?_)
 ·unfold mrV at hf
  split at hf<;>try (cases hf;done)
  rename_i T x ax
  split at hf<;>try (cases hf;done)
  rename_i dJ
  obtain⟨bB,tf⟩:=av dJ
  refine⟨by rw[ax];simp,fun R Q E hQ=>?_⟩
  simp only[execOp,ax,Instr.range,aa,a8 tf,aF hf]
  refine cD (.inl hm) rfl rfl ?_
  simp only[aa,ae,nV]
  intro b hb
  exact hQ _ _ ⟨b,rfl,rfl⟩
 obtain⟨b,rfl,rfl⟩:=pQ
 exact hj b
theorem jmN{kv:κ→Value}{F:List (κ×Value)}{es:Array MapEntry}(i:Nat)(hm:X.ro r=some (.map es ck))(hE:sY kv F es ck)
 (hT:∀k v e,(k,v)∈F→e∈cI es seen→e.key=kv k→e.val=v→J X (mL [i] (.tuple ⟨[.bool true,kv k,v]⟩) [(it,uo r ck (seen++[e.born]))] o))
 (hF:cI es seen=[]→J X (mL [i] (.tuple ⟨[.bool false]⟩) [(it,uo r ck seen)] o))
 (hv:eR X.n (nmV X.n) o=some (.pointer (some ⟨it,0,none⟩)):=by kernel_rfl)(hB:dL [i] o=some [(it,uo r ck seen)]:=by kernel_rfl):J X o:=by
 refine jS (Φ:=fun v L'=>(∃e,e∈cI es seen∧v= .tuple ⟨[.bool true,e.key,e.val]⟩∧L'=[(it,uo r ck (seen++[e.born]))])∨(cI es seen=[]∧v= .tuple ⟨[.bool false]⟩∧L'=[(it,uo r ck seen)])) [i] _ hv hB (fun p e hf=>?_) (fun v L' pQ=>?_)
 ·unfold nmV at hf
  split at hf<;>try (cases hf;done)
  rename_i x ax
  refine⟨by rw[ax];simp,fun R Q E hQ=>?_⟩
  simp only[execOp,ax,Instr.next,aa,aF hf]
  have hs:(⟨X.ro,[(it,uo r ck seen)]++R⟩:St).rw=[]++(it,uo r ck seen)::R:=rfl
  refine cD (o:=uo r ck seen) (.inr (by rw[hs];exact fg)) rfl rfl ?_
  simp only[uo,aa]
  refine cD (.inl hm) rfl rfl ?_
  simp only[aa]
  have hb:=hE.2.2
  have bS:¬((!(⟨seen⟩:Array Nat).isEmpty&& !es.isEmpty&&es.all (·.born≥ck))=true):=by
   intro h
   simp only[Bool.and_eq_true,Bool.not_eq_true',Array.all_eq_true,decide_eq_true_eq] at h
   obtain⟨⟨_,h1⟩,h2⟩:=h
   have uI:0 <es.size:=by
    rcases Nat.eq_zero_or_pos es.size with h0|h0
    ·simp[Array.isEmpty,h0] at h1
    exact h0
   have:=h2 0 uI
   have:=hb es[0] (by simp)
   omega
  rw[if_neg bS]
  have xM:(es.filter fun e=> !(⟨seen⟩:Array Nat).contains e.born)=⟨cI es seen⟩:=by
   rcases es with ⟨l⟩
   simp[cI]
  have hold:((⟨cI es seen⟩:Array MapEntry).filter fun e=>decide (e.born <ck))=⟨cI es seen⟩:=by
   have:(cI es seen).filter (fun e=>decide (e.born <ck))=cI es seen:=List.filter_eq_self.2 fun e he=>decide_eq_true (hb e (List.mem_filter.1 he).1)
   simp[this]
  have sN:((⟨cI es seen⟩:Array MapEntry).filter fun e=>decide (e.born≥ck))=⟨[]⟩:=by
   have:(cI es seen).filter (fun e=>decide (e.born≥ck))=[]:=List.filter_eq_nil_iff.2 fun e he=>by
    have:=hb e (List.mem_filter.1 he).1
    simp only[decide_eq_true_eq];omega
   simp[this]
  simp only[xM,hold,sN]
  cases hl:cI es seen with
  |nil=>
   simp only[List.isEmpty_toArray,List.isEmpty_nil,if_true]
   refine Jy (by simp) fun j hj=>?_
   have hc:(#[(none:Option MapEntry)]++((⟨[]⟩:Array MapEntry)++⟨[]⟩).map some)[j]?=some none:=by
    simp at hj
    subst hj;simp
   show bP X.P ((match (#[(none:Option MapEntry)]++((⟨[]⟩:Array MapEntry)++⟨[]⟩).map some)[j]? with|some (some e)=>_|some none=>_|none=>_) >>= fun v=>pure (Next.value v)) _ _ _
   rw[hc]
   exact hQ _ _ (.inr ⟨hl,rfl,rfl⟩)
  |cons e0 l=>
   have hem:(⟨e0::l⟩:Array MapEntry).isEmpty=false:=by simp
   simp only[hem,Bool.false_eq_true,if_false]
   have He:(#[]++((⟨e0::l⟩:Array MapEntry)++⟨[]⟩).map some:Array (Option MapEntry))=⟨(e0::l).map some⟩:=by simp
   rw[He]
   refine Jy (by simp) fun k cK=>?_
   have cK:k <(e0::l).length:=by simpa using cK
   have hk:(⟨(e0::l).map some⟩:Array (Option MapEntry))[k]?=some (some (e0::l)[k]):=by
    rw[List.getElem?_toArray,List.getElem?_map,List.getElem?_eq_getElem cK];rfl
   show bP X.P ((match (⟨(e0::l).map some⟩:Array (Option MapEntry))[k]? with|some (some e)=>_|some none=>_|none=>_) >>= fun v=>pure (Next.value v)) _ _ _
   rw[hk]
   simp only[aa]
   have mI:(⟨X.ro,[(it,Obj.mapIter (some r) ck ⟨seen⟩ ck)]++R⟩:St).rw=[]++(it,Obj.mapIter (some r) ck ⟨seen⟩ ck)::R:=rfl
   refine eg (o:= .mapIter (some r) ck ((⟨seen⟩:Array Nat).push (e0::l)[k].born) ck) rfl mI rfl ?_
   have hp:(⟨seen⟩:Array Nat).push (e0::l)[k].born=⟨seen++[(e0::l)[k].born]⟩:=by simp
   rw[hp]
   have:=hQ (.tuple ⟨[.bool true,(e0::l)[k].key,(e0::l)[k].val]⟩) [(it,uo r ck (seen++[(e0::l)[k].born]))] (.inl ⟨_,by rw[hl];exact List.getElem_mem cK,rfl,rfl⟩)
   exact this
 rcases pQ with ⟨e,he,rfl,rfl⟩| ⟨h1,rfl,rfl⟩
 ·have:(e.key,e.val)∈F.map (fun x=>(kv x.1,x.2)):=by
   rw[←hE.1];exact List.mem_map_of_mem (f:=fun e:MapEntry=>(e.key,e.val)) (List.mem_filter.1 he).1
  obtain⟨⟨k,v⟩,h1,h2⟩:=List.mem_map.1 this
  simp only[Prod.mk.injEq] at h2
  have:=hT k v e h1 he h2.1.symm h2.2.symm
  rwa[h2.1,h2.2] at this
 exact hF h1
theorem jmE{kv:κ→Value}{F:List (κ×Value)}{es:Array MapEntry}{e:MapEntry}{k:κ}{v:Value}(i:Nat)(hm:X.ro r=some (.map es ck))(hE:sY kv F es ck)(he:e∈cI es seen)(hk:e.key=kv k)(hvl:e.val=v)
 (hj:J X (mL [i] (.tuple ⟨[kv k,v]⟩) [(it,uo r ck (seen++[e.born]))] o))
 (hv:eR X.n (enV X.n) o=some (.pointer (some ⟨it,0,none⟩)):=by kernel_rfl)(hB:dL [i] o=some [(it,uo r ck (seen++[e.born]))]:=by kernel_rfl):J X o:=by
 refine jS (Φ:=fun w L'=>w= .tuple ⟨[kv k,v]⟩∧L'=[(it,uo r ck (seen++[e.born]))]) [i] _ hv hB (fun p en hf=>?_) (fun w L' pQ=>?_)
 ·unfold enV at hf
  split at hf<;>try (cases hf;done)
  rename_i x ax
  refine⟨by rw[ax];simp,fun R Q E hQ=>?_⟩
  simp only[execOp,ax,Instr.entry,aa,aF hf]
  have hs:(⟨X.ro,[(it,uo r ck (seen++[e.born]))]++R⟩:St).rw=[]++(it,uo r ck (seen++[e.born]))::R:=rfl
  refine cD (o:=uo r ck (seen++[e.born])) (.inr (by rw[hs];exact fg)) rfl rfl ?_
  have rH:(⟨seen++[e.born]⟩:Array Nat).back?=some e.born:=by simp[Array.back?]
  simp only[uo,rH,aa]
  refine cD (.inl hm) rfl rfl ?_
  have hfe:es.find? (fun x=>x.born==e.born)=some e:=by
   rcases es with ⟨l⟩
   have hel:e∈l:=(List.mem_filter.1 he).1
   have lQ:(l.map (·.born)).Nodup:=hE.2.1
   simp only[List.find?_toArray]
   clear hm hE he hj hv hB hs hQ
   induction l with
   |nil=>cases hel
   |cons y l ih=>
    simp only[List.map_cons,List.nodup_cons,List.mem_map,not_exists,not_and] at lQ
    rcases List.mem_cons.1 hel with rfl|h
    ·simp
    have:y.born≠e.born:=fun h2=>lQ.1 e h h2.symm
    rw[List.find?_cons_of_neg (by simpa using this)]
    exact ih h lQ.2
  simp only[bne_self_eq_false,Bool.false_eq_true,if_false,hfe,ae,aa]
  exact hQ _ _ ⟨by rw[hk,hvl],rfl⟩
 obtain⟨rfl,rfl⟩:=pQ
 exact hj
end
theorem T6{kv:κ→Value}{F:List (κ×Value)}{es:Array MapEntry}(hE:sY kv F es ck){e x:MapEntry}(he:e∈cI es seen)(hx:x∈cI es seen):x=e∨x∈cI es (seen++[e.born]):=by
 by_cases h:x.born=e.born
 ·left
  have lQ:=hE.2.1
  have h1:=(List.mem_filter.1 he).1
  have h2:=(List.mem_filter.1 hx).1
  generalize es.toList=l at lQ h1 h2
  induction l with
  |nil=>cases h1
  |cons y l ih=>
   simp only[List.map_cons,List.nodup_cons,List.mem_map,not_exists,not_and] at lQ
   rcases List.mem_cons.1 h1 with k1|k1
   ·rcases List.mem_cons.1 h2 with k2|k2
    ·rw[k1,k2]
    exact absurd (by rw[h,k1]) (lQ.1 x k2)
   rcases List.mem_cons.1 h2 with k2|k2
   ·exact absurd (by rw[←h,k2]) (lQ.1 e k1)
   exact ih lQ.2 k1 k2
 exact .inr (aad.2 ⟨hx,h⟩)
def msV(P:Program)(n:Nat)(p:Oper)(e:Env):Option (TypeId×List Value):=match p.op with
 | .makeSlice T x y=>match aZ P T with
  |some ⟨.slice E,_,_,_⟩=>match aZ P E with
   |some te=>match bp n e x,bp n e y with
    |some (.int .i64 a),some (.int .i64 b)=>bif (decide (a=2)&&decide (b=2))&&(Nat.beq te.size 1&&Nat.ble (th P E) 65536) then some (E,te.zero) else none
    |_,_=>none
   |none=>none
  |_=>none
 |_=>none
theorem jmS{E:TypeId}{z:Value}(hj:∀b,J X (mL [] (.slice (some ⟨b,0,none⟩) 2 2) [(b,.cells ⟨[z,z]⟩ E (0,0))] o))(hv:eR X.n (msV X.P X.n) o=some (E,[z]):=by kernel_rfl)(hB:dL [] o=some []:=by kernel_rfl):J X o:=by
 refine jS (Φ:=fun v L'=>∃b,v= .slice (some ⟨b,0,none⟩) 2 2∧L'=[(b,.cells ⟨[z,z]⟩ E (0,0))]) [] [] hv hB (fun p e hf=>?_) (fun v L' pQ=>?_)
 ·unfold msV at hf
  split at hf<;>try (cases hf;done)
  rename_i T x y ax
  split at hf<;>try (cases hf;done)
  rename_i E' _ _ _ dJ
  split at hf<;>try (cases hf;done)
  rename_i te tO
  split at hf<;>try (cases hf;done)
  rename_i a b hx hy
  cases hc:((decide (a=2)&&decide (b=2))&&(Nat.beq te.size 1&&Nat.ble (th X.P E') 65536)) with
  |false=>rw[hc] at hf;cases hf
  |true=>
   rw[hc] at hf
   simp only[cond_true,Option.some.injEq,Prod.mk.injEq] at hf
   obtain⟨rfl,hz⟩:=hf
   simp only[Bool.and_eq_true,decide_eq_true_eq,Nat.beq_eq,Nat.ble_eq] at hc
   obtain⟨⟨rfl,rfl⟩,uI,hby⟩:=hc
   obtain⟨byT,tf⟩:=av dJ
   obtain⟨bB,jH⟩:=av tO
   obtain⟨i,hi,hi1,QV,hi3⟩:=jH.info
   have am8:bB≤65536:=by simp only[th,hi] at hby;omega
   have avL:¬((bB:Int)*2>2^48):=by omega
   have w2:IntKind.i64.wrap 2=2:=j6 2 (by omega)
   have iD:(OO [z] te.agg).cells=⟨[z]⟩:=by rw[←hz];exact dV jH
   have He:((Array.range ((2:Int).toNat*1)).map fun x=>(⟨[z]⟩:Array Value)[x % (⟨[z]⟩:Array Value).size]!)=⟨[z,z]⟩:=by apply Array.ext';simp[Nat.mod_one,List.range,List.range.loop]
   refine⟨by rw[ax];simp,fun R Q E hQ=>?_⟩
   simp only[execOp,ax,Instr.makeSlice,aF hx,aF hy,asInt,asIntOf,aa,a8 tf,ae,mZ hi,QV,w2,avL,show ¬((2:Int) <0) by omega,show ¬((2:Int)>2) by omega,decide_false,Bool.or_self,Bool.false_eq_true,if_false]
   refine si ?_
   simp only[aa,cd jH,uI,show ¬((2:Int).toNat*1=0) by decide,if_false,jN jH,ae,hz,iD,He,iX]
   intro b hb
   exact hQ _ _ ⟨b,rfl,rfl⟩
 obtain⟨b,rfl,rfl⟩:=pQ
 exact hj b
def an2(body:Code):Option JS→Option (JS×Nat)
 |some ⟨.fin .normal,e,.b c oc:: .b b (.loop r)::w,kn⟩=>match r.state with
  | .ready=>some (⟨.code body [],e,.b c oc:: .b b (.loop {r with state:= .busy})::w,kn⟩,b)
  |_=>none
 |_=>none
theorem aBW(h:J (X.re bl ro Φ) (Eo (an2 body o)))(h1:Td (an2 body o)=some bl:=by kernel_rfl):J (X.rd bl ro Φ body) o:=by
 unfold an2 at h h1
 split at h<;>try (unfold Eo at h;exact h.elim)
 rename_i e c oc b r w kn
 split at h<;>try (unfold Eo at h;exact h.elim)
 rename_i bS
 unfold Td at h1
 unfold Eo at h
 simp only[bS,Option.some.injEq] at h1
 subst h1
 intro bV
 have hw:=h bV
 simp only[JP,Cx.rd,H2,CL]
 refine⟨[(c,oc)],r,den w,by rw[iv,iv];rfl,bS,?_⟩
 simp only[JP,iv] at hw
 exact hw
theorem aBT{hm:P.follows .mixedOrders=true}(own:List Sg)(kn:Cells)(hk:Knows ro kn)(h:J (XM P hm f ro R) (jo P f args own kn)):Fn (CP P) P f ⟨args⟩ ⟨ro,den own⟩ R:=by
 unfold jo at h
 split at h<;>try exact h.elim
 rename_i fn hf
 split at h<;>try exact h.elim
 rename_i c hc
 cases hl:Nat.ble args.length fn.ntmps with
 |false=>rw[hl] at h;exact h.elim
 |true=>
  rw[hl] at h
  have ur:qh P f=fn:=by simp only[qh,hf]
  have:=h hk
  simp only[JP,XM,KQ,ur] at this
  refine KX eJ hf hc ?_
  have he:=kz args fn.ntmps (Nat.le_of_ble_eq_true hl)
  rw[←he] at this
  exact this
section
variable {X:Cx} {o:Option JS}
theorem aLF(hq:QM X R tY)(v:Value)(pm hs ps:List Nat)(Y:Cells)(fw:Sub oU X.ro)(hR:R (.returned v) ⟨oU,Y⟩)(h0:dL pm o=some (mk tY):=by kernel_rfl)(h1:qF (gZ X.P X.n X.fn hs (Ct pm o))=some v:=by kernel_rfl)(h2:OL (gZ X.P X.n X.fn hs (Ct pm o))=OJ (gZ X.P X.n X.fn hs (Ct pm o)):=by kernel_rfl)(h3:dL ps (Ct pm o)=some Y:=by kernel_rfl)(h4:yU o=true:=by kernel_rfl):J X o:=by
 obtain⟨ex,e,w,kn,rfl,hex⟩:=sR h4
 simp only[Ct,gZ] at h1 h2 h3
 cases hr:BA X.P X.n e (dA pm 0 w) kn.c hs (qh X.P X.fn).results.toList with
 |none=>simp only[hr,qF] at h1;cases h1
 |some x=>
  rcases x with ⟨vs,q⟩
  simp only[hr,qF,Option.some.injEq,OL,OJ] at h1 h2
  intro bV
  have rG:=tv bV hr (lR h2)
  have hp:=bH h3
  have EV:=Px (s0:=⟨oU,Y⟩) (R:=R) hex rG h1 (dI hp fw) hR
  have ht:bP X.P (results (qh X.P X.fn) (A X.n e X.D).tmps) ⟨X.ro,den (dA pm 0 w)⟩ (fun v s'=>∃s0,s0.le s'∧R (.returned v) s0) (fun _ _=>False):=by
   rcases hex with rfl|rfl<;>exact EV.2
  show X.Q ex (A X.n e X.D) ⟨X.ro,den w⟩
  rw[hq.q]
  have hm:∃tY rest,(A X.n e X.D).defers=tY.map dX∧(den w).Perm (mk tY++rest)∧bP X.P (results (qh X.P X.fn) (A X.n e X.D).tmps) ⟨X.ro,rest⟩ (fun v s'=>∃s0,s0.le s'∧R (.returned v) s0) (fun _ _=>False):=⟨tY,_,hq.d,bH h0,ht⟩
  rcases hex with rfl|rfl<;>exact hm
end
attribute [irreducible] mrV nmV enV uo msV an2
end Go.L
