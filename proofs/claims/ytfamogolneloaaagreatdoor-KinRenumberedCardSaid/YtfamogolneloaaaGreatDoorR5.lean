/- Part 5 of the proof. -/
import Derived.Test.YtfamogolneloaaaGreatDoorR4
set_option maxRecDepth 100000
set_option linter.all false
namespace Go.L
open Go Go.Conc
variable {Φ:Value→Cells→Prop} {P:Program} {R:Ending→St→Prop} {f g:FuncId} {todo seen uz:List Nat} {κ ι α β:Type} {El:(Nat→Option Obj)→Nat→List Value→Cells→Prop} {pK aG:Nat→Option Obj} {T:Goroutine→St→Prop} {vs ca args z l fi:List Value} {o o1:Option JS} {i n r bl sz bC bd off b id ck dep N q it:Nat} {k zu:List Item} {s s':St} {ats:Array TypeId} {X:Cx} {tm:Array Value} {cs:List Frame} {fn:Func} {C:Class} {main ag:Bool} {fz:Nat×Nat} {rest e:Env} {as body:Code} {x y:Operand} {p:Oper} {fr:Cells} {t U:TypeId}
section
variable {X:Cx} {o:Option JS}
def nxV(n:Nat)(p:Oper)(e:Env):Option Nat:=match p.op with
 | .next x true=>match bn n e x with
  |some (.pointer (some ⟨r,0,none⟩))=>some r
  |_=>none
 |_=>none
theorem aeh(h:nxV n p e=some r):∃x,p.op= .next x true∧bn n e x=some (.pointer (some ⟨r,0,none⟩)):=by
 unfold nxV at h
 split at h<;>try (cases h;done)
 rename_i aA
 split at h<;>try (cases h;done)
 rename_i hx
 cases h
 exact⟨_,aA,hx⟩
def Te(i:Nat)(v:Value)(b:Nat)(ob:Obj):Option JS→Option JS
 |some ⟨.ops ops (j::todo) k,e,w,kn⟩=>match ops[j]? with
  |some p=>some ⟨.ops ops todo k,upd p.dst v e,.b b ob::dF [i] 0 w,kn⟩
  |none=>none
 |_=>none
theorem jnA{b:ByteArray}{p:Nat}{c:UInt8}(r i:Nat)(hp:b.data.toList[p]?=some c) (ha:c.toNat <128) (hj:J X (Te i (.tuple ⟨[.bool true,.int .i64 p,.int .i32 c.toNat]⟩) r (.stringIter b (p+1)) o))
 (hv:fq X.n (nxV X.n) o=some r:=by kernel_rfl) (hB:ei [i] o=some [(r,.stringIter b p)]:=by kernel_rfl):J X o:=by
 obtain⟨ops,i0,todo,kk,ev,w0,kn,q,rfl,ho,hw,hc⟩:=dB hv
 obtain⟨x,aA,hx⟩:=aeh hc
 intro bW
 rcases q with ⟨dst,op,ty,pos,c8,g⟩
 dsimp only at aA;subst aA
 refine vP X.hC (bI hB) (alx X.hC ho hw hx hp ha ?_)
 simp only[Te,ho] at hj
 have:=hj bW
 simp only[JP,iQ] at this
 exact this
theorem jnZ{b:ByteArray}{p:Nat}(r i:Nat)(hp:b.data.toList[p]?=none) (hj:J X (Te i (.tuple ⟨[.bool false]⟩) r (.stringIter b p) o))
 (hv:fq X.n (nxV X.n) o=some r:=by kernel_rfl) (hB:ei [i] o=some [(r,.stringIter b p)]:=by kernel_rfl):J X o:=by
 obtain⟨ops,i0,todo,kk,ev,w0,kn,q,rfl,ho,hw,hc⟩:=dB hv
 obtain⟨x,aA,hx⟩:=aeh hc
 intro bW
 rcases q with ⟨dst,op,ty,pos,c8,g⟩
 dsimp only at aA;subst aA
 refine vP X.hC (bI hB) (alw X.hC ho hw hx hp ?_)
 simp only[Te,ho] at hj
 have:=hj bW
 simp only[JP,iQ] at this
 exact this
theorem jcG{own:Cells}{Φ:Value→(Nat→Option Obj)→Cells→Prop}(ps:List Nat)(hf:FnG X.P f vs X.ro own Φ)(hj:∀v aG Y,Sub X.ro aG→Φ v aG Y→J (X.at aG) (nv ps v Y o))(h1:fq X.n (yn X.P X.n) o=some (f,vs):=by kernel_rfl)(h2:ei ps o=some own:=by kernel_rfl):J X o:=by
 obtain⟨ops,i,todo,k,e,w,kn,p,rfl,ho,hw,hc⟩:=dB h1
 obtain⟨ff,x,xs,at_,fi,ca,ws,aA,hx,r8,rfl⟩:=qL hc
 intro bW
 rcases p with ⟨dst,op,ty,pos,c8,g⟩
 dsimp only at aA;subst aA
 have hp:=bI h2
 refine ud (fi:=⟨fi⟩) (ca:=⟨ca⟩) (ws:=fi++ws++ca) X.hC ho hw hx ff r8 (R6 fi ws ca) (Fn.weaken X.hC (FnG.use (s:=⟨X.ro,den w⟩) hp hf)) (fun v' s' hr=>?_) (fun ch s' hr=>by obtain⟨_,_,_,e,_⟩:=hr;cases e) (fun s' hr=>by obtain⟨_,_,_,e,_⟩:=hr;cases e)
 obtain⟨v,aG,Y,hv,hs,qt,hle⟩:=hr
 cases hv
 have:=hj _ aG Y hs qt
 rw[ou ho] at this
 have:=this (bW.up hs)
 simp only[JP,gF,Im] at this
 exact this.more X.hC hle
def aid(n:Nat)(p:Oper)(e:Env):Option (FuncId×List Value):=match p.op with
 | .call ⟨.value (.func f),xs,_⟩=>match xU n e xs.toList with
  |some vs=>some (f,vs)
  |none=>none
 |_=>none
theorem NH(h:aid n p e=some (f,vs)):∃xs at_,p.op= .call ⟨.value (.func f),xs,at_⟩∧xU n e xs.toList=some vs:=by
 unfold aid at h
 split at h<;>try (cases h;done)
 rename_i aA
 split at h<;>try (cases h;done)
 rename_i hx
 cases h
 exact⟨_,_,aA,hx⟩
theorem jib{a:ByteArray}{b:Int}(ef:EF X.P f Extern.BytealgIndexByte.indexByte)(hj:J X (kp (.int .i64 (Qt a b.toNat.toUInt8)) o))(hv:dI X.n (aid X.n) o=some (f,[.string a,.int .u8 b]):=by kernel_rfl):J X o:=by
 refine jGS hv (fun s p e _ hf=>?_) hj
 obtain⟨xs,at_,aA,hx⟩:=NH hf
 rcases p with ⟨dst,op,ty,pos,c8,g⟩
 dsimp only at aA;subst aA
 exact⟨fun ops i tj rest hw s' hs todo Q hk=>aeb X.hC tj hw ef (xy hx) hk,fun hk=>by cases hk⟩
theorem aP4{v:Value}(ef:EF X.P f Extern.AbiNoEscape.same)(hj:J X (kp v o))(hv:dI X.n (aid X.n) o=some (f,[v]):=by kernel_rfl):J X o:=by
 refine jGS hv (fun s p e _ hf=>?_) hj
 obtain⟨xs,at_,aA,hx⟩:=NH hf
 rcases p with ⟨dst,op,ty,pos,c8,g⟩
 dsimp only at aA;subst aA
 exact⟨fun ops i tj rest hw s' hs todo Q hk=>alv X.hC tj hw ef (xy hx) hk,fun hk=>by cases hk⟩
def mmV(n:Nat)(p:Oper)(e:Env):Option (Bool×Value×Value):=match p.op with
 | .call ⟨.builtin .min,⟨[x,y]⟩,⟨[_,_]⟩⟩=>match bn n e x with
  |some v=>match bn n e y with
   |some w=>some (true,v,w)
   |none=>none
  |none=>none
 | .call ⟨.builtin .max,⟨[x,y]⟩,⟨[_,_]⟩⟩=>match bn n e x with
  |some v=>match bn n e y with
   |some w=>some (false,v,w)
   |none=>none
  |none=>none
 |_=>none
theorem jmn{k:IntKind}{a b:Int}(hj:J X (kp (.int k (min a b)) o))(hv:dI X.n (mmV X.n) o=some (true,.int k a,.int k b):=by kernel_rfl):J X o:=by
 refine So hv (fun s p e _ hf=>?_) hj
 unfold mmV at hf
 split at hf<;>try (cases hf;done)
 ·rename_i aA
  split at hf<;>try (cases hf;done)
  rename_i hx
  split at hf<;>try (cases hf;done)
  rename_i hy
  cases hf
  rcases p with ⟨dst,op,ty,pos,c8,g⟩
  dsimp only at aA;subst aA
  exact fun s0 ops i tj rest hw s' hs todo Q hk=>asK X.hC tj hw (bh hx) (bh hy) hk
 split at hf<;>try (cases hf;done)
 split at hf<;>cases hf
theorem jmx{k:IntKind}{a b:Int}(hj:J X (kp (.int k (max a b)) o))(hv:dI X.n (mmV X.n) o=some (false,.int k a,.int k b):=by kernel_rfl):J X o:=by
 refine So hv (fun s p e _ hf=>?_) hj
 unfold mmV at hf
 split at hf<;>try (cases hf;done)
 ·split at hf<;>try (cases hf;done)
  split at hf<;>cases hf
 rename_i aA
 split at hf<;>try (cases hf;done)
 rename_i hx
 split at hf<;>try (cases hf;done)
 rename_i hy
 cases hf
 rcases p with ⟨dst,op,ty,pos,c8,g⟩
 dsimp only at aA;subst aA
 exact fun s0 ops i tj rest hw s' hs todo Q hk=>asL X.hC tj hw (bh hx) (bh hy) hk
theorem jsx(i b off:Nat)(c l:List Value)(t:TypeId)(h1:∀v∈l,single v=true)(hb:Nat.ble (off+l.length) c.length=true)(hj:J X (Te i undef b (.cells ⟨dC c off l⟩ t (0,0)) o))(hv:fq X.n (akO X.P X.n) o=some (⟨b,off,none⟩,l,l.length):=by kernel_rfl)(h2:ei [i] o=some [(b,.cells ⟨c⟩ t (0,0))]:=by kernel_rfl):J X o:=by
 obtain⟨ops,i0,todo,kk,ev,w,kn,p,rfl,ho,hw,hc⟩:=dB hv
 obtain⟨T,x,y,d,bC,z,ag,u,aA,tf,hx,hy,hu⟩:=Wl hc
 intro bW
 rcases p with ⟨dst,op,ty,pos,c8,g⟩
 dsimp only at aA;subst aA
 refine vP X.hC (bI h2)<|ost X.hC ho hw tf hx hy hu rfl h1 (Nat.le_of_ble_eq_true hb) ?_
 simp only[Te,ho] at hj
 have:=hj bW
 simp only[JP,iQ] at this
 exact this
def aiV(P:Program)(n:Nat)(p:Oper)(e:Env):Option (List Value×Int×Nat×Nat×Bool):=match p.op with
 | .index T x y=>match aY P T with
  |some ⟨.array len E,_,_,_⟩=>match aY P E with
   |some te=>match bn n e x with
    |some (.agg ⟨l⟩)=>match bn n e y with
     |some (.int _ ix)=>some (l,ix,len,te.size,te.agg)
     |_=>none
    |_=>none
   |none=>none
  |_=>none
 |_=>none
theorem jai{v:Value}(ix:Int)(len sz:Nat)(ag:Bool)(hi:0≤ix∧ix <len)(hp:Gk ag l (ix.toNat*sz) sz=some v)(hj:J X (kp v o))(hv:dI X.n (aiV X.P X.n) o=some (l,ix,len,sz,ag):=by kernel_rfl):J X o:=by
 refine So hv (fun s p e _ hf=>?_) hj
 unfold aiV at hf
 split at hf<;>try (cases hf;done)
 rename_i aA
 split at hf<;>try (cases hf;done)
 rename_i dV
 split at hf<;>try (cases hf;done)
 rename_i te ui
 split at hf<;>try (cases hf;done)
 rename_i hx
 split at hf<;>try (cases hf;done)
 rename_i hy
 cases hf
 obtain⟨b1,tf⟩:=av dV
 obtain⟨b2,qT⟩:=av ui
 rcases p with ⟨dst,op,ty,pos,c8,g⟩
 dsimp only at aA;subst aA
 exact fun s0 ops i tj rest hw s' hs todo Q hk=>aec X.hC tj hw tf qT (bh hx) (bh hy) hi hp hk
def A8(m:Nat)(e:Env):Option JS→Option JS
 |some ⟨.ops ops todo k,_,w,kn⟩=>some ⟨.ops ops (todo.drop m) k,e,w,kn⟩
 |_=>none
theorem jj(m:Nat)(e:Env)(hj:∀rest,J X (A8 m (e++rest) o))(h:(∀o',A8 0 [] o'=A8 m [] o→uM (pF e) o'=some e→J X o')→J X o)(hd:lkE (pF e) e=some e:=by kernel_rfl):J X o:=by
 refine h fun o' h1 h2=>?_
 cases o' with
 |none=>simp[uM] at h2
 |some s'=>
  rcases s' with ⟨p',e',w',kn'⟩
  cases o with
  |none=>exact(hj []).elim
  |some s=>
   rcases s with ⟨p,e0,w,kn⟩
   cases p' with
   |ops bdr acA k'=>
    cases p with
    |ops ops todo k=>
     simp only[A8,Option.some.injEq,JS.mk.injEq,Pos.ops.injEq,List.drop_zero,true_and] at h1
     obtain⟨⟨rfl,rfl,rfl⟩,rfl,rfl⟩:=h1
     rw[tb] at h2
     obtain⟨r,hr⟩:=gq (n:=X.n) (D:=X.D) (kO h2) (kO hd)
     intro bW
     have:=hj r bW
     show ab _ _ _ _ _ _ (A X.n e' X.D) _
     rw[hr]
     exact this
    |_=>simp[A8] at h1
   |_=>cases p<;>simp[A8] at h1<;>exact(hj []).elim
end
attribute [irreducible] A8 Te
section
variable {X:Cx} {o:Option JS}
def as2(i:Nat)(rest:Env)(todo:List Nat):Option JS→Option JS
 |some ⟨.HM ops base Pl _ k,_,w,kn⟩=>some ⟨.ops ops (i::todo) k,cq ops base i Pl++rest,w,kn⟩
 |_=>none
def LK(X:Cx)(i:Nat)(o:Option JS)(rest:Env)(todo:List Nat):Prop:=match o with
 |some ⟨.HM ops base Pl Sl k,_,w,kn⟩=>∀v s',(∀j u,(j,u)∈pending ops i Sl→sV ops X.n base Pl j=false→(∀B,(j,B)∈kn.nd→Ext ⟨X.ro,[]⟩ s'→(∀x∈B,s'.has x.1 x.2)→eT X.C X.fn X.aB ops X.n X.D j u (cq ops base j Pl) s')→eT X.C X.fn X.aB ops X.n X.D j u (cq ops base j Pl) ⟨X.ro,den w⟩→eT X.C X.fn X.aB ops X.n X.D j u (cq ops base j Pl) s')→
  (PF X kn.nd ops base ((i,v)::Pl) (pending ops i Sl)→tF X.C X.fn X.aB ops X.n X.D base ((i,v)::Pl) (pending ops i Sl) (KQ X k) s')→ab X.C X.fn X.aB ops todo (KQ X k) (A X.n (upd (aQ ops i) v (cq ops base i Pl++rest)) X.D) s'
 |_=>True
def Xd(is:List Nat):Option JS→Bool
 |some ⟨.HM ops _ Pl Sl _,_,_,_⟩=>fL ops&&((is.all fun i=>Nat.blt i ops.size&& !a8 i (ak Pl))&&(nodupB (ak Pl)&&(pe ops (ak Pl)&&(fM (ak Sl) (ak Pl)&&(ad5 ops (ak Pl) is&& !is.isEmpty)))))
 |_=>false
def ajn(X:Cx)(o:Option JS):List Nat→Prop
 | []=>True
 |i::is=>(∀rest todo,LK X i o rest todo→J X (as2 i rest todo o))∧ajn X o is
theorem nj(is:List Nat)(h:ajn X o is)(hb:Xd is o=true:=by kernel_rfl):J X o:=by
 unfold Xd at hb
 split at hb<;>try (cases hb;done)
 rename_i ops base Pl Sl k e w kn
 simp only[Bool.and_eq_true,Bool.not_eq_true'] at hb
 obtain⟨h1,h2,h3,h4,h5,h6,h7⟩:=hb
 intro bW hpf
 refine abn is h1 h2 h3 h4 h5 h6 ?_ h7
 clear h6 h7
 induction is with
 |nil=>trivial
 |cons i is ih=>
  simp only[List.all_cons,Bool.and_eq_true,Bool.not_eq_true'] at h2
  refine⟨fun rest todo hk=>h.1 rest todo (fun v s' hp ha=>?_) bW,ih h.2 h2.2⟩
  have jv:∀x,x∈pending ops i Sl→x∈Sl:=fun x hx=>(List.mem_filter.1 hx).1
  refine hk v s' (fun j u IA bU=>?_) (ha ⟨fun j u IA hpb s0=>?_,fun j u B IA hB s0 GU u9=>?_⟩)
  ·cases hpb:sV ops X.n base Pl j with
   |true=>exact hpf.1 j u (jv _ IA) hpb s'
   |false=>exact hp j u IA hpb (fun B hB hx hb=>hpf.2 j u B (jv _ IA) hB s' hx hb) bU
  ·have Oz:j∈ak Sl:=aP.2 ⟨u,jv _ IA⟩
   have qR:i∉bp ops j:=fun hd=>by
    have h8:=bM.1 h5 j Oz
    have h9:=bM.1 (List.all_eq_true.1 h4 j h8) i hd
    rw[aJ.2 h9] at h2;exact absurd h2.1.2 (by simp)
   rw[cT qR]
   exact hpf.1 j u (jv _ IA) (by simp only[sV,cT qR] at hpb;exact hpb) s0
  have Oz:j∈ak Sl:=aP.2 ⟨u,jv _ IA⟩
  have qR:i∉bp ops j:=fun hd=>by
   have h8:=bM.1 h5 j Oz
   have h9:=bM.1 (List.all_eq_true.1 h4 j h8) i hd
   rw[aJ.2 h9] at h2;exact absurd h2.1.2 (by simp)
  rw[cT qR]
  exact hpf.2 j u B (jv _ IA) hB s0 GU u9
theorem aL(i:Nat)(h:∀rest todo,LK X i o rest todo→J X (as2 i rest todo o))(hb:Xd [i] o=true:=by kernel_rfl):J X o:=nj [i] ⟨h,trivial⟩ hb
def Vz(i:Nat):Option JS→Option JS→Option JS
 |some ⟨.HM ops base Pl Sl k,e,_,kn⟩,some ⟨.ops _ _ _,e',w',kn'⟩=>some ⟨.HM ops base ((i,match aQ ops i with
  |some d=>(gY e' d).getD undef
  |none=>undef)::Pl) (pending ops i Sl) k,e,w',⟨kn'.c,kn.nd⟩⟩
 |_,_=>none
def bkL(i:Nat)(rest:Env)(todo:List Nat):Option JS→Option JS→Option JS
 |some ⟨.HM ops base Pl _ k,_,_,_⟩,some ⟨_,e',w',kn'⟩=>some ⟨.ops ops todo k,upd (aQ ops i) (match aQ ops i with
  |some d=>(gY e' d).getD undef
  |none=>undef) (cq ops base i Pl++rest),w',kn'⟩
 |_,_=>none
theorem Vv(h:bkL i rest todo o o1=o1)(h1:o1≠none):∃ops base Pl Sl k e w kn v w' kn',o=some ⟨.HM ops base Pl Sl k,e,w,kn⟩∧o1=some ⟨.ops ops todo k,upd (aQ ops i) v (cq ops base i Pl++rest),w',kn'⟩:=by
 unfold bkL at h
 split at h
 ·simp only[Option.some.injEq,JS.mk.injEq] at h
  obtain⟨rfl,h,_⟩:=h
  exact⟨_,_,_,_,_,_,_,_,_,_,_,rfl,by rw[h]⟩
 exact(h1 h.symm).elim
def rwO:Option JS→List Sg
 |some s=>s.rw
 |none=>[]
theorem bB(hK:LK X i o rest todo)(is:List Nat)(hj:J X (Vz i o o1))(hc:bkL i rest todo o o1=o1:=by kernel_rfl)(h2:rh is o1=some (rwO o):=by kernel_rfl):J X o1:=by
 by_cases dX:o1=none
 ·subst dX
  cases o with
  |none=>exact hj
  |some s=>rcases s with ⟨p,e,w,kn⟩;cases p<;>exact hj
 obtain⟨ky,base,Pl,Sl,k,e,w,kn,v,w',kn',rfl,rfl⟩:=Vv hc dX
 intro bW
 have hp:=lS h2
 have hv:(match aQ ky i with
  |some d=>(gY (upd (aQ ky i) v (cq ky base i Pl++rest)) d).getD undef
  |none=>undef)=v∨aQ ky i=none:=by
  cases hd:aQ ky i with
  |none=>exact .inr rfl
  |some d=>left;simp[upd,gY]
 have hj:=hj bW
 simp only[Vz,JP] at hj
 have key:=hK (match aQ ky i with
  |some d=>(gY (upd (aQ ky i) v (cq ky base i Pl++rest)) d).getD undef
  |none=>undef) ⟨X.ro,den w'⟩ (fun j u _ _ _ hs=>hs.ext fun b ob hb=>?_) hj
 ·show ab _ _ _ _ _ _ _ _
  rcases hv with hv|hv
  ·rw[hv] at key;exact key
  rw[hv] at key ⊢;exact key
 rcases hb with hb|hb
 ·exact .inl hb
 exact .inr (hp.mem_iff.2 (List.mem_append_left _ hb))
def adQ(i:Nat):Option JS→Bool
 |some ⟨.HM ops _ _ Sl _,_,_,_⟩=>(pending ops i Sl).isEmpty
 |_=>false
theorem dZ(hK:LK X i o rest todo)(hj:J X (Vz i o o1))(hc:bkL i rest todo o o1=o1:=by kernel_rfl)(h2:adQ i o=true:=by kernel_rfl):J X o1:=by
 by_cases dX:o1=none
 ·subst dX
  cases o with
  |none=>exact hj
  |some s=>rcases s with ⟨p,e,w,kn⟩;cases p<;>exact hj
 obtain⟨ky,base,Pl,Sl,k,e,w,kn,v,w',kn',rfl,rfl⟩:=Vv hc dX
 intro bW
 have hv:(match aQ ky i with
  |some d=>(gY (upd (aQ ky i) v (cq ky base i Pl++rest)) d).getD undef
  |none=>undef)=v∨aQ ky i=none:=by
  cases hd:aQ ky i with
  |none=>exact .inr rfl
  |some d=>left;simp[upd,gY]
 have hj:=hj bW
 simp only[Vz,JP] at hj
 have hpe:pending ky i Sl=[]:=by simpa [adQ] using h2
 have key:=hK (match aQ ky i with
  |some d=>(gY (upd (aQ ky i) v (cq ky base i Pl++rest)) d).getD undef
  |none=>undef) ⟨X.ro,den w'⟩ (fun j u IA=>by rw[hpe] at IA;cases IA) hj
 show ab _ _ _ _ _ _ _ _
 rcases hv with hv|hv
 ·rw[hv] at key;exact key
 rw[hv] at key ⊢;exact key
def ndG:List (Nat×Cells)→Nat→Option Cells
 | [],_=>none
 | (i,B)::l,j=>bif Nat.beq i j then some B else ndG l j
theorem WZ{j:Nat}{B:Cells}:∀ {l:List (Nat×Cells)},ndG l j=some B→(j,B)∈l
 | (i,C)::l,h=>by
  simp only[ndG] at h
  cases hb:Nat.beq i j with
  |true=>
   rw[hb] at h;simp only[cond_true,Option.some.injEq] at h;subst h
   have:=Nat.eq_of_beq_eq_true hb;subst this
   exact List.mem_cons_self
  |false=>rw[hb] at h;simp only[cond_false] at h;exact List.mem_cons_of_mem _ (WZ h)
structure Rk where
 a:List Value
 b:List Value
 c:List (Option Cells)
 d:List (Option Cells)
def aHu(ps:List Nat)(w:List Sg):Option Cells:=bif Gr ps then (match PE ps w with
 |some x=>some (den x)
 |none=>none) else none
def rkL(P:Program)(n:Nat)(ops:Array Oper)(base:Env)(Pl:List (Nat×Value))(nd:List (Nat×Cells))(w:List Sg)(kn:Cells):List (List Nat)→List (Nat×Value)→Option Rk
 |_,[]=>some ⟨[],[],[],[]⟩
 |hs,(j,u)::r=>bif sV ops n base Pl j then rkL P n ops base Pl nd w kn hs r else (match hs with
  |h::hs=>match ndG nd j with
   |some B=>match rkL P n ops base Pl nd w kn hs r with
    |some ⟨a,b,c,d⟩=>some ⟨a,b,aHu h w::c,some B::d⟩
    |none=>none
   |none=>match ops[j]? with
    |some p=>match wA ops n (cq ops base j Pl) p.guard with
     |some true=>match p.op with
      | .load T x=>match bn n (cq ops base j Pl) x with
       |some (.pointer (some ⟨b,off,none⟩))=>match Bf w kn (h.headD 0) with
        |some (b',l)=>match ldv P T l off with
         |some v=>match rkL P n ops base Pl nd w kn hs r with
          |some ⟨a1,b1,c,d⟩=>some ⟨v:: .int .i64 b'::a1,u:: .int .i64 b::b1,c,d⟩
          |none=>none
         |none=>none
        |none=>none
       |_=>none
      |_=>none
     |_=>none
    |none=>none
  | []=>none)
theorem Mn{ops:Array Oper}{base:Env}{Pl:List (Nat×Value)}{nd:List (Nat×Cells)}{w:List Sg}{kn:Cells}(bW:Knows X.ro kn):∀ {l:List (Nat×Value)} {hs:List (List Nat)} {k:Rk},rkL X.P X.n ops base Pl nd w kn hs l=some k→k.a=k.b→k.c=k.d→∀j u,(j,u)∈l→sV ops X.n base Pl j=false→
 (∀B,(j,B)∈nd→Ext ⟨X.ro,[]⟩ ⟨X.ro,den w⟩→(∀x∈B,(⟨X.ro,den w⟩:St).has x.1 x.2)→eT X.C X.fn X.aB ops X.n X.D j u (cq ops base j Pl) ⟨X.ro,den w⟩)→eT X.C X.fn X.aB ops X.n X.D j u (cq ops base j Pl) ⟨X.ro,den w⟩
 | [],_,_,_,_,_,j,u,h,_,_=>by cases h
 | (j0,u0)::r,hs,k,h,BA,hcd,j,u,hm,hpj,mo=>by
  simp only[rkL] at h
  cases hpb:sV ops X.n base Pl j0 with
  |true=>
   rw[hpb] at h;simp only[cond_true] at h
   rcases List.mem_cons.1 hm with h1|h1
   ·cases h1;rw[hpb] at hpj;cases hpj
   exact Mn bW h BA hcd j u h1 hpj mo
  |false=>
   rw[hpb] at h;simp only[cond_false] at h
   split at h<;>try (cases h;done)
   rename_i h0 bY
   split at h
   ·rename_i B hB
    split at h<;>try (cases h;done)
    rename_i a b c d hr
    cases h
    simp only[List.cons.injEq] at hcd
    rcases List.mem_cons.1 hm with h1|h1
    ·cases h1
     refine mo B (WZ hB) NG fun x hx=> .inr ?_
     have hw:=hcd.1
     unfold aHu at hw
     cases ho:Gr h0 with
     |false=>rw[ho] at hw;cases hw
     |true=>
      rw[ho] at hw;simp only[cond_true] at hw
      split at hw<;>try (cases hw;done)
      rename_i y hy
      simp only[Option.some.injEq] at hw;subst hw
      exact(xk hy ho).mem_iff.2 (List.mem_append_left _ hx)
    exact Mn bW hr BA hcd.2 j u h1 hpj mo
   split at h<;>try (cases h;done)
   rename_i p hp
   have EG:aQ ops j0=p.dst:=by simp only[aQ,hp,Option.bind_some]
   split at h<;>try (cases h;done)
   rename_i hg
   split at h<;>try (cases h;done)
   rename_i T x aA
   split at h<;>try (cases h;done)
   rename_i b0 off hx
   split at h<;>try (cases h;done)
   rename_i b' l hc
   split at h<;>try (cases h;done)
   rename_i v hv
   split at h<;>try (cases h;done)
   rename_i a1 b1 c d hr
   cases h
   simp only[List.cons.injEq,Value.int.injEq,true_and] at BA
   obtain⟨rfl,hb,BA⟩:=BA
   have hb:b'=b0:=by omega
   subst hb
   rcases List.mem_cons.1 hm with h1|h1
   ·cases h1
    obtain⟨t,fz,hh⟩:=zm (X:=X) bW hc
    intro s1 hx1 rest todo Q hk
    rw[EG] at hk
    exact lT X.hC hp rest (nU hg rest) (by rw[aA];rfl) (aeO aA hx hh hv) hx1 hk
   exact Mn bW hr BA hcd j u h1 hpj mo
def rkO(P:Program)(n i:Nat)(hs:List (List Nat)):Option JS→Option JS→Option Rk
 |some ⟨.HM ops base Pl Sl _,_,_,kn⟩,some s1=>rkL P n ops base Pl kn.nd s1.rw s1.kn.c hs (pending ops i Sl)
 |_,_=>none
def rkA:Option Rk→Option (List Value×List (Option Cells))
 |some k=>some (k.a,k.c)
 |none=>some ([],[])
def rkB:Option Rk→Option (List Value×List (Option Cells))
 |some k=>some (k.b,k.d)
 |none=>none
theorem iu(hK:LK X i o rest todo)(hs:List (List Nat))(hj:J X (Vz i o o1))(hc:bkL i rest todo o o1=o1:=by kernel_rfl)(h2:rkA (rkO X.P X.n i hs o o1)=rkB (rkO X.P X.n i hs o o1):=by kernel_rfl):J X o1:=by
 by_cases dX:o1=none
 ·subst dX
  cases o with
  |none=>exact hj
  |some s=>rcases s with ⟨p,e,w,kn⟩;cases p<;>exact hj
 obtain⟨ky,base,Pl,Sl,k,e,w,kn,v,w',kn',rfl,rfl⟩:=Vv hc dX
 intro bW
 have hv:(match aQ ky i with
  |some d=>(gY (upd (aQ ky i) v (cq ky base i Pl++rest)) d).getD undef
  |none=>undef)=v∨aQ ky i=none:=by
  cases hd:aQ ky i with
  |none=>exact .inr rfl
  |some d=>left;simp[upd,gY]
 have hj:=hj bW
 simp only[Vz,JP] at hj
 have bU:∀j u,(j,u)∈pending ky i Sl→sV ky X.n base Pl j=false→(∀B,(j,B)∈kn.nd→Ext ⟨X.ro,[]⟩ ⟨X.ro,den w'⟩→(∀x∈B,(⟨X.ro,den w'⟩:St).has x.1 x.2)→eT X.C X.fn X.aB ky X.n X.D j u (cq ky base j Pl) ⟨X.ro,den w'⟩)→eT X.C X.fn X.aB ky X.n X.D j u (cq ky base j Pl) ⟨X.ro,den w'⟩:=by
  simp only[rkO] at h2
  cases hr:rkL X.P X.n ky base Pl kn.nd w' kn'.c hs (pending ky i Sl) with
  |none=>rw[hr] at h2;cases h2
  |some x=>
   rw[hr] at h2
   simp only[rkA,rkB,Option.some.injEq,Prod.mk.injEq] at h2
   exact Mn bW hr h2.1 h2.2
 have key:=hK (match aQ ky i with
  |some d=>(gY (upd (aQ ky i) v (cq ky base i Pl++rest)) d).getD undef
  |none=>undef) ⟨X.ro,den w'⟩ (fun j u IA hpb hn _=>bU j u IA hpb hn) hj
 show ab _ _ _ _ _ _ _ _
 rcases hv with hv|hv
 ·rw[hv] at key;exact key
 rw[hv] at key ⊢;exact key
end
attribute [irreducible] rkO rkA rkB as2 Xd Vz bkL rwO adQ
abbrev RY(ro:Nat→Option Obj)(Φ:Value→Cells→Prop):Ending→St→Prop:=fun en s'=>∃v X,en= .returned v∧(⟨ro,X⟩:St).le s'∧Φ v X
theorem Round.mono{l:Nat}{bd:Code}{R':Ending→St→Prop}(h:Round C l f tm as bd s R)(hr:∀e s,R e s→R' e s):Round C l f tm as bd s R':=
 fun main T hT c cs k1 k2=>h main T hT c cs (fun v s' hv=>k1 v s' (hr _ _ hv)) (fun ch s' hv=>k2 ch s' (hr _ _ hv))
theorem Round.weaken{C':Class}(hc:∀main T,C' main T→C main T){l:Nat}{bd:Code}(h:Round C l f tm as bd s R):Round C' l f tm as bd s R:=
 fun main T hT=>h main T (hc main T hT)
theorem Round.frame{l:Nat}{bd:Code}{s1:St}{B:Cells}{ro:Nat→Option Obj}(hf:Round (CP P) l f tm as bd s1 R)(hB:∀x∈B,x∈fr)(hc:abA fr B ro s1 s):
 Round (CP P) l f tm as bd s (fun en s'=>∃yE,R en yE∧abA fr B ro yE s'):=
 fun main T hT c cs k1 k2=>hf main _ (AZ hT hB ro) c cs (fun v yE hv _ s' tq=>k1 v s' ⟨yE,hv,tq⟩) (fun ch yE hv _ s' tq=>k2 ch s' ⟨yE,hv,tq⟩) rfl s hc
def ab2(r:Loop)(vs:List Value):Array Value:=(r.params.zip ⟨vs⟩).foldl (fun tmps (x:Tmp×Value)=>tmps.setIfInBounds x.1 x.2) r.tmps
def YX(P:Program)(bl:Nat)(vs:List Value)(ro:Nat→Option Obj)(own:Cells)(Φ:Value→Cells→Prop):Prop:=
 ∃r,(bl,.loop r)∈own∧vs.length=r.params.size∧Round (CP P) bl r.fn (ab2 r vs) r.assign r.body ⟨ro,own⟩ (RY ro Φ)
theorem YX.use{ro:Nat→Option Obj}{own:Cells}(hy:YX P bl vs ro own Φ)(hs:Sub ro s.ro)(hp:s.rw.Perm (own++fr)){Q:Next→St→Prop}{E:Halt→St→Prop}
 (h:∀l f tm as bd,Round (CP P) l f tm as bd s (fun en s'=>∃v X,en= .returned v∧Φ v X∧(⟨s.ro,X++fr⟩:St).le s')→Q (.round l f tm as bd) s):bP P (Instr.yield bl ⟨vs⟩) s Q E:=by
 obtain⟨r,h1,h2,h3⟩:=hy
 simp only[Instr.yield,Instr.getLoop,aa]
 refine cG (o:= .loop r) (.inr (hp.mem_iff.2 (List.mem_append_left _ h1))) rfl rfl ?_
 have u5:¬(⟨vs⟩:Array Value).size≠r.params.size:=by simpa using h2
 simp only[ae,if_neg u5]
 refine h _ _ _ _ _ (Round.mono (Round.frame (fr:=fr) (B:=[]) (ro:=s.ro) (s:=s) h3 (fun _ h=>(by cases h)) ⟨hp,fun b o hb=> .inl (hs b o hb),Sub.refl _⟩) fun en s' DN=>?_)
 obtain⟨yE,⟨v,X,rfl,⟨R,hR1,hR2⟩,qt⟩,hc⟩:=DN
 refine⟨v,X,rfl,qt,R,?_,fun b o hb=> .inl (hc.keep b o hb)⟩
 refine hc.rw.trans ((hR1.append_right fr).trans ?_)
 simp only[List.append_assoc]
 exact List.Perm.append_left _ List.perm_append_comm
section
variable {X:Cx} {o:Option JS}
def aqQ(n:Nat)(p:Oper)(e:Env):Option (Nat×List Value):=match p.op with
 | .call ⟨.value x,xs,_⟩=>match bn n e x with
  |some (.func (.yield bl) ⟨[]⟩ ⟨[]⟩)=>match xU n e xs.toList with
   |some vs=>some (bl,vs)
   |none=>none
  |_=>none
 |_=>none
theorem jyc{own:Cells}(ps:List Nat)(hy:YX X.P bl vs pK own Φ)(fJ:Sub pK X.ro)(hj:∀v Y,Φ v Y→J X (nv ps v Y o))(h1:fq X.n (aqQ X.n) o=some (bl,vs):=by kernel_rfl)(h2:ei ps o=some own:=by kernel_rfl):J X o:=by
 obtain⟨ops,i,todo,k,e,w,kn,p,rfl,ho,hw,hc⟩:=dB h1
 intro bW
 unfold aqQ at hc
 split at hc<;>try (cases hc;done)
 rename_i x xs at_ aA
 split at hc<;>try (cases hc;done)
 rename_i bl' hx
 split at hc<;>try (cases hc;done)
 rename_i oy EB
 cases hc
 rcases p with ⟨dst,op,ty,pos,c8,g⟩
 dsimp only at aA;subst aA
 have hp:=bI h2
 refine bS X.hC ho hw (by simp) ?_
 have SB:xs.map (ev X.n e)=⟨vs⟩:=sj EB
 simp only[execOp,resolve,aE hx,Deferred.ofValue,ae,SB]
 have hiv:(invoke (.fn (.yield bl) ⟨[]⟩) (⟨[]⟩++⟨vs⟩):Sem Next)=Instr.yield bl ⟨vs⟩:=by simp[invoke]
 rw[hiv]
 refine YX.use hy fJ hp fun l f tm as bd hR=>?_
 show Round X.C l f tm as bd _ _
 refine Round.mono (Round.weaken X.hC hR) fun en s' DN=>?_
 obtain⟨v,Y,rfl,qt,hle⟩:=DN
 have:=hj v Y qt
 rw[ou ho] at this
 have:=this bW
 simp only[JP,gF] at this
 have:=this.more X.hC hle
 show ab _ _ _ _ _ _ _ _
 rw[aX]
 exact this
end
attribute [irreducible] aqQ
def mk:List Nat→Cells
 | []=>[]
 |b::r=>(b,.deferred (some []))::mk r
def aez(P:Program)(fn:Func)(R:Ending→St→Prop):Post
 | .normal,a,s| .ret,a,s=>∃uz rest,a.defers=uz.map eC∧s.rw.Perm (mk uz++rest)∧bP P (results fn a.tmps) ⟨s.ro,rest⟩ (fun v s'=>∃s0,s0.le s'∧R (.returned v) s0) (fun _ _=>False)
 |_,_,_=>False
section
variable {P:Program} {C:Class}
theorem Ai(hC:∀main T,C main T→Closed P main T)(hT:C main T){rest:Cells}:∀(uz:List Nat) (fr:Frame) (s:St),fr.mode= .returning→fr.defers=uz.map eC→s.rw.Perm (mk uz++rest)→T (G {fr with defers:=[]} cs) ⟨s.ro,rest⟩→T (G fr cs) s
 | [],fr,s,_,hd,hp,h=>by
  have:fr={fr with defers:=[]}:=by rcases fr with ⟨a,b,c,d,e,f,g⟩;simp only[List.map_nil] at hd;subst hd;rfl
  rw[this]
  exact(hC main T hT).mono _ ⟨s.ro,rest⟩ _ ⟨[],by simpa [mk] using hp,fun b o hb=> .inl hb⟩ h
 |b::r,fr,s,hm,hd,hp,h=>by
  obtain⟨L,Rr,hs⟩:=List.append_of_mem (hp.mem_iff.2 (List.mem_append_left _ List.mem_cons_self))
  refine unwind_mark hC hT (.inl hm) (ds:=r.map eC) (by simpa using hd) hs ?_
  have Su:(L++Rr).Perm (mk r++rest):=by
   rw[hs] at hp
   exact(List.perm_middle.symm.trans hp).cons_inv
  refine(hC main T hT).mono _ ⟨s.ro,L++Rr⟩ _ ⟨[(b,.deferred none)],?_,fun b o hb=> .inl hb⟩ (Ai hC hT r _ _ hm rfl Su h)
  exact List.perm_middle.trans (List.perm_append_singleton _ _).symm
theorem Lj(hC:∀main T,C main T→Closed P main T){c:Code}{args:Array Value} 
 (hf:P.funcs[f]?=some fn) (hb:fn.body=some c) (h:Wp C f none c (aez P fn R) ⟨args++Array.replicate (fn.ntmps-args.size) undef,[]⟩ s):Fn C P f args s R:=by
 intro main T hT cl cs k1 k2
 let b:Frame:={(default:Frame) with fn:=f,kind:= .normal,roundOf:=none}
 have iv:Frame.enter P f args .normal=aK b ⟨args++Array.replicate (fn.ntmps-args.size) undef,[]⟩ [.code c]:=by
  simp[Frame.enter,aK,hf,hb,b]
 rw[iv]
 refine h main T hT b [] (cl::cs) rfl (by simp[b]) rfl fun e a' s' q=>?_
 have sb:∀(todo:List Item),(∃uz rest,a'.defers=uz.map eC∧s'.rw.Perm (mk uz++rest)∧bP P (results fn a'.tmps) ⟨s'.ro,rest⟩ (fun v s'=>∃s0,s0.le s'∧R (.returned v) s0) (fun _ _=>False))→T (G {aK b a' todo with mode:= .returning} (cl::cs)) s':=by
  intro todo ⟨uz,rest,hd,hp,hr⟩
  exact Ai hC hT uz _ _ rfl hd hp (sQ hC hT hf rfl rfl rfl rfl hr k1)
 cases e with
 |normal=>
  exact(hC main T hT).go rfl rfl (g':=G {aK b a' [] with mode:= .returning} (cl::cs)) (fun w=>by simp[G,stepG,stepG.exec,aK,b]) (sb _ q)
 |ret=>
  exact fun todo=>(hC main T hT).go rfl rfl (g':=G {aK b a' (.code .ret::todo) with mode:= .returning} (cl::cs)) (fun w=>by simp[G,stepG,stepG.exec,aK,b]) (sb _ q)
 |panic ch=>exact q.elim
 |exit id=>exact q.elim
 |goto l=>exact q.elim
 |outgrown=>exact q.elim
end
def XM(P:Program)(hm:P.follows .mixedOrders=true)(f:FuncId)(ro:Nat→Option Obj)(R:Ending→St→Prop):Cx:=⟨P,CP P,e8,hm,f,none,(tw P f).ntmps,[],ro,aez P (tw P f) R⟩
theorem aml(hm:P.follows .mixedOrders=true){ro:Nat→Option Obj}{L:Cells}(own:List Sg)(kn:Cells)(hk:Knows ro kn)(h:J (XM P hm f ro (RX ro Φ)) (ld P f args own kn))(hL:den own=L:=by rfl):eG P f args ro L Φ:=by
 subst hL
 unfold ld at h
 split at h<;>try exact h.elim
 rename_i fn hf
 split at h<;>try exact h.elim
 rename_i c hc
 cases hl:Nat.ble args.length fn.ntmps with
 |false=>rw[hl] at h;exact h.elim
 |true=>
  rw[hl] at h
  have uQ:tw P f=fn:=by simp only[tw,hf]
  have:=h hk
  simp only[JP,XM,KQ,uQ] at this
  refine Lj e8 hf hc ?_
  have he:=kS args fn.ntmps (Nat.le_of_ble_eq_true hl)
  rw[←he] at this
  exact this
structure QM(X:Cx)(R:Ending→St→Prop)(uz:List Nat):Prop where
 q:X.Q=aez X.P (tw X.P X.fn) R
 d:X.D=uz.map eC
def Cx.dm(X:Cx)(bd:Nat):Cx:={X with D:=eC bd::X.D}
theorem qm0{hm:P.follows .mixedOrders=true}{ro:Nat→Option Obj}:QM (XM P hm f ro R) R []:=⟨rfl,rfl⟩
theorem QM.a{ro:Nat→Option Obj}(h:QM X R uz):QM (X.at ro) R uz:=⟨h.q,h.d⟩
theorem QM.m(h:QM X R uz):QM (X.dm bd) R (bd::uz):=⟨h.q,by simp[Cx.dm,h.d]⟩
theorem QM.w{aHK:List Nat}(h:QM X R uz):QM (X.wd (aHK.map eC)) R aHK:=⟨h.q,rfl⟩
def CY(pm:List Nat):Option JS→Option JS
 |some ⟨p,e,w,kn⟩=>some ⟨p,e,dF pm 0 w,kn⟩
 |none=>none
section
variable {X:Cx} {o:Option JS}
theorem jrM(hq:QM X (RX pK Φ) uz)(v:Value)(pm hs ps:List Nat)(Y:Cells)(fJ:Sub pK X.ro)(hR:Φ v Y)(h0:ei pm o=some (mk uz):=by kernel_rfl)(h1:tt (jW X.P X.n X.fn hs (CY pm o))=some v:=by kernel_rfl)(h2:SF (jW X.P X.n X.fn hs (CY pm o))=SE (jW X.P X.n X.fn hs (CY pm o)):=by kernel_rfl)(h3:ei ps (CY pm o)=some Y:=by kernel_rfl)(h4:CN o=true:=by kernel_rfl):J X o:=by
 obtain⟨ex,e,w,kn,rfl,hex⟩:=tz h4
 simp only[CY,jW] at h1 h2 h3
 cases hr:BS X.P X.n e (dF pm 0 w) kn.c hs (tw X.P X.fn).results.toList with
 |none=>simp only[hr,tt] at h1;cases h1
 |some x=>
  rcases x with ⟨vs,q⟩
  simp only[hr,tt,Option.some.injEq,SF,SE] at h1 h2
  intro bW
  have sb:=tP bW hr (mv h2)
  have hp:=bI h3
  have Fa:=Ps (s0:=⟨pK,Y⟩) (R:=RX pK Φ) hex sb h1 (dS hp fJ) ⟨v,Y,rfl,rfl,hR⟩
  have ht:bP X.P (results (tw X.P X.fn) (A X.n e X.D).tmps) ⟨X.ro,den (dF pm 0 w)⟩ (fun v s'=>∃s0,s0.le s'∧RX pK Φ (.returned v) s0) (fun _ _=>False):=by
   rcases hex with rfl|rfl<;>exact Fa.2
  show X.Q ex (A X.n e X.D) ⟨X.ro,den w⟩
  rw[hq.q]
  have hm:∃uz rest,(A X.n e X.D).defers=uz.map eC∧(den w).Perm (mk uz++rest)∧bP X.P (results (tw X.P X.fn) (A X.n e X.D).tmps) ⟨X.ro,rest⟩ (fun v s'=>∃s0,s0.le s'∧RX pK Φ (.returned v) s0) (fun _ _=>False):=⟨uz,_,hq.d,bI h0,ht⟩
  rcases hex with rfl|rfl<;>exact hm
end
attribute [irreducible] CY
def upQ(Q:Post):Post:=fun e a s=>∃s0,s0.le s∧Q e a s0
theorem jU.more(hT:Closed P main T){b:Frame}(hl:s.le s'):∀ {e:Exit} {a:Act},jU T b k cs e a s→jU T b k cs e a s'
 | .normal,_,h=>hT.mono _ _ _ hl h
 | .exit id,a,h=>by
  simp only[jU] at h ⊢
  cases hk:exitTo id k with
  |some k'=>rw[hk] at h;exact hT.mono _ _ _ hl h
  |none=>rw[hk] at h;exact fun todo ht=>hT.mono _ _ _ hl (h todo ht)
 | .ret,_,h=>fun todo=>hT.mono _ _ _ hl (h todo)
 | .panic _,_,h=>fun todo=>hT.mono _ _ _ hl (h todo)
 | .goto _,_,h=>h.elim
 | .outgrown,_,h=>h.elim
theorem ayJ(hC:∀main T,C main T→Closed P main T){fn:FuncId}{aB:Option Nat}{c:Code}{Q:Post}{a:Act}(h:Wp C fn aB c (upQ Q) a s):Wp C fn aB c Q a s:=
 fun main T hT b k cs h1 h2 h3 h4=>h main T hT b k cs h1 h2 h3 fun _ _ _ ⟨_,hl,hq⟩=>jU.more (hC _ _ hT) hl (h4 _ _ _ hq)
def ItX(P:Program)(g:FuncId)(fi ca:List Value)(ro:Nat→Option Obj)(own:Cells)(N:Nat)(El:(Nat→Option Obj)→Nat→List Value→Cells→Prop)(Ψ:Cells→Prop):Prop:=
 ∀(bl:Nat) (aC:Nat→Option Obj) (Inv:Nat→Cells→Prop) (Stop:Cells→Prop),Sub ro aC→
  (∀k vs LL B mg,k <N→El mg k vs LL→Inv k B→Sub aC mg→YX P bl vs mg (LL++B) (fun r B'=>(r= .bool true∧Inv (k+1) B')∨(r= .bool false∧Stop B')))→
  ∀B,Inv 0 B→eG P g (fi++[.func (.yield bl) #[] #[]]++ca) aC (own++B) (fun _ Y=>∃Z B',Y=Z++B'∧Ψ Z∧(Inv N B'∨Stop B'))
theorem Round.more(hC:∀main T,C main T→Closed P main T){l:Nat}{bd:Code}(hl:s.le s')(h:Round C l f tm as bd s R):Round C l f tm as bd s' R:=
 fun main T hT c cs k1 k2=>(hC _ _ hT).mono _ _ _ hl (h main T hT c cs k1 k2)
def rfV(P:Program)(n:Nat):Option JS→Option (FuncId×List Value×List Value×Nat)
 |some ⟨.code (.rangeFunc x ps _ _) _,e,_,_⟩=>match bn n e x with
  |some (.func (.func g) ⟨fi⟩ ⟨ca⟩)=>bif BD P g then some (g,fi,ca,ps.size) else none
  |_=>none
 |_=>none
def lpO(X:Cx)(bd:Nat):Option JS→Loop
 |some ⟨.code (.rangeFunc _ ps a b) _,e,_,_⟩=>iI X.fn (A X.n e X.D).tmps ps a b bd
 |_=>iI X.fn #[] #[] .ret .ret bd
def aHG:Option JS→Code
 |some ⟨.code (.rangeFunc _ _ _ b) _,_,_,_⟩=>b
 |_=> .ret
def Pj:List Tmp→List Value→Env→Env
 |t::ts,v::vs,e=>Pj ts vs (upd (some t) v e)
 |_,_,e=>e
theorem Ph{D:List Deferred}:∀(ts:List Tmp) (vs:List Value) (e:Env),(ts.zip vs).foldl (fun(tm:Array Value) (x:Tmp×Value)=>tm.setIfInBounds x.1 x.2) (A n e D).tmps=(A n (Pj ts vs e) D).tmps
 | [],_,_=>rfl
 |_::_,[],_=>rfl
 |t::ts,v::vs,e=>by
  have:=aX n e D (some t) v
  simp only[Act.put] at this
  simp only[List.zip_cons_cons,List.foldl_cons,Pj]
  rw[←Ph ts vs,←this]
def rdO(X:Cx)(bl bd:Nat)(vs:List Value)(w:List Sg)(o:Option JS):Option JS:=match o with
 |some ⟨.code (.rangeFunc _ ps a _) _,e,_,kn⟩=>some ⟨.code a [],Pj ps.toList vs e,.b bl (.loop (lpO X bd o))::w,⟨kn.c,[]⟩⟩
 |_=>none
def afO(jump:Option Code)(bd:Nat)(Z:Cells)(wi:List Sg)(is:List Nat):Option JS→Option JS
 |some ⟨.code _ k,e,w,kn⟩=>match jump with
  |none=>some ⟨PC k,e,.b bd (.deferred (some [])):: .l Z::(wi++dF is 0 w),⟨kn.c,[]⟩⟩
  |some .ret=>some ⟨.fin .ret,e,.b bd (.deferred (some [])):: .l Z::(wi++dF is 0 w),⟨kn.c,[]⟩⟩
  |some (.exit id)=>match A5 id k with
   |some p=>some ⟨p,e,.b bd (.deferred (some [])):: .l Z::(wi++dF is 0 w),⟨kn.c,[]⟩⟩
   |none=>none
  |_=>none
 |_=>none
def aqR(bl:Nat)(Lp:Loop)(wf:ι→List Sg)(Inv:Nat→ι→Prop)(Sp:Code→ι→Prop)(k:Nat):Value→Cells→Prop:=fun r B=>
 (r= .bool true∧∃j,Inv (k+1) j∧B=(bl,.loop Lp)::den (wf j))∨(r= .bool false∧∃jump j,Sp jump j∧B=(bl,.loop {Lp with state:= .done,pending:=some jump})::den (wf j))
def Cx.rd(X:Cx)(bl:Nat)(ro:Nat→Option Obj)(Φ:Value→Cells→Prop)(body:Code):Cx:=⟨X.P,CP X.P,e8,X.hm,X.fn,some bl,X.n,[],ro,Ib (CP X.P) (RY ro Φ) bl X.fn body⟩
def Cx.re(X:Cx)(bl:Nat)(ro:Nat→Option Obj)(Φ:Value→Cells→Prop):Cx:=⟨X.P,CP X.P,e8,X.hm,X.fn,some bl,X.n,[],ro,BR (RY ro Φ) bl⟩
theorem LN:∀(k:List KI),KQ (X.dm bd) k=KQ X k
 | []=>rfl
 | .seq _::k=>by simp only[KQ,LN k];rfl
 | .block _::k=>by simp only[KQ,LN k]
 | .next _::k=>by simp only[KQ,LN k]
theorem Kj(Z W R:List α)(x y:α):((Z++x::W)++y::R).Perm (x::y::(Z++(W++R))):=by
 refine List.perm_middle.trans ?_
 rw[List.append_assoc,List.cons_append]
 exact(List.Perm.cons y List.perm_middle).trans (List.Perm.swap _ _ _)
section
variable {X:Cx} {o:Option JS}
theorem jrf{np:Nat}{Ψ:Cells→Prop}(ow:List Sg)(hit:ItX X.P g fi ca X.ro (den ow) N El Ψ)(XV:∀ro k vs LL,El ro k vs LL→vs.length=np)
 (wf:ι→List Sg)(Inv:Nat→ι→Prop)(Sp:Code→ι→Prop)(i0:ι)(h0:Inv 0 i0)(is:List Nat)
 (hb:∀bl bd k vs LL i mg,k <N→El mg k vs LL→Inv k i→Sub X.ro mg→J (X.rd bl mg (aqR bl (lpO X bd o) wf Inv Sp k) (aHG o)) (rdO X bl bd vs (wf i++[.l LL]) o))
 (hN:∀bd i Z,Inv N i→Ψ Z→J (X.dm bd) (afO none bd Z (wf i) is o))(hS:∀bd i Z jump,Sp jump i→Ψ Z→J (X.dm bd) (afO (some jump) bd Z (wf i) is o))
 (h1:rfV X.P X.n o=some (g,fi,ca,np):=by kernel_rfl)(h2:rh is o=some (ow++wf i0):=by kernel_rfl)(hf:(X.P.funcs[X.fn]?).isSome=true:=by kernel_rfl) (hr:X.aB=none:=by rfl):J X o:=by
 unfold rfV at h1
 split at h1<;>try (cases h1;done)
 rename_i x params assign body k e w kn
 split at h1<;>try (cases h1;done)
 rename_i g' Vd zn hx
 cases Hc:BD X.P g' with
 |false=>rw[Hc] at h1;cases h1
 |true=>
  rw[Hc] at h1
  simp only[cond_true,Option.some.injEq,Prod.mk.injEq] at h1
  obtain⟨rfl,rfl,rfl,hnp⟩:=h1
  have ff:=lj Hc
  intro bW
  have hp:=lS h2
  rw[lM] at hp
  obtain⟨fn',uQ⟩:=Option.isSome_iff_exists.1 hf
  show Wp X.C X.fn X.aB (.rangeFunc x params assign body) (KQ X k) (A X.n e X.D) ⟨X.ro,den w⟩
  rw[hr]
  refine ayJ X.hC (Af X.hC (fi:=⟨Vd⟩) (ca:=⟨zn⟩) (by rw[eF];exact aE hx) ff fun bd bl _ _=>?_)
  rw[R6]
  have hy:=hit bl X.ro (fun k B=>∃i,Inv k i∧B=(bl,.loop (iI X.fn (A X.n e X.D).tmps params assign body bd))::den (wf i))
   (fun B=>∃jump i,Sp jump i∧B=(bl,.loop {iI X.fn (A X.n e X.D).tmps params assign body bd with state:= .done,pending:=some jump})::den (wf i)) (Sub.refl _) (fun k vs LL B mg hk hv hi hs=>?_) _ ⟨i0,h0,rfl⟩
  rotate_left
  ·obtain⟨i,hi,rfl⟩:=hi
   refine⟨iI X.fn (A X.n e X.D).tmps params assign body bd,List.mem_append_right _ List.mem_cons_self,(XV _ _ _ _ hv).trans hnp.symm,Round.more e8 (s:=⟨mg,((bl,.loop (iI X.fn (A X.n e X.D).tmps params assign body bd))::den (wf i))++LL⟩) ⟨[],by rw[List.append_nil];exact List.perm_append_comm,fun b o hb=> .inl hb⟩ (Dv e8 uQ ?_)⟩
   have:=hb bl bd k vs LL i mg hk hv hi hs fun y hy=>hs _ _ (bW y hy)
   have Np:den (.b bl (.loop (iI X.fn (A X.n e X.D).tmps params assign body bd))::(wf i++[.l LL]))=((bl,.loop (iI X.fn (A X.n e X.D).tmps params assign body bd))::den (wf i))++LL:=by rw[iQ,lM];rfl
   rw[←Np]
   have hyt:ab2 (iI X.fn (A X.n e X.D).tmps params assign body bd) vs=(A X.n (Pj params.toList vs e) X.D).tmps:=by
    rw[←Ph]
    simp only[ab2,iI]
    rw[←Array.foldl_toList,Array.toList_zip]
   rw[hyt]
   exact this
  refine Fn.weaken X.hC (Fn.mono (Fn.frame (fr:=(bd,.deferred (some []))::den (dF is 0 w)) (B:=[]) (ro:=X.ro) hy (fun _ h=>(by cases h)) ⟨?_,fun b o hb=> .inl hb,Sub.refl _⟩) fun en s' DN=>?_)
  ·refine List.Perm.trans (.cons _ (.cons _ ?_)) (Kj _ _ _ _ _).symm
   rw[←List.append_assoc]
   exact hp
  obtain⟨yE,⟨v,Y,rfl,rfl,Z,B',rfl,hΨ,hI⟩,hc⟩:=DN
  have hc1:s'.rw.Perm ((Z++B')++(bd,.deferred (some []))::den (dF is 0 w)):=hc.rw
  have key:∀(r0:Loop) (i:ι),B'=(bl,.loop r0)::den (wf i)→∃L Rr,s'.rw=L++(bl,.loop r0)::Rr∧∀r1,(⟨X.ro,den (.b bd (.deferred (some [])):: .l Z::(wf i++dF is 0 w))⟩:St).le ⟨s'.ro,L++(bl,.loop r1)::Rr⟩:=by
   intro r0 i hB
   subst hB
   have hc2:=hc1.trans (Kj _ _ _ _ _)
   obtain⟨L,Rr,hs⟩:=List.append_of_mem (hc2.mem_iff.2 List.mem_cons_self)
   refine⟨L,Rr,hs,fun r1=>dS (J:=[(bl,.loop r1)]) ?_ hc.keep⟩
   rw[hs] at hc2
   have hc3:=(List.perm_middle.symm.trans hc2).cons_inv
   rw[iQ,gF,lM]
   exact List.perm_middle.trans ((List.Perm.cons _ hc3).trans (List.perm_append_singleton _ _).symm)
  rcases hI with ⟨i,hi,hB⟩| ⟨jump,i,hi,hB⟩
  ·obtain⟨L,Rr,hs,hle⟩:=key _ i hB
   refine⟨L,_,Rr,hs,by simp[iI],?_⟩
   refine⟨_,hle _,?_⟩
   have:=hN bd i Z hi hΨ bW
   rw[←LN (bd:=bd)]
   exact tT (X:=X.dm bd) (kn:=⟨kn.c,[]⟩) this
  obtain⟨L,Rr,hs,hle⟩:=key _ i hB
  refine⟨L,_,Rr,hs,by simp,?_⟩
  have:=hS bd i Z jump hi hΨ
  cases jump with
  |ret=>
   refine⟨_,hle _,?_⟩
   rw[←LN (bd:=bd)]
   exact Ap (X:=X.dm bd) (this bW) k
  |exit id=>
   simp only[afO] at this
   cases hk:A5 id k with
   |none=>rw[hk] at this;exact this.elim
   |some p=>
    rw[hk] at this
    refine⟨_,hle _,?_⟩
    rw[←LN (bd:=bd)]
    exact wH (X:=X.dm bd) (kn:=⟨kn.c,[]⟩) hk (this bW)
  |_=>exact this.elim
end
theorem aBv:(lpO X bd o).state= .ready∧(lpO X bd o).pending=none:=by
 unfold lpO
 split<;>exact⟨rfl,rfl⟩
attribute [irreducible] rfV lpO aHG rdO afO
def bgO(body:Code):Option JS→Option (JS×Nat)
 |some ⟨.fin .normal,e,.b b (.loop r)::w,kn⟩=>match r.state with
  | .ready=>some (⟨.code body [],e,.b b (.loop {r with state:= .busy})::w,kn⟩,b)
  |_=>none
 |_=>none
def EI:Option (JS×Nat)→Option JS
 |some (s,_)=>some s
 |none=>none
def Ta:Option (JS×Nat)→Option Nat
 |some (_,b)=>some b
 |none=>none
def Qs:Option JS→Option (Option Code)
 |some ⟨.fin .normal,_,_,_⟩=>some none
 |some ⟨.fin .ret,_,_,_⟩=>some (some .ret)
 |some ⟨.fin (.exit id),_,_,_⟩=>some (some (.exit id))
 |_=>none
structure QY(X:Cx)(bl:Nat)(ro:Nat→Option Obj)(Φ:Value→Cells→Prop):Prop where
 q:X.Q=BR (RY ro Φ) bl
theorem ZF{ro:Nat→Option Obj}:QY (X.re bl ro Φ) bl ro Φ:=⟨rfl⟩
section
variable {X:Cx} {o:Option JS} {bl:Nat} {ro:Nat→Option Obj}
theorem jbg(h:J (X.re bl ro Φ) (EI (bgO body o)))(h1:Ta (bgO body o)=some bl:=by kernel_rfl):J (X.rd bl ro Φ body) o:=by
 unfold bgO at h h1
 split at h<;>try exact h.elim
 rename_i e b r w kn
 split at h<;>try exact h.elim
 rename_i bU
 simp only[bU,Ta,Option.some.injEq] at h1
 subst h1
 simp only[EI] at h
 intro bW
 have hw:=h bW
 simp only[JP,Cx.rd,Ib,Db]
 refine⟨[],r,den w,by rw[iQ];rfl,bU,?_⟩
 simp only[JP,iQ] at hw
 exact hw
theorem jyR{Lp:Loop}{jump:Option Code}{Y:Cells}(hq:QY X bl ro Φ)(fJ:Sub ro X.ro)(ps:List Nat)(qt:Φ (.bool jump.isNone) ((bl,.loop {Lp with state:=if jump.isNone then .ready else .done,pending:=jump})::Y))(h1:ei ps o=some ((bl,.loop {Lp with state:= .busy})::Y):=by kernel_rfl)(h2:Qs o=some jump:=by kernel_rfl):J X o:=by
 have main:∀s w kn e,o=some ⟨s,e,w,kn⟩→Vj (RY ro Φ) bl jump ⟨X.ro,den w⟩:=by
  intro s w kn e ho
  subst ho
  have hp:=bI h1
  obtain⟨L,Rr,hs⟩:=List.append_of_mem (hp.mem_iff.2 (List.mem_append_left _ List.mem_cons_self))
  refine⟨L,_,Rr,hs,_,_,rfl,?_,qt⟩
  have nu:den w=L++(bl,.loop {Lp with state:= .busy})::Rr:=hs
  have hp':(den w).Perm (((bl,.loop {Lp with state:= .busy})::Y)++den (dF ps 0 w)):=hp
  rw[nu] at hp'
  have Su:=(List.perm_middle.symm.trans hp').cons_inv
  exact dS (J:=den (dF ps 0 w)) (List.perm_middle.trans (.cons _ Su)) fJ
 unfold Qs at h2
 split at h2<;>try (cases h2;done)
 ·rename_i e w kn;cases h2;intro _;show X.Q .normal _ _;rw[hq.q];exact main _ _ _ _ rfl
 ·rename_i e w kn;cases h2;intro _;show X.Q .ret _ _;rw[hq.q];exact main _ _ _ _ rfl
 rename_i id e w kn;cases h2;intro _;show X.Q (.exit id) _ _;rw[hq.q];exact main _ _ _ _ rfl
theorem jyn{Lp:Loop}{wf:ι→List Sg}{Inv:Nat→ι→Prop}{Sp:Code→ι→Prop}{k:Nat}(hq:QY X bl ro (aqR bl Lp wf Inv Sp k))(fJ:Sub ro X.ro)(j:ι)(h:Inv (k+1) j)(ps:List Nat)(hl:Lp.state= .ready∧Lp.pending=none:=by exact aBv)(h1:ei ps o=some ((bl,.loop {Lp with state:= .busy})::den (wf j)):=by kernel_rfl)(h2:Qs o=some none:=by kernel_rfl):J X o:=
 jyR hq fJ ps (.inl ⟨rfl,j,h,by rcases Lp with ⟨a,b,c,d,e,f,g,i⟩;obtain⟨h1,h2⟩:=hl;dsimp only at h1 h2;subst h1 h2;rfl⟩) h1 h2
theorem jys{Lp:Loop}{wf:ι→List Sg}{Inv:Nat→ι→Prop}{Sp:Code→ι→Prop}{k:Nat}(hq:QY X bl ro (aqR bl Lp wf Inv Sp k))(fJ:Sub ro X.ro)(jump:Code)(j:ι)(h:Sp jump j)(ps:List Nat)(h1:ei ps o=some ((bl,.loop {Lp with state:= .busy})::den (wf j)):=by kernel_rfl)(h2:Qs o=some (some jump):=by kernel_rfl):J X o:=
 jyR hq fJ ps (.inr ⟨rfl,jump,j,h,rfl⟩) h1 h2
end
attribute [irreducible] bgO EI Ta Qs
def sw[DecidableEq κ](k:κ):List (κ×Value)→Nat→Option (Nat×Value)
 | [],_=>none
 |x::l,i=>if k=x.1 then some (i,x.2) else sw k l (i+1)
def lkM[DecidableEq κ](k:κ)(F:List (κ×Value)):Option Value:=(sw k F 0).map (·.2)
def tN(k:κ)(v:Value):List (κ×Value)→Nat→List (κ×Value)
 | [],_=>[]
 |_::l,0=>(k,v)::l
 |x::l,i+1=>x::tN k v l i
def mC[DecidableEq κ](k:κ)(v:Value)(F:List (κ×Value)):List (κ×Value):=match sw k F 0 with
 |some (i,_)=>tN k v F i
 |none=>F++[(k,v)]
structure Sf(P:Program)(T:TypeId){κ:Type}[DecidableEq κ](kv:κ→Value):Prop where
 chk:∀(b:Bool) (k:κ) {α:Type} {K:Unit→Sem α} {s:St} {Q:α→St→Prop} {E:Halt→St→Prop},bP P (K ()) s Q E→bP P (Instr.checkKey b 10000 T (kv k) >>= K) s Q E
 find:∀(k:κ) (es:List MapEntry) (F:List (κ×Value)),es.map (fun e=>(e.key,e.val))=F.map (fun x=>(kv x.1,x.2))→∀ {α:Type} {K:Option (Nat×Value)→Sem α} {s:St} {Q:α→St→Prop} {E:Halt→St→Prop},bP P (K (sw k F 0)) s Q E→bP P (Instr.findKey T (kv k) es >>= K) s Q E
 stay:∀k,Instr.sameBits 10000 (kv k) (kv k)=true
theorem qH[DecidableEq κ]{k:κ}:∀ {F:List (κ×Value)} {i j:Nat} {v:Value},sw k F i=some (j,v)→i≤j∧F[j-i]?=some (k,v)
 | [],_,_,_,h=>by cases h
 |x::l,i,j,v,h=>by
  simp only[sw] at h
  split at h
  ·rename_i hk
   cases h
   exact⟨Nat.le_refl _,by simp[hk]⟩
  obtain⟨h1,h2⟩:=qH h
  refine⟨by omega,?_⟩
  rw[show j-i=(j-(i+1))+1 by omega,List.getElem?_cons_succ];exact h2
theorem N5(a b:ByteArray):(a==b)=decide (a=b):=by
 have h:(a==b)=(a.data==b.data):=by cases a;cases b;rfl
 rw[h,Bool.eq_iff_iff]
 cases a;cases b
 simp
theorem DW(a:ByteArray):∀(es:List MapEntry) (F:List (ByteArray×Value)) (i:Nat),es.map (fun e=>(e.key,e.val))=F.map (fun x=>(Value.string x.1,x.2))→Instr.findNow .string (.string a) es i=some (sw a F i)
 | [],[],_,_=>rfl
 | [],_::_,_,h=>by simp at h
 |_::_,[],_,h=>by simp at h
 |e::es,x::F,i,h=>by
  simp only[List.map_cons,List.cons.injEq,Prod.mk.injEq] at h
  obtain⟨⟨h1,h2⟩,h3⟩:=h
  simp only[Instr.findNow,h1,Instr.sameNow,sw,N5]
  by_cases hk:a=x.1
  ·simp[hk,h2]
  simp only[hk,decide_false,if_false]
  exact DW a es F (i+1) h3
def CkD(P:Program)(dep:Nat)(T:TypeId)(v:Value):Prop:=∀(b:Bool) {α:Type} {K:Unit→Sem α} {s:St} {Q:α→St→Prop} {E:Halt→St→Prop},bP P (Instr.checkKey b dep T v >>= K) s Q E=bP P (K ()) s Q E
theorem aHx{T:TypeId}(tf:TF P T .string sz bC z ag)(a:ByteArray):CkD P (dep+1) T (.string a):=by
 intro b α K s Q E
 simp only[Instr.checkKey,aa,aZ tf,ae]
theorem as9{T:TypeId}(tf:TF P T .string sz bC z ag):Sf P T (fun(a:ByteArray)=>Value.string a) where
 chk b k α K s Q E h:=by rw[aHx (dep:=9999) tf k b];exact h
 find k es F he α K s Q E h:=by
  simp only[Instr.findKey,aa,aZ tf,DW k es F 0 he,ae]
  exact h
 stay k:=by simp[Instr.sameBits,N5]
def afk(P:Program)(T:TypeId):Bool:=match aY P T with
 |some ⟨.string,_,_,_⟩=>true
 |_=>false
theorem Xk{T:TypeId}(h:afk P T=true):Sf P T (fun(a:ByteArray)=>Value.string a):=by
 unfold afk at h
 split at h
 ·rename_i dV
  obtain⟨bC,tf⟩:=av dV
  exact as9 tf
 cases h
theorem ItX.up{ro:Nat→Option Obj}{own:Cells}{Ψ:Cells→Prop}(h:ItX P g fi ca ro own N El Ψ)(hs:Sub ro aG):ItX P g fi ca aG own N El Ψ:=
 fun bl aC Inv Stop h1=>h bl aC Inv Stop (hs.trans h1)
def YOK(P:Program)(bl:Nat)(ro:Nat→Option Obj)(N:Nat)(El:(Nat→Option Obj)→Nat→List Value→Cells→Prop)(Inv:Nat→Cells→Prop)(Stop:Cells→Prop):Prop:=
 ∀k vs LL B mg,k <N→El mg k vs LL→Inv k B→Sub ro mg→YX P bl vs mg (LL++B) (fun r B'=>(r= .bool true∧Inv (k+1) B')∨(r= .bool false∧Stop B'))
theorem YOK.up{ro:Nat→Option Obj}{Inv:Nat→Cells→Prop}{Stop:Cells→Prop}(h:YOK P bl ro N El Inv Stop)(hs:Sub ro aG):YOK P bl aG N El Inv Stop:=
 fun k vs LL B mg h1 h2 h3 h4=>h k vs LL B mg h1 h2 h3 (hs.trans h4)
def Part(L:List α)(p:Nat)(m:List α):Prop:=∃a b,L=a++m++b∧a.length=p
theorem Part.get{L m:List α}{p:Nat}{x:α}(h:Part L p m)(hx:m[i]?=some x):p+i <L.length∧L[p+i]?=some x:=by
 obtain⟨a,b,rfl,rfl⟩:=h
 have hi:=(List.getElem?_eq_some_iff.1 hx).1
 have:(a++m++b)[a.length+i]?=some x:=by
  rw[List.append_assoc,List.getElem?_append_right (by omega),List.getElem?_append_left (by omega),show a.length+i-a.length=i by omega];exact hx
 exact⟨(List.getElem?_eq_some_iff.1 this).1,this⟩
theorem Part.flat{L:List β}{p:Nat}{G:α→List β}{l a b:List α}{s:α}(h:Part L p (l.flatMap G))(hl:l=a++[s]++b):Part L (p+(a.flatMap G).length) (G s):=by
 obtain⟨u,v,rfl,rfl⟩:=h
 subst hl
 exact⟨u++a.flatMap G,b.flatMap G++v,by simp[List.flatMap_append],by simp⟩
theorem O6{T:TypeId}[DecidableEq κ]{kv:κ→Value}(he:∀a b,EqD P 10000 T (kv a) (kv b) (decide (a=b)))(k:κ):∀(es:List MapEntry) (F:List (κ×Value)) (i:Nat),es.map (fun e=>(e.key,e.val))=F.map (fun x=>(kv x.1,x.2))→∀ {α:Type} {K:Option (Nat×Value)→Sem α} {s:St} {Q:α→St→Prop} {E:Halt→St→Prop},bP P (K (sw k F i)) s Q E→bP P (Instr.findAsking T (kv k) es i >>= K) s Q E
 | [],[],_,_,_,_,_,_,_,h=>h
 | [],_::_,_,h,_,_,_,_,_,_=>by simp at h
 |_::_,[],_,h,_,_,_,_,_,_=>by simp at h
 |e::es,x::F,i,h,α,K,s,Q,E,hK=>by
  simp only[List.map_cons,List.cons.injEq,Prod.mk.injEq] at h
  obtain⟨⟨h1,h2⟩,h3⟩:=h
  simp only[Instr.findAsking,aa,h1,Op.equal]
  rw[show Op.maxDepth=10000 from rfl,he k x.1]
  simp only[sw] at hK
  by_cases hk:k=x.1
  ·rw[if_pos hk] at hK
   simp only[hk,decide_true,if_true,ae,h2]
   exact hK
  rw[if_neg hk] at hK
  simp only[hk,decide_false,Bool.false_eq_true,if_false]
  exact O6 he k es F (i+1) h3 hK
theorem HT{T:TypeId}{k:IntKind}(tf:TF P T (.int k) sz bC z ag)(a:Int):CkD P (dep+1) T (.int k a):=by
 intro b α K s Q E
 simp only[Instr.checkKey,aa,aZ tf,ae]
inductive Bu(P:Program)(dep:Nat)(l:List Value):List Field→Prop
 |nil:Bu P dep l []
 |cons {f:Field} {fs:List Field} {v:Value} (hn:f.name≠ "_") (hv:Il P f.type l f.offset v) (he:CkD P dep f.type v) (ht:Bu P dep l fs):Bu P dep l (f::fs)
theorem RP{T:TypeId}{fields:Array Field}(tf:TF P T (.struct fields) sz bC z true)(hf:Bu P dep l fields.toList):CkD P (dep+1) T (.agg ⟨l⟩):=by
 intro b α K s Q E
 simp only[Instr.checkKey,aa,aZ tf]
 rw[←Array.forIn_toList]
 generalize fields.toList=fl at hf
 clear tf
 induction hf with
 |nil=>simp only[List.forIn_nil,ae,aa]
 | @cons f fs v hn hv he ht ih=>
  simp only[List.forIn_cons,hn,ne_eq,not_false_eq_true,if_true,aa]
  rw[hv]
  simp only[aa]
  rw[he]
  simp only[ae]
  exact ih
theorem aeX{T:TypeId}[DecidableEq κ]{kv:κ→Value}{d:TypeDesc}(tf:TF P T d sz bC z ag)(hl:∀k,∃l,kv k= .agg l)(hc:∀k,CkD P 10000 T (kv k))(he:∀a b,EqD P 10000 T (kv a) (kv b) (decide (a=b)))(hs:∀k,Instr.sameBits 10000 (kv k) (kv k)=true):Sf P T kv where
 chk b k α K s Q E h:=by rw[hc k b];exact h
 find k es F hm α K s Q E h:=by
  simp only[Instr.findKey,aa,aZ tf]
  cases es with
  |nil=>
   cases F with
   |nil=>exact h
   |cons x F=>simp at hm
  |cons e es=>
   have:Instr.findNow d (kv k) (e::es) 0=none:=by
    cases F with
    |nil=>simp at hm
    |cons x F=>
     simp only[List.map_cons,List.cons.injEq,Prod.mk.injEq] at hm
     obtain⟨l,Cw⟩:=hl k
     obtain⟨l2,qS⟩:=hl x.1
     simp only[Instr.findNow,hm.1.1,Cw,qS]
     cases d<;>rfl
   rw[this]
   exact O6 he k _ F 0 hm h
 stay:=hs
def tE(kv:κ→Value)(F:List (κ×Value))(es:Array MapEntry)(ck:Nat):Prop:=
 es.toList.map (fun e=>(e.key,e.val))=F.map (fun x=>(kv x.1,x.2))∧(es.toList.map (·.born)).Nodup∧∀e∈es.toList,e.born <ck
def j6(r:Nat)(kv:κ→Value)(F:List (κ×Value))(L:Cells):Prop:=∃es ck,L=[(r,.map es ck)]∧tE kv F es ck
def ajt(s:St)(r:Nat)(kv:κ→Value)(F:List (κ×Value)):Prop:=∃es ck,s.has r (.map es ck)∧tE kv F es ck
theorem j6.has{kv:κ→Value}{F:List (κ×Value)}{L:Cells}(h:j6 r kv F L)(hs:∀x∈L,s.has x.1 x.2):ajt s r kv F:=by
 obtain⟨es,ck,rfl,hm⟩:=h
 exact⟨es,ck,hs _ List.mem_cons_self,hm⟩
theorem ajt.ext{kv:κ→Value}{F:List (κ×Value)}(h:ajt s r kv F)(hs:Ext s s'):ajt s' r kv F:=by
 obtain⟨es,ck,h1,h2⟩:=h
 exact⟨es,ck,hs _ _ h1,h2⟩
theorem j6.nil(r:Nat)(kv:κ→Value):j6 r kv [] [(r,.map #[] 0)]:=⟨#[],0,rfl,rfl,List.nodup_nil,fun _ h=>(by cases h)⟩
section
variable {X:Cx} {o:Option JS}
def Qj[DecidableEq κ](z:Value)(ok:Bool)(k:κ)(F:List (κ×Value)):Value:=match lkM k F with
 |some v=>bif ok then .tuple ⟨[v,.bool true]⟩ else v
 |none=>bif ok then .tuple ⟨[z,.bool false]⟩ else z
def luV(P:Program)(n:Nat)(p:Oper)(e:Env):Option (TypeId×Value×Value×Value×Bool):=match p.op with
 | .lookup T x y ok=>match aY P T with
  |some ⟨.map K E,_,_,_⟩=>match aY P E with
   |some te=>match bn n e x with
    |some m=>match bn n e y with
     |some k=>some (K,m,k,OF te.zero te.agg,ok)
     |none=>none
    |none=>none
   |none=>none
  |_=>none
 |_=>none
theorem jlu[DecidableEq κ]{kv:κ→Value}{F:List (κ×Value)}{K:TypeId}(k:κ)(z:Value)(ok:Bool)(ps:List Nat)(B:Cells)(hk:Sf X.P K kv)(hm:∀s:St,Ext ⟨X.ro,[]⟩ s→(∀x∈B,s.has x.1 x.2)→ajt s r kv F)(hj:J X (MG B (Qj z ok k F) o))
 (hv:dI X.n (luV X.P X.n) o=some (K,.map (some r),kv k,z,ok):=by kernel_rfl)(hB:ei ps o=some B:=by kernel_rfl):J X o:=by
 refine jGN hv hB (fun s p e ho hh hf=>?_) hj
 subst ho
 unfold luV at hf
 split at hf<;>try (cases hf;done)
 rename_i T x y ok' aA
 split at hf<;>try (cases hf;done)
 rename_i K' E' _ _ _ dV
 split at hf<;>try (cases hf;done)
 rename_i te ui
 split at hf<;>try (cases hf;done)
 rename_i m hx
 split at hf<;>try (cases hf;done)
 rename_i k' hy
 simp only[Option.some.injEq,Prod.mk.injEq] at hf
 obtain⟨rfl,rfl,rfl,rfl,rfl⟩:=hf
 obtain⟨bC,tf⟩:=av dV
 obtain⟨Bh,qT⟩:=av ui
 refine⟨by rw[aA];rfl,fun s0 GU u9 ops i ho rest hwt s' hs todo Q jP=>lT X.hC ho rest hwt (by rw[aA];rfl) ?_ hs jP⟩
 intro s1 bY f hf K2 E2 hK
 obtain⟨es,ck,jH,Ct⟩:=(hm s0 GU u9).ext bY
 simp only[execOp,aA,hf _ _ hx,hf _ _ hy,Instr.lookup,aa,aZ tf]
 refine cG jH rfl rfl ?_
 simp only[ae,aa]
 refine hk.chk _ _ ?_
 simp only[aa]
 refine hk.find k _ F Ct.1 ?_
 simp only[Qj,lkM] at hK
 cases xT:sw k F 0 with
 |none=>
  rw[xT] at hK
  simp only[aa,kg qT,ae]
  cases ok'<;>exact hK
 |some u=>
  obtain⟨i,v⟩:=u
  rw[xT] at hK
  simp only[ae]
  cases ok'<;>exact hK
def asU(p:Oper):Option Unit:=match p.op with
 | .makeMap _ none=>some ()
 |_=>none
theorem jmk(kv:κ→Value)(hj:∀r L,j6 r kv [] L→J X (nv [] (.map (some r)) L o))(hv:fq X.n (fun p _=>asU p) o=some ():=by kernel_rfl):J X o:=by
 obtain⟨ops,i,todo,k,e,w,kn,p,rfl,ho,hw,hc⟩:=dB hv
 intro bW
 unfold asU at hc
 split at hc<;>try (cases hc;done)
 rename_i T aA
 rcases p with ⟨dst,op,ty,pos,c8,g⟩
 dsimp only at aA;subst aA
 refine bS X.hC ho hw (by simp) ?_
 simp only[execOp,Instr.makeMap,Option.map_none,aa,oz,ae]
 intro b hb
 have:=hj b _ (j6.nil b kv)
 rw[ou ho] at this
 have:=this bW
 simp only[JP,gF,xA] at this
 show ab _ _ _ _ _ _ _ _
 rw[aX]
 exact this
def muV(P:Program)(n:Nat)(p:Oper)(e:Env):Option (TypeId×Value×Value×Value):=match p.op with
 | .mapUpdate T x y z| .insert T x y z=>match aY P T with
  |some ⟨.map K _,_,_,_⟩=>match bn n e x with
   |some m=>match bn n e y with
    |some k=>match bn n e z with
     |some v=>some (K,m,k,v)
     |none=>none
    |none=>none
   |none=>none
  |_=>none
 |_=>none
theorem E4(k:κ)(v:Value):∀(F:List (κ×Value)) (i:Nat),tN k v F i=F.set i (k,v)
 | [],_=>rfl
 |_::_,0=>rfl
 |x::l,i+1=>by simp only[tN,E4 k v l i,List.set_cons_succ]
theorem GB{kv:κ→Value}{k:κ}{v:Value}:∀(es:List MapEntry) (F:List (κ×Value)) (i:Nat),es.map (fun e=>(e.key,e.val))=F.map (fun x=>(kv x.1,x.2))→(es.modify i fun e=>{e with key:=kv k,val:=v}).map (fun e=>(e.key,e.val))=(tN k v F i).map (fun x=>(kv x.1,x.2))
 | [],[],_,_=>by simp[tN]
 | [],_::_,_,h=>by simp at h
 |_::_,[],_,h=>by simp at h
 |e::es,x::F,0,h=>by
  simp only[List.map_cons,List.cons.injEq] at h
  simp[tN,h.2]
 |e::es,x::F,i+1,h=>by
  simp only[List.map_cons,List.cons.injEq] at h
  simp[tN,h.1,GB es F i h.2]
theorem wQ{kx v:Value}:∀(es:List MapEntry) (i:Nat),(es.modify i fun e=>{e with key:=kx,val:=v}).map (·.born)=es.map (·.born)
 | [],i=>by simp
 |e::es,0=>by simp
 |e::es,i+1=>by simp[wQ es i]
theorem jmu[DecidableEq κ]{kv:κ→Value}{F:List (κ×Value)}{K:TypeId}{L:Cells}(i:Nat)(k:κ)(v:Value)(hk:Sf X.P K kv)(hm:j6 r kv F L)(hj:∀L',j6 r kv (mC k v F) L'→J X (nv [i] undef L' o))
 (hv:fq X.n (muV X.P X.n) o=some (K,.map (some r),kv k,v):=by kernel_rfl)(hB:ei [i] o=some L:=by kernel_rfl):J X o:=by
 obtain⟨ops,i0,todo,kk,e,w,kn,p,rfl,ho,hw,hc⟩:=dB hv
 intro bW
 rcases p with ⟨dst,op,ty,pos,c8,g⟩
 have main:∀T x y z,(op= .mapUpdate T x y z∨op= .insert T x y z)→muV X.P X.n ⟨dst,.mapUpdate T x y z,ty,pos,c8,g⟩ e=some (K,.map (some r),kv k,v)→ab X.C X.fn X.aB ops (i0::todo) (KQ X kk) (A X.n e X.D) ⟨X.ro,den w⟩:=by
  intro T x y z heq hc
  simp only[muV] at hc
  split at hc<;>try (cases hc;done)
  rename_i K' E' _ _ _ dV
  split at hc<;>try (cases hc;done)
  rename_i m hx
  split at hc<;>try (cases hc;done)
  rename_i k' hy
  split at hc<;>try (cases hc;done)
  rename_i v' hz
  simp only[Option.some.injEq,Prod.mk.injEq] at hc
  obtain⟨rfl,rfl,rfl,rfl⟩:=hc
  obtain⟨bC,tf⟩:=av dV
  have hp:=bI hB
  obtain⟨es,ck,rfl,Ct⟩:=hm
  obtain⟨L1,R1,bY⟩:=List.append_of_mem (hp.mem_iff.2 (List.mem_append_left _ List.mem_cons_self))
  have hle:∀L',j6 r kv (mC k v' F) [(r,L')]→ab X.C X.fn X.aB ops todo (KQ X kk) (A X.n (upd dst undef e) X.D) ⟨X.ro,L1++(r,L')::R1⟩:=by
   intro L' hL
   have:=hj _ hL
   rw[ou ho] at this
   have:=this bW
   simp only[JP,gF] at this
   refine this.more X.hC (dS (J:=[]) ?_ (Sub.refl _))
   have hp':(den w).Perm ([(r,.map es ck)]++den (dF [i] 0 w)):=hp
   have aQ9:den w=L1++(r,.map es ck)::R1:=bY
   rw[aQ9] at hp'
   have Su:=(List.perm_middle.symm.trans hp').cons_inv
   rw[List.append_nil]
   exact List.perm_middle.trans (List.Perm.cons _ Su)
  have jH:(⟨X.ro,den w⟩:St).has r (.map es ck):= .inr (by show _∈den w;rw[show den w=_ from bY];exact fE)
  refine bS X.hC ho hw (by rcases heq with rfl|rfl<;>simp) ?_
  have hex:∀f:Operand→Value,execOp f ⟨dst,op,ty,pos,c8,g⟩=(do Instr.mapUpdate T (f x) (f y) (f z);pure .skip:Sem Next):=by
   intro f;rcases heq with rfl|rfl<;>simp only[execOp]
  rw[hex,aE hx,aE hy,aE hz]
  simp only[Instr.mapUpdate,aa,aZ tf]
  refine cG jH rfl rfl ?_
  simp only[aa]
  refine hk.chk _ _ ?_
  simp only[aa]
  refine hk.find k _ F Ct.1 ?_
  have fin:∀ob,j6 r kv (mC k v' F) [(r,ob)]→upon X.C X.P X.aB dst (A X.n e X.D) (fun a' s'=>ab X.C X.fn X.aB ops todo (KQ X kk) a' s') (KQ X kk) .skip ⟨X.ro,L1++(r,ob)::R1⟩:=by
   intro ob hL
   show ab _ _ _ _ _ _ _ _
   have:=hle ob hL
   rw[←aX] at this
   exact this
  cases xT:sw k F 0 with
  |some u=>
   obtain⟨j,u⟩:=u
   have SA:=qH xT
   simp only[Nat.sub_zero] at SA
   have aR7:((es[j]?).map (·.key)).getD (kv k)=kv k:=by
    have h1:(es.toList.map (fun e=>(e.key,e.val)))[j]?=some (kv k,u):=by rw[Ct.1];simp[SA.2]
    simp only[List.getElem?_map,Array.getElem?_toList] at h1
    cases he:es[j]? with
    |none=>rfl
    |some e1=>rw[he] at h1;simp at h1;simp[h1.1]
   simp only[aa,Instr.keyThatStays,aR7,hk.stay,if_true,ae]
   refine eH rfl bY rfl<|fin _ ⟨_,_,rfl,?_,?_,?_⟩
   ·simp only[Array.toList_modify,mC,xT]
    exact GB _ _ _ Ct.1
   ·simp only[Array.toList_modify,wQ];exact Ct.2.1
   intro e1 h1
   have:e1.born∈((es.toList.modify j fun e=>{e with key:=kv k,val:=v'}).map (·.born)):=List.mem_map_of_mem (by simpa using h1)
   rw[wQ] at this
   obtain⟨e2,h3,h4⟩:=List.mem_map.1 this
   rw[←h4];exact Ct.2.2 e2 h3
  |none=>
   refine eH rfl bY rfl<|fin _ ⟨_,_,rfl,?_,?_,?_⟩
   ·simp only[Array.toList_push,List.map_append,mC,xT,Ct.1];rfl
   ·simp only[Array.toList_push,List.map_append,List.map_cons,List.map_nil]
    refine List.nodup_append.2 ⟨Ct.2.1,by simp,?_⟩
    intro a ha b hb
    obtain⟨e2,h3,rfl⟩:=List.mem_map.1 ha
    have:=Ct.2.2 e2 h3
    simp only[List.mem_singleton] at hb
    omega
   intro e1 h1
   simp only[Array.toList_push,List.mem_append,List.mem_singleton] at h1
   rcases h1 with h1|rfl
   ·have:=Ct.2.2 e1 h1;omega
   exact Nat.lt_succ_self _
 have hc2:=hc
 unfold muV at hc
 split at hc<;>try (cases hc;done)
 ·rename_i T x y z aA
  dsimp only at aA
  exact main T x y z (.inl aA) (by rw[←hc2,aA])
 rename_i T x y z aA
 dsimp only at aA
 refine main T x y z (.inr aA) ?_
 rw[←hc2,aA];rfl
end
attribute [irreducible] luV asU muV
section
variable {X:Cx} {o:Option JS}
def LG(P:Program)(n:Nat)(p:Oper)(e:Env):Option (FuncId×List Value):=match p.op with
 | .call ⟨.invoke x name,xs,_⟩=>match bn n e x with
  |some (.iface t v)=>match bu P (method (P.types.size+Made.depth) t v name) with
   |some (f,r)=>match xU n e xs.toList with
    |some vs=>bif BD P f then some (f,r::vs) else none
    |none=>none
   |none=>none
  |_=>none
 |_=>none
theorem aiZ(h:LG P n p e=some (f,vs)):FF P f∧∃x name xs at_ t v r ws,p.op= .call ⟨.invoke x name,xs,at_⟩∧bn n e x=some (.iface t v)∧bu P (method (P.types.size+Made.depth) t v name)=some (f,r)∧xU n e xs.toList=some ws∧vs=r::ws:=by
 unfold LG at h
 split at h<;>try (cases h;done)
 rename_i x name xs at_ aA
 split at h<;>try (cases h;done)
 rename_i t v hx
 split at h<;>try (cases h;done)
 rename_i f0 r hm
 split at h<;>try (cases h;done)
 rename_i ws r8
 cases hb:BD P f0 with
 |false=>rw[hb] at h;cases h
 |true=>
  rw[hb] at h
  simp only[cond_true,Option.some.injEq,Prod.mk.injEq] at h
  obtain⟨rfl,rfl⟩:=h
  exact⟨lj hb,x,name,xs,at_,t,v,r,ws,aA,hx,hm,r8,rfl⟩
theorem jpI{V:Value}(hf:∀aC,Sub X.ro aC→dt X.P f vs aC V)(hj:J X (MG [] V o))(h1:dI X.n (LG X.P X.n) o=some (f,vs):=by kernel_rfl)(h3:ei [] o=some []:=by kernel_rfl):J X o:=by
 refine jGN h1 h3 (fun s p e ho hh hc=>?_) hj
 obtain⟨ff,x,name,xs,at_,t,v,r,ws,aA,hx,hm,r8,rfl⟩:=aiZ hc
 rcases p with ⟨dst,op,ty,pos,c8,g⟩
 dsimp only at aA;subst aA
 refine⟨rfl,fun s0 GU u9 ops i tj rest hw s' hs todo Q hk=>?_⟩
 refine bS X.hC tj hw (by simp) ?_
 have e1:=aE (bh (rest:=rest) hx)
 have e2:xs.map (ev X.n (e++rest))=⟨ws⟩:=sj (xy r8)
 simp only[execOp,resolve,e1,e2,ae]
 have hex:((#[Value.iface t v]++(⟨ws⟩:Array Value)).extract 1 (#[Value.iface t v]++(⟨ws⟩:Array Value)).size)=⟨ws⟩:=by simp
 have h0:(#[Value.iface t v]++(⟨ws⟩:Array Value))[0]?=some (.iface t v):=by simp
 simp only[invoke,h0,hex,callMethod,aa,eY]
 refine aW hm ?_
 have mW:(#[r]++⟨ws⟩:Array Value)=⟨r::ws⟩:=by simp
 rw[mW]
 refine ki ff ?_
 have hu:=(dt.use (s:=⟨X.ro,[]⟩) (sz:=s') (fun b o hb=>hs _ _ (GU _ _ hb)) (fun aC h1=>hf aC fun b ob hb=>h1 b ob (.inl hb))).weaken X.hC
 refine Fn.mono hu fun en s1 DN=>?_
 obtain⟨rfl,hle⟩:=DN
 show ab _ _ _ _ _ _ _ _
 rw[aX]
 exact hk.more X.hC hle
theorem jS{f:Oper→Env→Option β}{r:β}(ps:List Nat)(B:Cells)(hv:fq X.n f o=some r)(hB:ei ps o=some B)
 (hy:∀p e,f p e=some r→(∀c,p.op≠ .defer c)∧∀(R:Cells) (Q:Next→St→Prop) (E:Halt→St→Prop),(∀v L',Φ v L'→Q (.value v) ⟨X.ro,L'++R⟩)→bP X.P (execOp (ev X.n e) p) ⟨X.ro,B++R⟩ Q E)
 (hj:∀v L',Φ v L'→J X (nv ps v L' o)):J X o:=by
 obtain⟨ops,i,todo,k,e,w,kn,p,rfl,ho,hw,hc⟩:=dB hv
 intro bW
 have hp:=bI hB
 obtain⟨hd,ht⟩:=hy p e hc
 have:ab X.C X.fn X.aB ops (i::todo) (KQ X k) (A X.n e X.D) ⟨X.ro,B++den (dF ps 0 w)⟩:=by
  refine bS X.hC ho hw hd<|ht _ _ _ fun v L' qt=>?_
  have:=hj v L' qt
  rw[ou ho] at this
  have:=this bW
  simp only[JP,gF] at this
  show ab _ _ _ _ _ _ _ _
  rw[aX]
  exact this
 have hle:(⟨X.ro,B++den (dF ps 0 w)⟩:St).le ⟨X.ro,den w⟩:=⟨[],by rw[List.append_nil];exact hp,fun b o hb=> .inl hb⟩
 exact this.more X.hC hle
end
attribute [irreducible] LG
section
variable {X:Cx} {o:Option JS}
def iaA(P:Program)(n:Nat)(p:Oper)(e:Env):Option (Nat×Nat×Int×Nat×Nat):=match p.op with
 | .indexAddr T x y=>match aY P T with
  |some ⟨.array len E,_,_,_⟩=>match aY P E with
   |some te=>match bn n e x with
    |some (.pointer (some ⟨b,off,none⟩))=>match bn n e y with
     |some (.int _ ix)=>some (b,off,ix,len,te.size)
     |_=>none
    |_=>none
   |none=>none
  |_=>none
 |_=>none
theorem GM{len:Nat}(ix:Int)(hi:0≤ix∧ix <len)(hj:J X (kp (.pointer (some ⟨b,off+ix.toNat*sz,none⟩)) o))(hv:dI X.n (iaA X.P X.n) o=some (b,off,ix,len,sz):=by kernel_rfl):J X o:=by
 refine jG hv (fun s p e ho hh hf=>?_) hj
 unfold iaA at hf
 split at hf<;>try (cases hf;done)
 rename_i T x y aA
 split at hf<;>try (cases hf;done)
 rename_i aBA E _ _ _ dV
 split at hf<;>try (cases hf;done)
 rename_i te ui
 split at hf<;>try (cases hf;done)
 rename_i b' asG hx
 split at hf<;>try (cases hf;done)
 rename_i ik ix' hy
 simp only[Option.some.injEq,Prod.mk.injEq] at hf
 obtain⟨rfl,rfl,rfl,rfl,rfl⟩:=hf
 obtain⟨bC,tf⟩:=av dV
 obtain⟨Bh,qT⟩:=av ui
 have key:∀s,Yields X.P X.n e p s (.pointer (some ⟨b',asG+ix'.toNat*te.size,none⟩)):=by
  intro s s' nu f hf K E hK
  simp only[execOp,aA,Instr.indexAt,Instr.sureAddr,hf _ _ hx,hf _ _ hy,asIntOf,aa,ae,aZ tf,hi,and_self,if_true,cg qT,dR]
  exact hK
 exact⟨by rw[aA];rfl,fun _=>key _,fun _=>key⟩
def saV(P:Program)(n:Nat)(p:Oper)(e:Env):Option (Nat×Nat×Int×Nat):=match p.op with
 | .slice T x none (some z) none=>match aY P T with
  |some ⟨.array len E,_,_,_⟩=>match aY P E with
   |some _=>match bn n e x with
    |some (.pointer (some ⟨b,off,none⟩))=>match bn n e z with
     |some (.int _ ix)=>some (b,off,ix,len)
     |_=>none
    |_=>none
   |none=>none
  |_=>none
 |_=>none
theorem jah{len:Nat}(hi:Int)(hl:0≤hi∧hi≤len)(hj:J X (kp (.slice (some ⟨b,off,none⟩) hi.toNat len) o))(hv:dI X.n (saV X.P X.n) o=some (b,off,hi,len):=by kernel_rfl):J X o:=by
 refine jG hv (fun s p e ho hh hf=>?_) hj
 unfold saV at hf
 split at hf<;>try (cases hf;done)
 rename_i T x z aA
 split at hf<;>try (cases hf;done)
 rename_i aBA E _ _ _ dV
 split at hf<;>try (cases hf;done)
 rename_i te ui
 split at hf<;>try (cases hf;done)
 rename_i b' asG hx
 split at hf<;>try (cases hf;done)
 rename_i ik ix' hy
 simp only[Option.some.injEq,Prod.mk.injEq] at hf
 obtain⟨rfl,rfl,rfl,rfl⟩:=hf
 obtain⟨bC,tf⟩:=av dV
 obtain⟨Bh,qT⟩:=av ui
 have key:∀s,Yields X.P X.n e p s (.slice (some ⟨b',asG,none⟩) ix'.toNat aBA):=by
  intro s s' nu f hf K E hK
  simp only[execOp,aA,Option.map_some,Option.map_none,Instr.sliceAt,Instr.sliceBounds,Instr.sliceBound,Instr.sureAddr,hf _ _ hx,hf _ _ hy,asIntOf,aa,ae,aZ tf,Option.isSome_none,Bool.false_eq_true,if_false,hl,and_self,if_true,cg qT,Nat.zero_mul,dR,Nat.add_zero,ite_self,Nat.sub_zero]
  exact hK
 exact⟨by rw[aA];rfl,fun _=>key _,fun _=>key⟩
end
theorem oD{v:Value}(h:s.has b (.cells ⟨l⟩ t fz))(hv:nth l off=some v):cB s b off 1 [v]:=
 ⟨_,_,_,h,by rw[rY] at hv;simp[iZ (show off+1≤l.length by have:=(List.getElem?_eq_some_iff.1 hv).1;omega),List.drop_eq_getElem_cons (List.getElem?_eq_some_iff.1 hv).1,(List.getElem?_eq_some_iff.1 hv).2]⟩
theorem adr{o m:Nat}{v:Value}(h:cB s b o m l)(hv:nth l off=some v):cB s b (o+off) 1 [v]:=
 h.part off 1 (by rw[rY] at hv;simp[iZ (show off+1≤l.length by have:=(List.getElem?_eq_some_iff.1 hv).1;omega),List.drop_eq_getElem_cons (List.getElem?_eq_some_iff.1 hv).1,(List.getElem?_eq_some_iff.1 hv).2])
open Go.ConcR (KK wgBlock WgAt stA smA rd wr)
def TT(T:Goroutine→St→Prop)(b:Frame)(zu:List Item)(cs:List Frame)(n:Nat)(D:List Deferred)(ro:Nat→Option Obj)(o:Option JS):Prop:=
 ∀e w kn,o=some ⟨.fin .normal,e,w,kn⟩→Knows ro kn.c→T (G (aK b (A n e D) zu) cs) ⟨ro,den w⟩
def CT(hm:P.follows .mixedOrders=true)(hT:Closed P main T)(b:Frame)(zu:List Item)(cs:List Frame)(n:Nat)(D:List Deferred)(ro:Nat→Option Obj):Cx:=
 ⟨P,fun m T'=>m=main∧T'=T,by rintro _ _ ⟨rfl,rfl⟩;exact hT,hm,b.fn,none,n,D,ro,jU T b zu cs⟩
def Va:Option JS→Bool
 |some ⟨.fin .normal,_,_,_⟩=>true
 |_=>false
def opO(ops:Array Oper)(todo:List Nat):Option JS→Option JS
 |some ⟨.fin .normal,e,w,kn⟩=>some ⟨.ops ops todo [],e,w,⟨kn.c,[]⟩⟩
 |_=>none
def cdO(c:Code):Option JS→Option JS
 |some ⟨.fin .normal,e,w,kn⟩=>some ⟨.code c [],e,w,⟨kn.c,[]⟩⟩
 |_=>none
def stO(dst:Option Tmp)(v:Value):Option JS→Option JS
 |some ⟨p,e,w,kn⟩=>some ⟨p,upd dst v e,w,kn⟩
 |none=>none
def nwO(dst:Option Tmp)(v:Value)(q:Nat)(ob:Obj):Option JS→Option JS
 |some ⟨p,e,w,kn⟩=>some ⟨p,upd dst v e,.b q ob::w,kn⟩
 |none=>none
def adO(L:Cells):Option JS→Option JS
 |some ⟨p,e,w,kn⟩=>some ⟨p,e,.l L::w,kn⟩
 |none=>none
def evO(n:Nat)(x:Operand):Option JS→Option Value
 |some ⟨_,e,_,_⟩=>bn n e x
 |none=>none
def aVr(n:Nat)(xs:List Operand):Option JS→Option (List Value)
 |some ⟨_,e,_,_⟩=>xU n e xs
 |none=>none
def vaO(P:Program)(n:Nat)(a:Oper):Option JS→Option Value
 |some ⟨_,e,_,_⟩=>aco P n e a
 |none=>none
theorem aaW(h:Va o=true):∃e w kn,o=some ⟨.fin .normal,e,w,kn⟩:=by
 unfold Va at h
 split at h
 ·exact⟨_,_,_,rfl⟩
 cases h
def fr0(f:FuncId)(k:CallKind):Frame:={(default:Frame) with fn:=f,kind:=k,roundOf:=none}
section
variable {P:Program} {main:Bool} {T:Goroutine→St→Prop} {b:Frame} {zu:List Item} {cs:List Frame} {n:Nat} {D:List Deferred} {ro:Nat→Option Obj} {o:Option JS} {ops:Array Oper}
theorem acN(h:TT T b zu cs n D ro o)(hQ:X.Q=jU T b zu cs)(hn:X.n=n)(hD:X.D=D)(AP:X.ro=ro)(h1:Va o=true):J X o:=by
 subst hn hD AP
 obtain⟨e,w,kn,rfl⟩:=aaW h1
 intro bW
 show X.Q .normal _ _
 rw[hQ]
 exact h _ _ _ rfl bW
theorem xM{hm:P.follows .mixedOrders=true}{hT:Closed P main T}(h:TT T b zu cs n D ro o)(h1:Va o=true:=by kernel_rfl):J (CT hm hT b zu cs n D ro) o:=acN h rfl rfl rfl rfl h1
theorem azN{hm:P.follows .mixedOrders=true}{hT:Closed P main T}(h:TT T b zu cs n D ro o)(h1:Va o=true:=by kernel_rfl):J ((CT hm hT b zu cs n D pK).at ro) o:=acN h rfl rfl rfl rfl h1
theorem azM{hm:P.follows .mixedOrders=true}{hT:Closed P main T}(h:TT T b zu cs n (eC bd::D) ro o)(h1:Va o=true:=by kernel_rfl):J ((CT hm hT b zu cs n D ro).dm bd) o:=acN h rfl rfl rfl rfl h1
theorem vD(hm:P.follows .mixedOrders=true)(hT:Closed P main T)(hj:J (CT hm hT b zu cs n D ro) (opO ops todo o))(hk:b.kind≠ .early:=by decide)(hr:b.roundOf=none:=by rfl):TT T b (.inRegion ops todo::zu) cs n D ro o:=by
 rintro e w kn rfl bW
 exact hj bW main T ⟨rfl,rfl⟩ b zu cs rfl hk hr fun e a s q=>q
theorem azO(hm:P.follows .mixedOrders=true)(hT:Closed P main T){c:Code}(hj:J (CT hm hT b zu cs n D ro) (cdO c o))(hk:b.kind≠ .early:=by decide)(hr:b.roundOf=none:=by rfl):TT T b (.code c::zu) cs n D ro o:=by
 rintro e w kn rfl bW
 exact hj bW main T ⟨rfl,rfl⟩ b zu cs rfl hk hr fun e a s q=>q
theorem tSt(hT:Closed P main T)(ef:Env)(wf:List Sg)(ps:List Nat)(h:∀rest,TT T b zu cs n D ro (some ⟨.fin .normal,ef++rest,wf,⟨[],[]⟩⟩))(h1:uM (pF ef) o=some ef:=by kernel_rfl)(h2:rh ps o=some wf:=by kernel_rfl)(h3:lkE (pF ef) ef=some ef:=by kernel_rfl):TT T b zu cs n D ro o:=by
 rintro e w kn rfl bW
 obtain⟨rest,he⟩:=gq (n:=n) (D:=D) (kO (by rw[tb] at h1;exact h1)) (kO h3)
 rw[he]
 exact hT.mono _ ⟨ro,den wf⟩ _ (dS (lS h2) (Sub.refl _)) (h rest _ _ _ rfl fun _ h=>(by cases h))
section
variable {k:List Item} {rest l:List Code} (hT:Closed P main T)
include hT
theorem qi(hl:gP l= .region id ops false::rest)(h:∀l',gP l'=rest→TT T b (.inRegion ops (List.range ops.size)::(l'.map .code++k)) cs n D ro o):TT T b (l.map .code++k) cs n D ro o:=
 fun e w kn ho bW=>dK hT hl fun l' y8=>h l' y8 e w kn ho bW
theorem Wh{c:Operand}{x y:Code}{t q:Bool}(hl:gP l= .cond c x y::rest)(hq:q=t)(h:∀l',gP l'=rest→TT T b (.code (if t then x else y)::(l'.map .code++k)) cs n D ro o)(hc:evO n c o=some (.bool q):=by kernel_rfl):TT T b (l.map .code++k) cs n D ro o:=by
 subst hq
 rintro e w kn rfl bW
 exact AE hT hl (by rw[eF];exact aE hc) fun l' y8=>h l' y8 e w kn rfl bW
theorem Mh{c:Code}(hl:gP l= .block id c::rest)(h:∀l',gP l'=rest→TT T b ([c].map .code++(.inBlock id::(l'.map .code++k))) cs n D ro o):TT T b (l.map .code++k) cs n D ro o:=
 fun e w kn ho bW=>vQ hT hl fun l' y8=>h l' y8 e w kn ho bW
theorem aoU{c:Code}(hl:gP l= .loop c::rest)(h:∀l',gP l'=rest→TT T b ([c].map .code++(.inLoop c::(l'.map .code++k))) cs n D ro o):TT T b (l.map .code++k) cs n D ro o:=
 fun e w kn ho bW=>MN hT hl fun l' y8=>h l' y8 e w kn ho bW
theorem aoV{c:Code}(hl:gP l=c::rest)(h:∀l',gP l'=rest→TT T b (.code c::(l'.map .code++k)) cs n D ro o):TT T b (l.map .code++k) cs n D ro o:=
 fun e w kn ho bW=>nX hT hl fun l' y8=>h l' y8 e w kn ho bW
theorem aoS(h:TT T b k cs n D ro o):TT T b (.code .skip::k) cs n D ro o:=fun e w kn ho bW=>NP hT (h e w kn ho bW)
theorem aoW{k':List Item}(hk:exitTo id k=some k')(h:TT T b k' cs n D ro o):TT T b (.code (.exit id)::k) cs n D ro o:=fun e w kn ho bW=>NQ hT hk (h e w kn ho bW)
theorem aoX(h:TT T b k cs n D ro o):TT T b (.inBlock id::k) cs n D ro o:=fun e w kn ho bW=>CW hT (h e w kn ho bW)
theorem We(h:TT T b k cs n D ro o):TT T b (.inRegion ops []::k) cs n D ro o:=fun e w kn ho bW=>iy hT (h e w kn ho bW)
theorem acO{c:Code}(h:TT T b ([c].map .code++(.inLoop c::k)) cs n D ro o):TT T b (.inLoop c::k) cs n D ro o:=fun e w kn ho bW=>zp hT (h e w kn ho bW)
theorem azI{a:Oper}{f:Nat→Value}{ob:Obj}(ho:ops[i]?=some a) (hg:a.guard=none) (tk:∀e q,TO P (execOp (ev n e) a) q=some (ob,f q)) (hk:b.kind≠ .early) (hr:b.roundOf=none)
 (h:∀q,TT T b (.inRegion ops todo::k) cs n D ro (nwO a.dst (f q) q ob o)):TT T b (.inRegion ops (i::todo)::k) cs n D ro o:=by
 rintro e w kn rfl bW
 refine sY hT ho (dA _ _ hg) hk hr ?_
 rw[eF]
 refine Gw (f:=f) (fun q _=>⟨_,rfl,?_⟩) _ (tk e)
 rw[aX]
 have:=h q _ _ _ rfl bW
 rw[iQ] at this
 exact this
theorem azF{a:Oper}(v:Value)(ho:ops[i]?=some a) (hg:a.guard=none) (hk:b.kind≠ .early) (hr:b.roundOf=none) (h:TT T b (.inRegion ops todo::k) cs n D ro (stO a.dst v o)) (hv:vaO P n a o=some v:=by kernel_rfl):TT T b (.inRegion ops (i::todo)::k) cs n D ro o:=by
 rintro e w kn rfl bW
 refine sY hT ho (dA _ _ hg) hk hr ?_
 rw[eF]
 refine Ah hv _ (Ext.refl _) _ (fun _ _ h=>aE h) _ _ ⟨v,rfl,?_⟩
 rw[aX]
 exact h _ _ _ rfl bW
theorem tLd{a:Oper}(v:Value)(ho:ops[i]?=some a) (hg:a.guard=none) (aA:a.op= .load U x) (ht:(aY P U).map (·.agg)=some false) (hk:b.kind≠ .early) (hr:b.roundOf=none) (hb:∀e w kn,o=some ⟨.fin .normal,e,w,kn⟩→(⟨ro,den w⟩:St).has q (.cells ⟨[v]⟩ t fz))
 (h:TT T b (.inRegion ops todo::k) cs n D ro (stO a.dst v o)) (hx:evO n x o=some (.pointer (some ⟨q,0,none⟩)):=by kernel_rfl):TT T b (.inRegion ops (i::todo)::k) cs n D ro o:=by
 rintro e w kn rfl bW
 refine sY hT ho (dA _ _ hg) hk hr ?_
 rw[eF]
 cases dV:aY P U with
 |none=>rw[dV] at ht;cases ht
 |some z=>
 rw[dV] at ht
 simp only[Option.map_some,Option.some.injEq] at ht
 obtain⟨bC,tf⟩:=av dV
 rw[ht] at tf
 simp only[execOp,aA,Instr.loadAt,aE hx,Instr.sureAddr,loadVar,aa,ae,kH tf,Bool.false_eq_true,if_false]
 refine vz ⟨[v],t,fz,hb _ _ _ rfl,rfl⟩ ⟨v,rfl,?_⟩
 rw[aX]
 exact h _ _ _ rfl bW
theorem aNV{a:Oper}(v:Value)(ho:ops[i]?=some a) (hg:a.guard=none) (aA:a.op= .load U x) (ht:(aY P U).map (·.agg)=some false) (hk:b.kind≠ .early) (hr:b.roundOf=none) (ps:List Nat) (t:TypeId)
 (h:TT T b (.inRegion ops todo::k) cs n D ro (stO a.dst v o)) (hx:evO n x o=some (.pointer (some ⟨q,0,none⟩)):=by kernel_rfl) (hd:ei ps o=some [(q,.cells ⟨[v]⟩ t (0,0))]:=by kernel_rfl):TT T b (.inRegion ops (i::todo)::k) cs n D ro o:=
 tLd hT v ho hg aA ht hk hr (fz:=(0,0)) (t:=t) (q:=q) (fun e w kn he=>by
  subst he
  exact .inr ((bI hd).mem_iff.2 (List.mem_append_left _ (List.mem_singleton.2 rfl)))) h hx
end
theorem arF(hT:Closed P main T){a:Oper}{xs:Array Operand}(ho:ops[i]?=some a) (hg:a.guard=none) (aA:a.op= .defer ⟨.value (.func f),xs,ats⟩) (hk:b.kind≠ .early) (hr:b.roundOf=none)
 (h:TT T b k cs n ({target:= .fn (.func f) ⟨[]⟩,args:=⟨vs⟩}::D) ro (stO a.dst undef o)) (hx:aVr n xs.toList o=some vs:=by kernel_rfl):TT T b (.inRegion ops [i]::k) cs n D ro o:=by
 rintro e w kn rfl bW
 have hC:∀m T',(fun m T'=>m=main∧T'=T:Class) m T'→Closed P m T':=by rintro _ _ ⟨rfl,rfl⟩;exact hT
 have key:ab (fun m T'=>m=main∧T'=T) b.fn none ops [i] (jU T b k cs) (A n e D) ⟨ro,den w⟩:=by
  refine MM (P:=P) hC ho (dA _ _ hg) (.inl rfl) ?_
  rw[eF]
  have e1:ev n e (.func f)= .func (.func f) #[] #[]:=rfl
  have e2:xs.map (ev n e)=⟨vs⟩:=sj hx
  simp only[execOp,aA,resolve,e1,Deferred.ofValue,ae,e2]
  refine⟨rfl,?_⟩
  have hA:({A n e D with defers:={target:= .fn (.func f) ⟨[]⟩,args:=⟨vs⟩}::(A n e D).defers}:Act).put a.dst undef=A n (upd a.dst undef e) ({target:= .fn (.func f) ⟨[]⟩,args:=⟨vs⟩}::D):=by
   rw[←aX];rfl
  have he:(⟨[]⟩:Array Value)++(⟨vs⟩:Array Value)=⟨vs⟩:=by simp
  rw[he]
  have:=h _ _ _ rfl bW
  rw[←hA] at this
  exact fun m T' hc b' k' IK h1 h2 h3 h4=>by
   obtain⟨rfl,rfl⟩:=hc
   exact iy hT (h4 .normal _ _ this)
 exact key main T ⟨rfl,rfl⟩ b k cs rfl hk hr fun e a s q=>q
end
attribute [irreducible] Va opO cdO
structure ajo(L:Nat→Option Obj)(X:Cells)(ro aG:Nat→Option Obj):Prop where
 of:∀q o,L q=some o→(q,o)∈X
 on:∀q o,(q,o)∈X→L q=some o
 sub:Sub ro aG
 kn:Knows aG X
 nd:(X.map (·.1)).Nodup
 ap:∀q o,(q,o)∈X→ro q=none
def bkO(L:Cells):Option JS→Option JS
 |some ⟨p,e,w,_⟩=>some ⟨p,e,.l L::w,⟨[],[]⟩⟩
 |none=>none
def Tg(ps:List Nat):Option JS→Option Cells
 |some ⟨_,_,w,_⟩=>some (den (dF ps 0 w))
 |none=>none
def Xg:Option JS→Option JS
 |some ⟨p,e,_,kn⟩=>some ⟨p,e,[],⟨kn.c,[]⟩⟩
 |none=>none
theorem CZ:∀(w:List Sg) (k:Nat),dF [] k w=w
 | [],_=>rfl
 |x::w,k=>by
  simp only[dF,a8]
  rw[CZ w]
  rfl
theorem ajo.back{L:Nat→Option Obj}{X:Cells}{ro roK:Nat→Option Obj}{rwK:Cells}(h:ajo L X ro aG)(hs:Sub aG roK):
 (∀w,aR ⟨roK,rwK⟩ w→(∀b o,L b=some o→w.heap[b]?=some o)→aR ⟨ro,X++rwK⟩ w)∧∀b,(⟨ro,X++rwK⟩:St).knows b→L b≠none∨(⟨roK,rwK⟩:St).knows b:=by
 refine⟨fun w hw hL=>⟨fun q o hq=>hw.ro q o (hs _ _ (h.sub _ _ hq)),fun q o hq=>?_,?_,fun q o hq=>?_⟩,fun q hq=>?_⟩
 ·rcases List.mem_append.1 hq with hq|hq
  ·exact hL q o (h.on q o hq)
  exact hw.rw q o hq
 ·show ((X++rwK).map (·.1)).Nodup
  rw[List.map_append,List.nodup_append]
  refine⟨h.nd,hw.nodup,fun q hq q' Fa e=>?_⟩
  subst e
  obtain⟨⟨q1,o1⟩,h1,rfl⟩:=List.mem_map.1 hq
  obtain⟨⟨q2,o2⟩,h2,e2⟩:=List.mem_map.1 Fa
  simp only at e2
  subst e2
  have h3:=hs _ _ (h.kn _ h1)
  have h4:=hw.apart _ _ h2
  dsimp only at h3 h4
  rw[h4] at h3
  cases h3
 ·show ro q=none
  rcases List.mem_append.1 hq with hq|hq
  ·exact h.ap q o hq
  have h2:roK q=none:=hw.apart q o hq
  cases hr:ro q with
  |none=>rfl
  |some o'=>rw[hs _ _ (h.sub _ _ hr)] at h2;cases h2
 rcases hq with hq| ⟨o,hq⟩
 ·have hq:ro q≠none:=hq
  cases hr:ro q with
  |none=>exact absurd hr hq
  |some o'=>exact .inr (.inl (by show roK q≠none;rw[hs _ _ (h.sub _ _ hr)];simp))
 rcases List.mem_append.1 hq with h'|h'
 ·exact .inl (by rw[h.on q o h'];simp)
 exact .inr (.inr ⟨o,h'⟩)
section
variable {ι:Type} {E:dY ι} {Q:Machine→Outcome→World→Trace→Prop} {b:Frame} {zu:List Item} {cs:List Frame} {n:Nat} {D:List Deferred} {ro:Nat→Option Obj} {o:Option JS} {ops:Array Oper} {L:Nat→Option Obj}
theorem arE{tm:Bool}(iw ic:Nat)(X:Cells)(iV:Closed E.P true (TL E.P eO (fun _=>none) (Calm E.os E.out) Q))
 (h:∀L aG,ajo L X ro aG→E.Wg≠E.Ch→L E.Ch=none→TT (TM E L Q 0 false [] 0) b zu cs n D aG (Xg o))
 (hW:ei [iw,ic] o=some [(E.Wg,wgBlock E.ty 0 0),(E.Ch,.chan 0 #[] false 0 0 tm)]:=by kernel_rfl)(hX:Tg [iw,ic] o=some X:=by kernel_rfl):TT (TL E.P eO (fun _=>none) (Calm E.os E.out) Q) b zu cs n D ro o:=by
 rintro e w kn rfl bW
 refine Closed.jR iV rfl fun⟨w0,XA⟩=>?_
 have hp:=bI hW
 simp only[Tg,Option.some.injEq] at hX
 have Su:=hp
 dsimp only at Su
 rw[hX] at Su
 have hm:∀x,x∈den w↔x=(E.Wg,wgBlock E.ty 0 0)∨x=(E.Ch,.chan 0 #[] false 0 0 tm)∨x∈X:=fun x=>by
  rw[Su.mem_iff]
  simp
 have mo:=(Su.map (·.1)).nodup_iff.1 XA.nodup
 simp only[List.cons_append,List.nil_append,List.map_cons,List.nodup_cons,List.mem_cons,not_or] at mo
 obtain⟨⟨dX,hW1⟩,hC1,QJ⟩:=mo
 have zy:∀x∈X,x∈den w:=fun x hx=>(hm x).2 (.inr (.inr hx))
 have aEg:(E.Wg,wgBlock E.ty 0 0)∈den w:=(hm _).2 (.inl rfl)
 have aho:(E.Ch,Obj.chan 0 #[] false 0 0 tm)∈den w:=(hm _).2 (.inr (.inl rfl))
 have Nl:∀y∈X,y.1≠E.Wg∧y.1≠E.Ch:=fun y hy=>⟨fun e=>hW1 (e▸List.mem_map.2 ⟨_,hy,rfl⟩),fun e=>hC1 (e▸List.mem_map.2 ⟨_,hy,rfl⟩)⟩
 let L:Nat→Option Obj:=fun q=>(X.find? fun y=>y.1==q).map (·.2)
 have UO:∀q o,L q=some o→(q,o)∈X:=fun q o hq=>by
  obtain⟨y,hy,rfl⟩:=Option.map_eq_some_iff.1 hq
  obtain⟨h1,h2⟩:=oO hy
  subst h2
  exact h1
 have aT3:∀q o,(q,o)∈X→L q=some o:=fun q o hq=>by
  show (X.find? fun y=>y.1==q).map (·.2)=some o
  rw[wF QJ hq];rfl
 have UP:L E.Ch=none:=by
  cases hq:L E.Ch with
  |none=>rfl
  |some o=>exact absurd rfl (Nl _ (UO _ _ hq)).2
 have mW:∀q o,(q,o)∈X→ro q=none:=fun q o hq=>XA.apart q o (zy _ hq)
 have fJ:Sub ro (St.freeze ⟨ro,X⟩).ro:=fun q o hq=>St.nV (s:=⟨ro,X⟩) hq fun q o hq=>mW q o hq
 have agv:∀q,(∃o,(q,o)∈den w)→(q=E.Wg∨q=E.Ch)→¬(St.freeze ⟨ro,X⟩).knows q:=by
  rintro q ⟨o,ho⟩ hq (hk| ⟨o',Fb⟩)
  ·simp only[St.freeze] at hk
   split at hk
   ·rename_i y hy
    obtain⟨h1,h2⟩:=oO hy
    have:=Nl _ h1
    rcases hq with e|e
    ·exact this.1 (h2.trans e)
    exact this.2 (h2.trans e)
   exact hk (XA.apart q o ho)
  cases Fb
 have aDh:ajo L X ro (St.freeze ⟨ro,X⟩).ro:=⟨UO,aT3,fJ,fun x hx=>St.tv (s:=⟨ro,X⟩) (by rcases x with ⟨q,o⟩;exact hx) QJ,QJ,mW⟩
 refine O0 (E:=E) (L:=L) (s':=St.freeze ⟨ro,X⟩) rfl dX aEg ⟨tm,aho⟩ ?_ (agv _ ⟨_,aEg⟩ (.inl rfl)) (agv _ ⟨_,aho⟩ (.inr rfl)) (fun q ⟨o,ho⟩=>by cases ho) (fun q o hq=>⟨.inr (zy _ (UO _ _ hq)),Nl _ (UO _ _ hq)⟩) ?_
 ·refine⟨den w,by simp[St.freeze],fun q o hq=>?_⟩
  simp only[St.freeze] at hq
  split at hq
  ·rename_i y hy
   obtain⟨h1,h2⟩:=oO hy
   cases hq
   subst h2
   exact .inr (zy _ h1)
  exact .inl hq
 exact(h L _ aDh dX UP _ _ _ rfl (bW.up fJ)).1
theorem aNY{os:List ι}{a:Oper}{bs:List Nat}(h:TT (TM E L Q 1 false os 0) b k cs n D ro (stO a.dst (.tuple #[]) o))(ho:ops[0]?=some a) (hg:a.guard=none) (aA:a.op= .call ⟨.value (.func f),#[x,.const (.int .i64 1)],ats⟩) (hf:FF E.P f) (hk:b.kind≠ .early) (hr:b.roundOf=none) (Jl:os.length <E.max)
 (agX:HX E.P E.ty os.length (Frame.enter E.P f #[.pointer (some ⟨E.Wg,0,none⟩),.int .i64 1] .normal)=some bs) (hbs:∀b∈bs,b=E.Wg) (hx:evO n x o=some (.pointer (some ⟨E.Wg,0,none⟩)):=by kernel_rfl):TT (TM E L Q 0 false os 0) b (.inRegion ops [0]::k) cs n D ro o:=by
 rintro e w kn rfl bW
 have hT:Closed E.P true (TM E L Q 0 false os 0):=fA (E:=E) false os (fun e=>(by cases e))
 have UN:Closed E.P true (TM E L Q 1 false os 0):=fA (E:=E) false os (fun e=>(by cases e))
 refine PT (rest:=[]) hT ho hg hk hr aA hf ?_
 have nB:(#[x,.const (.int .i64 1)]:Array Operand).map (A n e D).eval= #[.pointer (some ⟨E.Wg,0,none⟩),.int .i64 1]:=by
  rw[eF]
  simp only[List.map_toArray,List.map_cons,List.map_nil,aE hx]
  rfl
 rw[nB]
 refine⟨LD (E:=E) agX hbs Jl ?_,fun e=>(by cases e)⟩
 rw[fO,ho]
 simp only[Option.bind_some]
 rw[aX]
 exact(iy UN (h _ _ _ rfl bW)).1
theorem tGo{os:List ι}(oo:ι){a:Oper}(L1:Cells)(ho:ops[i]?=some a) (hg:a.guard=none) (aA:a.op= .go ⟨.value y,#[],ats⟩) (hk:b.kind≠ .early) (hr:b.roundOf=none)
 (h:∀aG,Sub ro aG→Knows aG L1→eS E.P false (E.JE oo) (born E.P {target:= .fn (.func f) ⟨ca⟩,args:= #[]}) ⟨aG,[]⟩∧TT (TM E L Q 0 false (os++[oo]) 0) b (.inRegion ops todo::k) cs n D aG (Xg (stO a.dst undef o)))
 (hy:evO n y o=some (.func (.func f) ⟨[]⟩ ⟨ca⟩):=by kernel_rfl) (hL:Tg [] o=some L1:=by kernel_rfl):TT (TM E L Q 1 false os 0) b (.inRegion ops (i::todo)::k) cs n D ro o:=by
 rintro e w kn rfl bW
 have UN:Closed E.P true (TM E L Q 1 false os 0):=fA (E:=E) false os (fun e=>(by cases e))
 refine Closed.jR UN rfl fun pR=>?_
 obtain⟨w0,XA⟩:=pR
 have mo:((den w).map (·.1)).Nodup:=XA.nodup
 have mW:∀q o,(q,o)∈den w→ro q=none:=XA.apart
 have fJ:Sub ro (St.freeze ⟨ro,den w⟩).ro:=fun q o hq=>St.nV (s:=⟨ro,den w⟩) hq mW
 have auU:Knows (St.freeze ⟨ro,den w⟩).ro L1:=fun x hx=>St.tv (s:=⟨ro,den w⟩) (by rcases x with ⟨q,o⟩;simp only[Tg,Option.some.injEq] at hL;rw[←hL,CZ] at hx;exact hx) mo
 obtain⟨h1,h2⟩:=h _ fJ auU
 have bU:=fun w'=>Fo (P:=E.P) (main:=true) (b:=b) (a:=A n e D) (k:=k) (cs:=cs) (rest:=todo) ho hg hk hr aA (by rw[eF];exact aE hy) w'
 have:=h2 _ _ _ rfl (bW.up fJ)
 rw[←aX] at this
 exact⟨TC.mono (St.CJ ⟨ro,den w⟩) (JM (E:=E) (o:=oo) (s:=St.freeze ⟨ro,den w⟩) rfl rfl (fun w' _=>bU w') h1 this.1),fun e=>(by cases e)⟩
theorem arI{os:List ι}{a:Oper}(L1:Cells)(ho:ops[i]?=some a) (hg:a.guard=none) (aA:a.op= .go ⟨.value y,#[],ats⟩) (hk:b.kind≠ .early) (hr:b.roundOf=none)
 (h:∀aG,Sub ro aG→Knows aG L1→E.closes ⟨aG,[]⟩ (born E.P {target:= .fn (.func f) ⟨ca⟩,args:= #[]})∧TT (TM E L Q 0 true os 0) b (.inRegion ops todo::k) cs n D aG (Xg (stO a.dst undef o)))
 (hy:evO n y o=some (.func (.func f) ⟨[]⟩ ⟨ca⟩):=by kernel_rfl) (hL:Tg [] o=some L1:=by kernel_rfl):TT (TM E L Q 0 false os 0) b (.inRegion ops (i::todo)::k) cs n D ro o:=by
 rintro e w kn rfl bW
 have UN:Closed E.P true (TM E L Q 0 false os 0):=fA (E:=E) false os (fun e=>(by cases e))
 refine Closed.jR UN rfl fun pR=>?_
 obtain⟨w0,XA⟩:=pR
 have mo:((den w).map (·.1)).Nodup:=XA.nodup
 have mW:∀q o,(q,o)∈den w→ro q=none:=XA.apart
 have fJ:Sub ro (St.freeze ⟨ro,den w⟩).ro:=fun q o hq=>St.nV (s:=⟨ro,den w⟩) hq mW
 have auU:Knows (St.freeze ⟨ro,den w⟩).ro L1:=fun x hx=>St.tv (s:=⟨ro,den w⟩) (by rcases x with ⟨q,o⟩;simp only[Tg,Option.some.injEq] at hL;rw[←hL,CZ] at hx;exact hx) mo
 obtain⟨h1,h2⟩:=h _ fJ auU
 have bU:=fun w'=>Fo (P:=E.P) (main:=true) (b:=b) (a:=A n e D) (k:=k) (cs:=cs) (rest:=todo) ho hg hk hr aA (by rw[eF];exact aE hy) w'
 have:=h2 _ _ _ rfl (bW.up fJ)
 rw[←aX] at this
 exact⟨TC.mono (St.CJ ⟨ro,den w⟩) (JN (E:=E) (s:=St.freeze ⟨ro,den w⟩) rfl rfl (fun w' _=>bU w') h1 this.1),fun e=>(by cases e)⟩
theorem aoT{os:List ι}{a:Oper}{rc:Operand}{z:Value}{X:Cells}{aC:Nat→Option Obj}(hl:ajo L X pK aC)(bY:Sub aC ro)(UP:L E.Ch=none)(ho:ops[0]?=some a) (hg:a.guard=none) (Sr:∀ρ,bu E.P (execOp ρ a)=some (.comm #[{chan:=ρ rc,send:=none,zero:=z}] true (.recv true))) (hk:b.kind≠ .early) (hr:b.roundOf=none)
 (KW:∀a' oo b' v Y,os=a'++oo::b'→E.VM oo v Y→TT (TM E L Q 0 true (a'++b') 0) b (.inRegion ops todo::k) cs n D ro (adO Y (stO a.dst (.tuple #[v,.bool true]) o)))
 (qA:os=[]→TT (TL E.P eO (fun _=>none) (Calm E.os E.out) Q) b (.inRegion ops todo::k) cs n D pK (bkO X (stO a.dst (.tuple #[z,.bool false]) o)))
 (hx:evO n rc o=some (.chan (some E.Ch)):=by kernel_rfl):TT (TM E L Q 0 true os 0) b (.inRegion ops (0::todo)::k) cs n D ro o:=by
 rintro e w kn rfl bW
 have hT:Closed E.P true (TM E L Q 0 true os 0):=fA (E:=E) true os (fun _=>rfl)
 refine Closed.jR hT rfl fun pR=>?_
 have hvc:ev n e rc= .chan (some E.Ch):=aE hx
 have bU:∀w',stepG E.P true (G (aK b (A n e D) (.inRegion ops (0::todo)::k)) cs) w'= .comm (G (aK b (A n e D) (.inRegion ops (0::todo)::k)) cs) #[rcase E.Ch z] true (.recv true) w' #[]:=by
  intro w'
  have z0:=kR b (A n e D) (.inRegion ops (0::todo)::k)
  simp only[aK] at z0
  have hw:Region.wanted a (yielded ops (A n e D).tmps)=true:=dA _ _ hg
  have jP:(b.kind==CallKind.early)=false:=by simpa using hk
  have gL:stepG E.P true (G (aK b (A n e D) (.inRegion ops (0::todo)::k)) cs) w'=stepG.apply E.P true (aK b (A n e D) (.inRegion ops (0::todo)::k)) cs none (execOp (A n e D).eval a) w':=by
   simp only[G,stepG,stepG.exec,aK,ho,Option.map_some,Option.getD_some,hw,if_true,stepG.oper,Frame.oper?,z0]
   rw[hr]
  have bV:=tO (Sr (ev n e)) w' #[]
  rw[hvc] at bV
  rw[gL,eF]
  simp only[stepG.apply,if_true,bV,aK,jP,Bool.false_eq_true,if_false]
  simp[seen_none,GStep.after,G,rcase]
 have pQ:∀v,Conc.served (G (aK b (A n e D) (.inRegion ops (0::todo)::k)) cs) v=G (aK b (A n (upd a.dst v e) D) (.inRegion ops todo::k)) cs:=by
  intro v
  have:=fO b (A n e D) ops 0 todo k v
  rw[ho] at this
  simp only[Option.bind_some] at this
  rw[aX] at this
  simp only[Conc.served,G] at this ⊢
  rw[this]
 have ur:os=[]→∀pc (g:Goroutine),g.status= .running→(∀w',stepG E.P true g w'= .comm (G (aK b (A n e D) (.inRegion ops (0::todo)::k)) cs) #[rcase E.Ch z] true (.recv true) w' #[])→
  TL E.P (jD pc) L (Io E pc) Q g ⟨ro,den w⟩:=by
  intro tH pc g hg' at2
  obtain⟨hb1,fY⟩:=hl.back (rwK:=den w) bY
  refine V6 (E:=E) (z:=z) (s':=⟨pK,X++den w⟩) UP hg' (fun w' _=>at2 w') hb1 fY ?_
  rw[pQ]
  have:=qA tH _ _ _ rfl fun x hx=>(by cases hx)
  rw[gF] at this
  exact this
 refine⟨Wa (E:=E) (z:=z) rfl (fun w' _=>bU w') (fun a' oo b' v Y tH oI=>?_) fun tH pc=>⟨ur tH pc _ rfl bU,ur tH pc _ rfl fun w'=>bU w'⟩,fun _ tH pc=>ur tH pc _ rfl bU⟩
 rw[pQ]
 have:=KW a' oo b' v Y tH oI _ _ _ rfl bW
 rw[gF] at this
 exact this.1
theorem azH{oo:ι}{a:Oper}{sc sv:Operand}{v:Value}{Y:Cells}(ys:List Nat)(ho:ops[i]?=some a) (hg:a.guard=none) (hse:∀ρ,execOp ρ a=Sem.pure (.comm #[{chan:=ρ sc,send:=some (ρ sv),zero:= .tuple #[]}] true .send)) (hk:b.kind≠ .early) (hr:b.roundOf=none)
 (hs:E.VM oo v Y) (h:TT (eS E.P false E.Iq) b (.inRegion ops todo::k) cs n D ro (CY ys (stO a.dst undef o)))
 (hx:evO n sc o=some (.chan (some E.Ch)):=by kernel_rfl) (hv:evO n sv o=some v:=by kernel_rfl) (hY:ei ys o=some Y:=by kernel_rfl):TT (eS E.P false (E.JE oo)) b (.inRegion ops (i::todo)::k) cs n D ro o:=by
 rintro e w kn rfl bW
 refine eS.stop ?_
 have:=h e w kn
 refine⟨rfl,G (aK b (A n e D) (.inRegion ops (i::todo)::k)) cs,v,.tuple #[],Y,den (dF ys 0 w),bI hY,hs,fun w' pR=>?_,?_⟩
 ·have he:=kR b (A n e D) (.inRegion ops (i::todo)::k)
  simp only[aK] at he
  have avc:ev n e sc= .chan (some E.Ch):=aE hx
  have avb:ev n e sv=v:=aE hv
  have hw:Region.wanted a (yielded ops (A n e D).tmps)=true:=dA _ _ hg
  have jP:(b.kind==CallKind.early)=false:=by simpa using hk
  have aCp:=hse (ev n e)
  rw[avc,avb] at aCp
  have gL:stepG E.P false (G (aK b (A n e D) (.inRegion ops (i::todo)::k)) cs) w'=stepG.apply E.P true (aK b (A n e D) (.inRegion ops (i::todo)::k)) cs none (execOp (A n e D).eval a) w':=by
   simp only[G,stepG,stepG.exec,aK,ho,Option.map_some,Option.getD_some,hw,if_true,stepG.oper,Frame.oper?,he]
   rw[hr]
  rw[gL,eF,aCp]
  simp only[stepG.apply,if_true,Sem.runT,aK,jP,Bool.false_eq_true,if_false]
  simp[seen_none,GStep.after,G,scase]
 have pQ:Conc.served (G (aK b (A n e D) (.inRegion ops (i::todo)::k)) cs) undef=G (aK b (A n (upd a.dst undef e) D) (.inRegion ops todo::k)) cs:=by
  have:=fO b (A n e D) ops i todo k undef
  rw[ho] at this
  simp only[Option.bind_some] at this
  rw[aX] at this
  simp only[Conc.served,G] at this ⊢
  rw[this]
 rw[pQ]
 exact h _ _ _ (by simp only[CY,stO]) bW
theorem arB{dn:Nat}{bs:List Nat}(hf:E.P.funcs[b.fn]?=some fn) (AQ:fn.results= #[]) (zc:BD E.P dn=true) (DO:xD E.P E.ty E.max (Frame.enter E.P dn #[.pointer (some ⟨E.Wg,0,none⟩)] .deferred)=some bs) (hbs:∀b∈bs,b=E.Wg) (ps:List Nat) (hk:b.kind= .deferred) (hr:b.roundOf=none)
 (hd:ei ps o=some [(bd,.deferred (some []))]:=by kernel_rfl):TT (eS E.P false E.Iq) b [] [cN E.P] n [eC bd,{target:= .fn (.func dn) ⟨[]⟩,args:=⟨[.pointer (some ⟨E.Wg,0,none⟩)]⟩}] ro o:=by
 rintro e w kn rfl bW
 have hT2:=eg E.P false E.Iq
 refine hT2.go rfl rfl (g':=G {aK b (A n e [eC bd,{target:= .fn (.func dn) ⟨[]⟩,args:=⟨[.pointer (some ⟨E.Wg,0,none⟩)]⟩}]) [] with mode:= .returning} [cN E.P]) (fun w=>by simp[G,stepG,stepG.exec,aK,hr]) ?_
 have hp:=bI hd
 obtain⟨Lw,Rr,hs⟩:=List.append_of_mem (hp.mem_iff.2 (List.mem_append_left _ (List.mem_singleton.2 rfl)))
 refine unwind_mark (C:=CA E.P) (fun _ _ h=>h) hT2 (.inl rfl) (fr:={aK b (A n e [eC bd,{target:= .fn (.func dn) ⟨[]⟩,args:=⟨[.pointer (some ⟨E.Wg,0,none⟩)]⟩}]) [] with mode:= .returning}) rfl hs<|jK (C:=CA E.P) (fun _ _ h=>h) hT2 (.inl rfl) (lj zc) (ds:=[]) rfl<|eS.stop ?_
 have hq:QuitsD E.P 2 0 (G {aK b (A n e []) [] with mode:= .returning} [cN E.P]):=oe rfl rfl hk hf AQ
 exact HW (E:=E) (c:={aK b (A n e []) [] with mode:= .returning}) (.inl rfl) hq DO hbs
end
theorem azP{S:Goroutine→St→Prop}{c:Code}{ro:Nat→Option Obj}(hf:P.funcs[f]?=some fn) (hb:fn.body=some c) (hn:fn.ntmps=n) (ff:BD P f=true) (hle:Nat.ble ca.length n=true)
 (h:TT (eS P false S) (fr0 f .deferred) ([c].map .code++[]) [cN P] n [] ro (some ⟨.fin .normal,fS 0 ca,[],⟨[],[]⟩⟩)):eS P false S (born P {target:= .fn (.func f) ⟨ca⟩,args:= #[]}) ⟨ro,[]⟩:=by
 have hT:=eg P false S
 refine jK (C:=CA P) (fun _ _ h=>h) hT (fr:={(default:Frame) with fn:=P.funcs.size,defers:=[{target:= .fn (.func f) ⟨ca⟩,args:= #[]}],mode:= .panicking [goexitEntry]}) (.inr ⟨_,rfl⟩) (lj ff) rfl ?_
 show eS P false S (G (Frame.enter P f (#[]++⟨ca⟩) .deferred) [cN P]) ⟨ro,[]⟩
 have iv:Frame.enter P f (#[]++⟨ca⟩) .deferred=aK (fr0 f .deferred) (A n (fS 0 ca) []) [.code c]:=by
  rw[←kS ca n (Nat.le_of_ble_eq_true hle)]
  simp[Frame.enter,aK,hf,hb,hn,fr0]
 rw[iv]
 exact h _ _ _ rfl fun x hx=>(by cases hx)
theorem akN{E:dY ι}{x:LU}(hx:x.OK E.P E.ty){bs:List Nat}(Qz:Bd E.P E.ty E.max (Frame.enter E.P x.wait #[.pointer (some ⟨E.Wg,0,none⟩)] .normal)=some bs)(hbs:∀b∈bs,b=E.Wg)
 {ro:Nat→Option Obj}{a:Oper}(hq:ro q=some (.cells ⟨[.chan (some E.Ch)]⟩ t fz))(ho0:x.q1[0]?=some a) (hg0:a.guard=none) (aRv:a.op= .load U y) (ht:(aY E.P U).map (·.agg)=some false)
 (hy:evO x.n y (some ⟨.fin .normal,fu x.o0.dst (.tuple #[]) (fS 0 [.pointer (some ⟨E.Wg,0,none⟩),.pointer (some ⟨q,0,none⟩)]),[],⟨[],[]⟩⟩)=some (.pointer (some ⟨q,0,none⟩)))
 (hc:evO x.n x.cx (stO a.dst (.chan (some E.Ch)) (some ⟨.fin .normal,fu x.o0.dst (.tuple #[]) (fS 0 [.pointer (some ⟨E.Wg,0,none⟩),.pointer (some ⟨q,0,none⟩)]),[],⟨[],[]⟩⟩))=some (.chan (some E.Ch))):
 E.closes ⟨ro,[]⟩ (born E.P {target:= .fn (.func x.f) ⟨[.pointer (some ⟨E.Wg,0,none⟩),.pointer (some ⟨q,0,none⟩)]⟩,args:= #[]}):=by
 obtain⟨fn,hf,AQ,Sv⟩:=hx.fn
 obtain⟨hbf,sg,qY⟩:=hx.bf
 have hk:x.b.kind≠ .early:=by rw[sg];simp
 have QG:∀g g',g.status= .running→g'.status= .running→(∀w,stepG E.P false g w= .go g' w #[])→E.closes ⟨ro,[]⟩ g'→E.closes ⟨ro,[]⟩ g:=
  fun g g' hg _ bU ⟨q,hq⟩=>⟨q+1,hg,g',fun w _=>bU w,hq⟩
 refine QG _ _ rfl rfl (H6 (lj hx.ff) _) ?_
 have Hj:(#[]++(⟨[.pointer (some ⟨E.Wg,0,none⟩),.pointer (some ⟨q,0,none⟩)]⟩:Array Value))= #[.pointer (some ⟨E.Wg,0,none⟩),.pointer (some ⟨q,0,none⟩)]:=by simp
 rw[Hj]
 refine U5 (iG:=[]) (cs:=[cN E.P]) QG (hx.enter _ _)<|HU (E:=E) ?_ Qz hbs
 have hT:=eg E.P false E.JD
 show eS E.P false E.JD (G ((aK x.b (A x.n (fS 0 [.pointer (some ⟨E.Wg,0,none⟩),.pointer (some ⟨q,0,none⟩)]) []) (.inRegion x.q0 (0::[])::[.code x.rest])).finish (.tuple #[])) [cN E.P]) ⟨ro,[]⟩
 rw[fO,hx.op0,aX]
 simp only[Option.bind_some]
 rw[j8]
 refine iy hT ?_
 obtain⟨id,afF⟩:=hx.rest
 refine dK (l:=[x.rest]) (k:=[]) hT afF fun l2 qS=>?_
 have:=gD qS
 subst this
 rw[hx.size]
 have key:TT (eS E.P false E.JD) x.b (.inRegion x.q1 (0::[1])::[]) [cN E.P] x.n [] ro (some ⟨.fin .normal,fu x.o0.dst (.tuple #[]) (fS 0 [.pointer (some ⟨E.Wg,0,none⟩),.pointer (some ⟨q,0,none⟩)]),[],⟨[],[]⟩⟩):=by
  refine tLd hT (.chan (some E.Ch)) ho0 hg0 aRv ht hk qY (q:=q) (t:=t) (fz:=fz) (fun _ _ _ _=> .inl hq) ?_ hy
  intro e w kn he bW
  refine eS.stop ?_
  have hx2:ev x.n e x.cx= .chan (some E.Ch):=by
   rw[he] at hc
   exact aE hc
  obtain⟨ho,hg,ats,aA⟩:=hx.op
  have hq:(E.P.funcs[x.b.fn]?).any (·.norace)=false:=by rw[hbf,hf];simpa using Sv
  refine⟨rfl,?_,G (x.b.at (Act.put (A x.n e []) x.oc.dst (.tuple #[])) (.inRegion x.q1 []::[])) [cN E.P],fun w s r tm hc=>?_,4,?_⟩
  ·simp[mayWake,G,aK,ho,aA]
  ·rw[CU qY]
   have:=stepG_close (P:=E.P) (main:=false) (b:=x.b) (a:=A x.n e []) (kk:=[]) (cs:=[cN E.P]) (rest:=[]) ho (dA x.oc _ hg) hk aA (by rw[eF];exact hx2) hc hq
   exact this
  rw[←CU qY]
  refine .ctl (g':=G (aK x.b (Act.put (A x.n e []) x.oc.dst (.tuple #[])) []) [cN E.P]) rfl (fun w=>by simp[G,stepG,stepG.exec,aK])<|.ctl (g':=G {aK x.b (Act.put (A x.n e []) x.oc.dst (.tuple #[])) [] with mode:= .returning} [cN E.P]) rfl (fun w=>by simp[G,stepG,stepG.exec,aK,qY])<|oe rfl ?_ sg (by show E.P.funcs[x.b.fn]?=_;rw[hbf];exact hf) AQ
  show (Act.put (A x.n e []) x.oc.dst (.tuple #[])).defers=[]
  rw[aX];rfl
 exact key _ _ _ rfl fun x hx=>(by cases hx)
theorem jpF{V:Value}(lp:List Nat)(B:Cells)(Hc:BD X.P f=true)(hf:∀aC,Sub X.ro aC→Knows aC B→dt X.P f vs aC V)(hj:J X (MG B V o))(h1:dI X.n (aiY X.n) o=some (f,vs):=by kernel_rfl)(h3:ei lp o=some B:=by kernel_rfl):J X o:=by
 refine jGN h1 h3 (fun s p e ho hh hc=>?_) hj
 have hcb:yn X.P X.n p e=some (f,vs):=by unfold yn;rw[hc];simp only[Hc,cond_true]
 obtain⟨ff,x,xs,at_,fi,ca,ws,aA,hx,r8,rfl⟩:=qL hcb
 rcases p with ⟨dst,op,ty,pos,c8,g⟩
 dsimp only at aA;subst aA
 refine⟨rfl,fun s0 GU u9 ops i tj rest hw s' hs todo Q hk=>?_⟩
 have hez:Ext ⟨X.ro,B⟩ s':=fun b ob hb=>hs _ _ (hb.elim (fun h=>GU _ _ (.inl h)) fun h=>u9 (b,ob) h)
 exact P3 X.hC tj hw (bh hx) ff (xy r8) (R6 fi ws ca) hez (fun aC h1=>hf aC (FQ h1) fun y hy=>h1 _ _ (.inr hy)) hk
def bgI(body:Code)(i:Nat):Option JS→Option (JS×Nat)
 |some ⟨.fin .normal,e,w,kn⟩=>match yP w i with
  |some (.b b (.loop r))=>match r.state with
   | .ready=>some (⟨.code body [],e,Tc w i (.b b (.loop {r with state:= .busy})),kn⟩,b)
   |_=>none
  |_=>none
 |_=>none
theorem jbI{ro:Nat→Option Obj}(i:Nat)(h:J (X.re bl ro Φ) (EI (bgI body i o)))(h1:Ta (bgI body i o)=some bl:=by kernel_rfl):J (X.rd bl ro Φ body) o:=by
 unfold bgI at h h1
 split at h<;>try (simp only[EI] at h;exact h.elim)
 rename_i e w kn
 split at h<;>try (simp only[EI] at h;exact h.elim)
 rename_i b r hn
 split at h<;>try (simp only[EI] at h;exact h.elim)
 rename_i bU
 simp only[hn,bU,Ta,Option.some.injEq] at h1
 subst h1
 simp only[EI] at h
 intro bW
 have hw:=h bW
 obtain⟨L,R,h2,h3⟩:=Ao hn
 simp only[JP,Cx.rd,Ib,Db]
 refine⟨L,r,R,h2,bU,?_⟩
 simp only[JP,h3] at hw
 exact hw
theorem tGe{b:Frame}{D:List Deferred}{ro:Nat→Option Obj}(h:TT T b zu cs n D ro (geO o)):TT T b zu cs n D ro o:=by
 rintro e w kn rfl bW
 have:=h e (.l []::w) kn (by simp only[geO]) bW
 rw[gF] at this
 exact this
def adg:Option JS→Option JS
 |some ⟨.fin .normal,e,w,kn⟩=>some ⟨.fin .ret,e,w,kn⟩
 |_=>none
theorem arA{c:Code}{ro:Nat→Option Obj}{L:Cells}(hf:P.funcs[f]?=some fn) (hb:fn.body=some c) (hn:fn.ntmps=n) (hle:Nat.ble args.length n=true)
 (h:TT T (fr0 f .normal) ([c].map .code++[]) cs n [] ro (some ⟨.fin .normal,fS 0 args,[.l L],⟨[],[]⟩⟩)):T (G (Frame.enter P f ⟨args⟩ .normal) cs) ⟨ro,L⟩:=by
 have iv:Frame.enter P f ⟨args⟩ .normal=aK (fr0 f .normal) (A n (fS 0 args) []) [.code c]:=by
  rw[←kS args n (Nat.le_of_ble_eq_true hle)]
  simp[Frame.enter,aK,hf,hb,hn,fr0]
 rw[iv]
 exact h _ _ _ rfl fun x hx=>(by cases hx)
theorem aNU(hm:P.follows .mixedOrders=true)(hT:Closed P main T){cl:Frame}{NS:List Frame}{ro:Nat→Option Obj}(v:Value)(hs ps:List Nat)(Y:Cells)(hf:P.funcs[f]?=some fn)
 (hk:T (G (cl.finish v) NS) ⟨ro,Y⟩) (h1:tt (jW P n f hs (adg o))=some v:=by kernel_rfl) (h2:SF (jW P n f hs (adg o))=SE (jW P n f hs (adg o)):=by kernel_rfl) (h3:ei ps o=some Y:=by kernel_rfl):TT T (fr0 f .normal) (.code .ret::zu) (cl::NS) n [] ro o:=by
 rintro e w kn rfl bW
 simp only[adg] at h1 h2
 simp only[jW] at h1 h2
 cases hr:BS P n e w kn.c hs (tw P f).results.toList with
 |none=>simp only[hr,tt] at h1;cases h1
 |some x=>
  rcases x with ⟨vs,q⟩
  simp only[hr,tt,Option.some.injEq,SF,SE] at h1 h2
  have sb:=tP (X:=⟨P,fun m T'=>m=main∧T'=T,by rintro _ _ ⟨rfl,rfl⟩;exact hT,hm,f,none,n,[],ro,fun _ _ _=>True⟩) bW hr (mv h2)
  have hp:=bI h3
  have uQ:tw P f=fn:=by simp only[tw,hf]
  have Fa:=Ps (s0:=⟨ro,Y⟩) (R:=fun en s'=>∃v,en= .returned v∧T (G (cl.finish v) NS) s') (.inl rfl) sb h1 (dS hp (Sub.refl _)) ⟨v,rfl,hk⟩
  rw[uQ] at Fa
  refine hT.go rfl rfl (g':=G {aK (fr0 f .normal) (A n e []) (.code .ret::zu) with mode:= .returning} (cl::NS)) (fun w=>by simp[G,stepG,stepG.exec,aK,fr0])<|sQ (C:=CA P) (fun _ _ h=>h) (T:=T) hT hf (fr:={aK (fr0 f .normal) (A n e []) (.code .ret::zu) with mode:= .returning}) rfl rfl rfl rfl (R:=fun en s'=>∃v,en= .returned v∧T (G (cl.finish v) NS) s') Fa.2 (fun v s' hv=>?_)
  obtain⟨v',hv',ht⟩:=hv
  cases hv'
  exact ht
attribute [irreducible] Xg bkO bgI Tg adg
def BF(P:Program)(f:FuncId)(args:List Value)(ro:Nat→Option Obj)(own:Cells)(Φ:Value→Cells→Prop):Prop:=
 ∀fr,Fn (C0 P) P f ⟨args⟩ ⟨ro,own++fr⟩ (fun en s'=>∃v Y,en= .returned v∧(⟨ro,Y++fr⟩:St).le s'∧Φ v Y)
theorem BF.mono{ro:Nat→Option Obj}{own:Cells}{Φ':Value→Cells→Prop}(h:BF P f args ro own Φ)(hk:∀v X,Φ v X→Φ' v X):BF P f args ro own Φ':=
 fun fr=>Fn.mono (h fr) fun _ _ ⟨v,X,h1,h2,h3⟩=>⟨v,X,h1,h2,hk v X h3⟩
abbrev RC(ro:Nat→Option Obj)(fr:Cells)(Φ:Value→Cells→Prop):Ending→St→Prop:=fun en s'=>∃v Y,en= .returned v∧(⟨ro,Y++fr⟩:St).le s'∧Φ v Y
def XC(P:Program)(hm:P.follows .mixedOrders=true)(f:FuncId)(ro:Nat→Option Obj)(R:Ending→St→Prop):Cx:=⟨P,C0 P,xE,hm,f,none,(tw P f).ntmps,[],ro,rF P (tw P f) R⟩
theorem qC{hm:P.follows .mixedOrders=true}{ro:Nat→Option Obj}:QR (XC P hm f ro R) R:=⟨rfl,rfl⟩
theorem Li(hC:∀main T,C main T→Closed P main T){c:Code}(hf:P.funcs[f]?=some fn) (hb:fn.body=some c) (hl:Nat.ble args.length fn.ntmps=true) (h:Wp C f none c (rF P fn R) (A fn.ntmps (fS 0 args) []) s):Fn C P f ⟨args⟩ s R:=by
 refine Rp hC hf hb ?_
 have he:=kS args fn.ntmps (Nat.le_of_ble_eq_true hl)
 rw[←he] at h
 exact h
theorem yW(hm:P.follows .mixedOrders=true){ro:Nat→Option Obj}{L:Cells}(own:List Sg)(kn:Cells)(hk:Knows ro kn)(h:∀fr,J (XC P hm f ro (RC ro fr Φ)) (ld P f args (own++[.l fr]) kn))(hL:den own=L:=by rfl):BF P f args ro L Φ:=by
 subst hL
 intro fr
 have h:=h fr
 unfold ld at h
 split at h<;>try exact h.elim
 rename_i fn hf
 split at h<;>try exact h.elim
 rename_i c hc
 cases hl:Nat.ble args.length fn.ntmps with
 |false=>rw[hl] at h;exact h.elim
 |true=>
  rw[hl] at h
  have uQ:tw P f=fn:=by simp only[tw,hf]
  have:=h hk
  simp only[JP,XC,KQ,uQ] at this
  have hd:den (own++[.l fr])=den own++fr:=by rw[lM];rfl
  rw[hd] at this
  exact Li xE hf hc hl this
section
variable {X:Cx} {o:Option JS}
theorem Jb{own:Cells}(ps:List Nat)(hC:∀main T,X.C main T→C0 X.P main T)(hf:BF X.P f vs X.ro own Φ)(hj:∀v Y,Φ v Y→J X (nv ps v Y o))(h1:fq X.n (yn X.P X.n) o=some (f,vs):=by kernel_rfl)(h2:ei ps o=some own:=by kernel_rfl):J X o:=by
 obtain⟨ops,i,todo,k,e,w,kn,p,rfl,ho,hw,hc⟩:=dB h1
 obtain⟨ff,x,xs,at_,fi,ca,ws,aA,hx,r8,rfl⟩:=qL hc
 intro bW
 rcases p with ⟨dst,op,ty,pos,c8,g⟩
 dsimp only at aA;subst aA
 have hp:=bI h2
 have uQ:Fn X.C X.P f ⟨fi++ws++ca⟩ ⟨X.ro,den w⟩ (fun en s'=>∃v Y,en= .returned v∧(⟨X.ro,Y++den (dF ps 0 w)⟩:St).le s'∧Φ v Y):=fun main T hT c cs k1 k2=>
  (X.hC main T hT).mono _ ⟨X.ro,own++den (dF ps 0 w)⟩ _ (dS (J:=[]) (by rw[List.append_nil];exact hp) (Sub.refl _)) (Fn.weaken hC (hf _) main T hT c cs k1 k2)
 refine ud (fi:=⟨fi⟩) (ca:=⟨ca⟩) (ws:=fi++ws++ca) X.hC ho hw hx ff r8 (R6 fi ws ca) uQ (fun v' s' hr=>?_) (fun ch s' hr=>by obtain⟨_,_,e,_⟩:=hr;cases e) (fun s' hr=>by obtain⟨_,_,e,_⟩:=hr;cases e)
 obtain⟨v,Y,hv,hle,qt⟩:=hr
 cases hv
 have:=hj _ Y qt
 rw[ou ho] at this
 have:=this bW
 simp only[JP,gF] at this
 exact this.more X.hC hle
theorem Ja(hq:QR X (RC pK fr Φ))(v:Value)(ps:List Nat)(Y:Cells)(fJ:Sub pK X.ro)(hR:Φ v Y)(h1:tt (jW X.P X.n X.fn [] o)=some v:=by kernel_rfl)(h2:SF (jW X.P X.n X.fn [] o)=SE (jW X.P X.n X.fn [] o):=by kernel_rfl)(h3:ei ps o=some (Y++fr):=by kernel_rfl)(h4:CN o=true:=by kernel_rfl):J X o:=
 aF hq v [] ps (Y++fr) fJ ⟨v,Y,rfl,St.le_refl _,hR⟩ h1 h2 h3 h4
end
noncomputable def F3(P:Program)(g:FuncId):Func:=match IW P g with
 |some (gn,_,_)=>gn
 |none=>default
noncomputable def IV(P:Program)(g:FuncId):Tmp:=match IW P g with
 |some (_,t,_)=>t
 |none=>0
noncomputable def recC(P:Program)(g:FuncId):Code:=match IW P g with
 |some (_,_,c)=>c
 |none=> .skip
def ar3(P:Program)(g:FuncId):Bool:=(IW P g).isSome
theorem ak4(h:ar3 P g=true):IW P g=some (F3 P g,IV P g,recC P g):=by
 unfold ar3 at h
 unfold F3 IV recC
 cases hr:IW P g with
 |none=>rw[hr] at h;cases h
 |some x=>rcases x with ⟨a,b,c⟩;rfl
noncomputable def XD(P:Program)(hm:P.follows .mixedOrders=true)(f:FuncId)(ro:Nat→Option Obj)(R:Ending→St→Prop)(g:FuncId):Cx:=⟨P,CP P,e8,hm,f,none,(tw P f).ntmps,[],ro,Vk (CP P) P (tw P f) g (F3 P g) (IV P g) (recC P g) R⟩
theorem aP0(hm:P.follows .mixedOrders=true){ro:Nat→Option Obj}{L:Cells}(g:FuncId)(own:List Sg)(kn:Cells)(hk:Knows ro kn)(h:J (XD P hm f ro (RX ro Φ) g) (ld P f args own kn))(hL:den own=L:=by rfl)(afG:ar3 P g=true:=by kernel_rfl):eG P f args ro L Φ:=by
 subst hL
 unfold ld at h
 split at h<;>try exact h.elim
 rename_i fn hf
 split at h<;>try exact h.elim
 rename_i c hc
 cases hl:Nat.ble args.length fn.ntmps with
 |false=>rw[hl] at h;exact h.elim
 |true=>
  rw[hl] at h
  have uQ:tw P f=fn:=by simp only[tw,hf]
  have:=h hk
  simp only[JP,XD,KQ,uQ] at this
  exact Hz e8 hf hc rfl hl (ak4 afG) this
def dfV(n:Nat)(p:Oper)(e:Env):Option (FuncId×List Value):=match p.op with
 | .defer ⟨.value x,⟨[]⟩,⟨[]⟩⟩=>match bn n e x with
  |some (.func (.func f) ⟨[]⟩ ⟨ca⟩)=>some (f,ca)
  |_=>none
 |_=>none
theorem awE(h:dfV n p e=some (f,ca)):∃x,p.op= .defer ⟨.value x,#[],#[]⟩∧bn n e x=some (.func (.func f) ⟨[]⟩ ⟨ca⟩):=by
 unfold dfV at h
 split at h<;>try (cases h;done)
 rename_i x aA
 split at h<;>try (cases h;done)
 rename_i hx
 cases h
 exact⟨x,aA,hx⟩
def skO:Option JS→Option JS
 |some ⟨.ops ops (i::todo) k,e,w,kn⟩=>match ops[i]? with
  |some p=>some ⟨.ops ops todo k,upd p.dst undef e,w,kn⟩
  |none=>none
 |_=>none
def Qv(t:Tmp)(rest:Code)(ca:List Value):Option JS→Option JS
 |some ⟨.fin _,_,w,kn⟩=>some ⟨.code rest [],upd (some t) .nilIface (fS 0 ca),w,⟨kn.c,[]⟩⟩
 |_=>none
def rwS:Option JS→Option (List Sg)
 |some s=>some s.rw
 |none=>none
section
variable {X:Cx} {o:Option JS}
theorem jdf(hj:J (X.wd ({target:= .fn (.func f) ⟨ca⟩,args:= #[]}::X.D)) (skO o))(h1:fq X.n (dfV X.n) o=some (f,ca):=by kernel_rfl)(hr:X.aB=none:=by rfl):J X o:=by
 obtain⟨ops,i,todo,k,e,w,kn,p,rfl,ho,hw,hc⟩:=dB h1
 obtain⟨x,aA,hx⟩:=awE hc
 intro bW
 rcases p with ⟨dst,op,ty,pos,c8,g⟩
 dsimp only at aA;subst aA
 simp only[skO,ho] at hj
 have:=hj bW
 simp only[JP,Si] at this
 show ab X.C X.fn X.aB ops (i::todo) (KQ X k) (A X.n e X.D) ⟨X.ro,den w⟩
 rw[hr]
 have h2:(X.wd ({target:= .fn (.func f) ⟨ca⟩,args:= #[]}::X.D)).aB=none:=hr
 rw[h2] at this
 exact alz X.hC ho hw hx this
structure QD(X:Cx)(g:FuncId)(R:Ending→St→Prop)(ca:List Value):Prop where
 q:X.Q=Vk X.C X.P (tw X.P X.fn) g (F3 X.P g) (IV X.P g) (recC X.P g) R
 d:X.D=[{target:= .fn (.func g) ⟨ca⟩,args:= #[]}]
theorem jrD(hq:QD X g R ca)(v:Value)(hs ps:List Nat)(Y:Cells)(k:Nat)(fJ:Sub pK X.ro)(hR:R (.returned v) ⟨pK,Y⟩)(hl:Nat.ble ca.length (F3 X.P g).ntmps=true:=by kernel_rfl)
 (h1:tt (jW X.P X.n X.fn hs o)=some v:=by kernel_rfl)(h2:SF (jW X.P X.n X.fn hs o)=SE (jW X.P X.n X.fn hs o):=by kernel_rfl)(h3:ei ps o=some Y:=by kernel_rfl)(h4:CN o=true:=by kernel_rfl)
 (h5:CN (res (adv X.P (F3 X.P g).ntmps k [] (Qv (IV X.P g) (recC X.P g) ca o)))=true:=by kernel_rfl)(h6:rwS (res (adv X.P (F3 X.P g).ntmps k [] (Qv (IV X.P g) (recC X.P g) ca o)))=rwS o:=by kernel_rfl)
 (h7:lhs (adv X.P (F3 X.P g).ntmps k [] (Qv (IV X.P g) (recC X.P g) ca o))=rhs (adv X.P (F3 X.P g).ntmps k [] (Qv (IV X.P g) (recC X.P g) ca o)):=by kernel_rfl):J X o:=by
 obtain⟨ex,e,w,kn,rfl,hex⟩:=tz h4
 simp only[jW] at h1 h2
 cases hr:BS X.P X.n e w kn.c hs (tw X.P X.fn).results.toList with
 |none=>simp only[hr,tt] at h1;cases h1
 |some x=>
  rcases x with ⟨vs,q⟩
  simp only[hr,tt,Option.some.injEq,SF,SE] at h1 h2
  intro bW
  have sb:=tP bW hr (mv h2)
  have hp:=bI h3
  have Fa:=Ps (s0:=⟨pK,Y⟩) (R:=R) hex sb h1 (dS hp fJ) hR
  have ht:bP X.P (results (tw X.P X.fn) (A X.n e X.D).tmps) ⟨X.ro,den w⟩ (fun v s'=>∃s0,s0.le s'∧R (.returned v) s0) (fun _ _=>False):=by
   rcases hex with rfl|rfl<;>exact Fa.2
  show X.Q ex (A X.n e X.D) ⟨X.ro,den w⟩
  rw[hq.q]
  refine⟨hex.symm,ca,hl,hq.d,?_⟩
  let X2:Cx:=⟨X.P,X.C,X.hC,X.hm,g,none,(F3 X.P g).ntmps,[],X.ro,fun e2 a2 s2=>(e2= .normal∨e2= .ret)∧a2.defers=[]∧bP X.P (results (tw X.P X.fn) (A X.n e X.D).tmps) s2 (fun v s3=>∃s0,s0.le s3∧R (.returned v) s0) (fun _ _=>False)⟩
  have hj:J X2 (Qv (IV X.P g) (recC X.P g) ca (some ⟨.fin ex,e,w,kn⟩)):=by
   refine jd k [] ?_ h7
   have h5':=h5
   have h6':=h6
   obtain⟨ex2,e2,w2,kn2,uj,aSx⟩:=tz h5'
   show J X2 (res (adv X.P (F3 X.P g).ntmps k [] (Qv (IV X.P g) (recC X.P g) ca (some ⟨.fin ex,e,w,kn⟩))))
   rw[uj] at h6' ⊢
   simp only[rwS,Option.some.injEq] at h6'
   subst h6'
   exact fun _=>⟨aSx.symm,rfl,ht⟩
  simp only[Qv] at hj
  exact hj bW
end
attribute [irreducible] skO Qv rwS dfV
def uP(r ck:Nat)(seen:List Nat):Obj:= .mapIter (some r) ck ⟨seen⟩ ck
def cK(es:Array MapEntry)(seen:List Nat):List MapEntry:=es.toList.filter fun e=> !seen.contains e.born
theorem Ck(es:Array MapEntry):cK es []=es.toList:=by simp[cK]
theorem aac{es:Array MapEntry}{e:MapEntry}:e∈cK es (seen++[b])↔e∈cK es seen∧e.born≠b:=by
 simp only[cK,List.mem_filter,Bool.not_eq_true',List.contains_eq_mem,List.mem_append,List.mem_singleton,decide_eq_false_iff_not,not_or,and_assoc]
theorem GH{es:Array MapEntry}{e:MapEntry}(h:e∈cK es seen):(cK es (seen++[e.born])).length <(cK es seen).length:=by
 have:cK es (seen++[e.born])=(cK es seen).filter fun x=> !decide (x.born=e.born):=by
  simp only[cK,List.filter_filter]
  refine List.filter_congr fun x _=>?_
  simp only[List.contains_eq_mem,List.mem_append,List.mem_singleton,Bool.decide_or,Bool.not_or]
  rw[Bool.and_comm]
 rw[this]
 exact List.length_filter_lt_length_iff_exists.2 ⟨e,h,by simp⟩
def mrV(P:Program)(n:Nat)(p:Oper)(e:Env):Option Value:=match p.op with
 | .range T x=>match aY P T with
  |some ⟨.map _ _,_,_,_⟩=>bn n e x
  |_=>none
 |_=>none
def nmV(n:Nat)(p:Oper)(e:Env):Option Value:=match p.op with
 | .next x false=>bn n e x
 |_=>none
def enV(n:Nat)(p:Oper)(e:Env):Option Value:=match p.op with
 | .entry x=>bn n e x
 |_=>none
theorem JO{Q:β→St→Prop}{E:Halt→St→Prop}{k:Nat→Sem β}(hn:0 <n)(h:∀j,j <n→bP P (k j) s Q E):bP P (choose (.mapNext n) >>= k) s Q E:=by
 show (if (Question.mapNext n).forced=true then _ else _)
 split
 ·exact h 0 hn
 exact fun q=>h _ (Nat.mod_lt _ hn)
section
variable {X:Cx} {o:Option JS}
theorem jmR{es:Array MapEntry}(hm:X.ro r=some (.map es ck))(hj:∀b,J X (nv [] (.pointer (some ⟨b,0,none⟩)) [(b,uP r ck [])] o))(hv:fq X.n (mrV X.P X.n) o=some (.map (some r)):=by kernel_rfl)(hB:ei [] o=some []:=by kernel_rfl):J X o:=by
 refine jS (Φ:=fun v L'=>∃b,v= .pointer (some ⟨b,0,none⟩)∧L'=[(b,uP r ck [])]) [] [] hv hB (fun p e hf=>?_) (fun v L' qt=>?_)
 ·unfold mrV at hf
  split at hf<;>try (cases hf;done)
  rename_i T x aA
  split at hf<;>try (cases hf;done)
  rename_i dV
  obtain⟨bC,tf⟩:=av dV
  refine⟨by rw[aA];simp,fun R Q E hQ=>?_⟩
  simp only[execOp,aA,Instr.range,aa,aZ tf,aE hf]
  refine cG (.inl hm) rfl rfl ?_
  simp only[aa,ae,oz]
  intro b hb
  exact hQ _ _ ⟨b,rfl,rfl⟩
 obtain⟨b,rfl,rfl⟩:=qt
 exact hj b
theorem jmN{kv:κ→Value}{F:List (κ×Value)}{es:Array MapEntry}(i:Nat)(hm:X.ro r=some (.map es ck))(hE:tE kv F es ck)
 (hT:∀k v e,(k,v)∈F→e∈cK es seen→e.key=kv k→e.val=v→J X (nv [i] (.tuple ⟨[.bool true,kv k,v]⟩) [(it,uP r ck (seen++[e.born]))] o))
 (hF:cK es seen=[]→J X (nv [i] (.tuple ⟨[.bool false]⟩) [(it,uP r ck seen)] o))
 (hv:fq X.n (nmV X.n) o=some (.pointer (some ⟨it,0,none⟩)):=by kernel_rfl)(hB:ei [i] o=some [(it,uP r ck seen)]:=by kernel_rfl):J X o:=by
 refine jS (Φ:=fun v L'=>(∃e,e∈cK es seen∧v= .tuple ⟨[.bool true,e.key,e.val]⟩∧L'=[(it,uP r ck (seen++[e.born]))])∨(cK es seen=[]∧v= .tuple ⟨[.bool false]⟩∧L'=[(it,uP r ck seen)])) [i] _ hv hB (fun p e hf=>?_) (fun v L' qt=>?_)
 ·unfold nmV at hf
  split at hf<;>try (cases hf;done)
  rename_i x aA
  refine⟨by rw[aA];simp,fun R Q E hQ=>?_⟩
  simp only[execOp,aA,Instr.next,aa,aE hf]
  have hs:(⟨X.ro,[(it,uP r ck seen)]++R⟩:St).rw=[]++(it,uP r ck seen)::R:=rfl
  refine cG (o:=uP r ck seen) (.inr (by rw[hs];exact fE)) rfl rfl ?_
  simp only[uP,aa]
  refine cG (.inl hm) rfl rfl ?_
  simp only[aa]
  have hb:=hE.2.2
  have bU:¬((!(⟨seen⟩:Array Nat).isEmpty&& !es.isEmpty&&es.all (·.born≥ck))=true):=by
   intro h
   simp only[Bool.and_eq_true,Bool.not_eq_true',Array.all_eq_true,decide_eq_true_eq] at h
   obtain⟨⟨_,h1⟩,h2⟩:=h
   have u5:0 <es.size:=by
    rcases Nat.eq_zero_or_pos es.size with h0|h0
    ·simp[Array.isEmpty,h0] at h1
    exact h0
   have:=h2 0 u5
   have:=hb es[0] (by simp)
   omega
  rw[if_neg bU]
  have x6:(es.filter fun e=> !(⟨seen⟩:Array Nat).contains e.born)=⟨cK es seen⟩:=by
   rcases es with ⟨l⟩
   simp[cK]
  have hold:((⟨cK es seen⟩:Array MapEntry).filter fun e=>decide (e.born <ck))=⟨cK es seen⟩:=by
   have:(cK es seen).filter (fun e=>decide (e.born <ck))=cK es seen:=List.filter_eq_self.2 fun e he=>decide_eq_true (hb e (List.mem_filter.1 he).1)
   simp[this]
  have tk:((⟨cK es seen⟩:Array MapEntry).filter fun e=>decide (e.born≥ck))=⟨[]⟩:=by
   have:(cK es seen).filter (fun e=>decide (e.born≥ck))=[]:=List.filter_eq_nil_iff.2 fun e he=>by
    have:=hb e (List.mem_filter.1 he).1
    simp only[decide_eq_true_eq];omega
   simp[this]
  simp only[x6,hold,tk]
  cases hl:cK es seen with
  |nil=>
   simp only[List.isEmpty_toArray,List.isEmpty_nil,if_true]
   refine JO (by simp) fun j hj=>?_
   have hc:(#[(none:Option MapEntry)]++((⟨[]⟩:Array MapEntry)++⟨[]⟩).map some)[j]?=some none:=by
    simp at hj
    subst hj;simp
   show bP X.P ((match (#[(none:Option MapEntry)]++((⟨[]⟩:Array MapEntry)++⟨[]⟩).map some)[j]? with|some (some e)=>_|some none=>_|none=>_) >>= fun v=>pure (Next.value v)) _ _ _
   rw[hc]
   exact hQ _ _ (.inr ⟨hl,rfl,rfl⟩)
  |cons e0 l=>
   have hem:(⟨e0::l⟩:Array MapEntry).isEmpty=false:=by simp
   simp only[hem,Bool.false_eq_true,if_false]
   have Hj:(#[]++((⟨e0::l⟩:Array MapEntry)++⟨[]⟩).map some:Array (Option MapEntry))=⟨(e0::l).map some⟩:=by simp
   rw[Hj]
   refine JO (by simp) fun k cL=>?_
   have cL:k <(e0::l).length:=by simpa using cL
   have hk:(⟨(e0::l).map some⟩:Array (Option MapEntry))[k]?=some (some (e0::l)[k]):=by
    rw[List.getElem?_toArray,List.getElem?_map,List.getElem?_eq_getElem cL];rfl
   show bP X.P ((match (⟨(e0::l).map some⟩:Array (Option MapEntry))[k]? with|some (some e)=>_|some none=>_|none=>_) >>= fun v=>pure (Next.value v)) _ _ _
   rw[hk]
   simp only[aa]
   have nu:(⟨X.ro,[(it,Obj.mapIter (some r) ck ⟨seen⟩ ck)]++R⟩:St).rw=[]++(it,Obj.mapIter (some r) ck ⟨seen⟩ ck)::R:=rfl
   refine eH (o:= .mapIter (some r) ck ((⟨seen⟩:Array Nat).push (e0::l)[k].born) ck) rfl nu rfl ?_
   have hp:(⟨seen⟩:Array Nat).push (e0::l)[k].born=⟨seen++[(e0::l)[k].born]⟩:=by simp
   rw[hp]
   have:=hQ (.tuple ⟨[.bool true,(e0::l)[k].key,(e0::l)[k].val]⟩) [(it,uP r ck (seen++[(e0::l)[k].born]))] (.inl ⟨_,by rw[hl];exact List.getElem_mem cL,rfl,rfl⟩)
   exact this
 rcases qt with ⟨e,he,rfl,rfl⟩| ⟨h1,rfl,rfl⟩
 ·have:(e.key,e.val)∈F.map (fun x=>(kv x.1,x.2)):=by
   rw[←hE.1];exact List.mem_map_of_mem (f:=fun e:MapEntry=>(e.key,e.val)) (List.mem_filter.1 he).1
  obtain⟨⟨k,v⟩,h1,h2⟩:=List.mem_map.1 this
  simp only[Prod.mk.injEq] at h2
  have:=hT k v e h1 he h2.1.symm h2.2.symm
  rwa[h2.1,h2.2] at this
 exact hF h1
theorem jmE{kv:κ→Value}{F:List (κ×Value)}{es:Array MapEntry}{e:MapEntry}{k:κ}{v:Value}(i:Nat)(hm:X.ro r=some (.map es ck))(hE:tE kv F es ck)(he:e∈cK es seen)(hk:e.key=kv k)(hvl:e.val=v)
 (hj:J X (nv [i] (.tuple ⟨[kv k,v]⟩) [(it,uP r ck (seen++[e.born]))] o))
 (hv:fq X.n (enV X.n) o=some (.pointer (some ⟨it,0,none⟩)):=by kernel_rfl)(hB:ei [i] o=some [(it,uP r ck (seen++[e.born]))]:=by kernel_rfl):J X o:=by
 refine jS (Φ:=fun w L'=>w= .tuple ⟨[kv k,v]⟩∧L'=[(it,uP r ck (seen++[e.born]))]) [i] _ hv hB (fun p en hf=>?_) (fun w L' qt=>?_)
 ·unfold enV at hf
  split at hf<;>try (cases hf;done)
  rename_i x aA
  refine⟨by rw[aA];simp,fun R Q E hQ=>?_⟩
  simp only[execOp,aA,Instr.entry,aa,aE hf]
  have hs:(⟨X.ro,[(it,uP r ck (seen++[e.born]))]++R⟩:St).rw=[]++(it,uP r ck (seen++[e.born]))::R:=rfl
  refine cG (o:=uP r ck (seen++[e.born])) (.inr (by rw[hs];exact fE)) rfl rfl ?_
  have sg:(⟨seen++[e.born]⟩:Array Nat).back?=some e.born:=by simp[Array.back?]
  simp only[uP,sg,aa]
  refine cG (.inl hm) rfl rfl ?_
  have hfe:es.find? (fun x=>x.born==e.born)=some e:=by
   rcases es with ⟨l⟩
   have XV:e∈l:=(List.mem_filter.1 he).1
   have mo:(l.map (·.born)).Nodup:=hE.2.1
   simp only[List.find?_toArray]
   clear hm hE he hj hv hB hs hQ
   induction l with
   |nil=>cases XV
   |cons y l ih=>
    simp only[List.map_cons,List.nodup_cons,List.mem_map,not_exists,not_and] at mo
    rcases List.mem_cons.1 XV with rfl|h
    ·simp
    have:y.born≠e.born:=fun h2=>mo.1 e h h2.symm
    rw[List.find?_cons_of_neg (by simpa using this)]
    exact ih h mo.2
  simp only[bne_self_eq_false,Bool.false_eq_true,if_false,hfe,ae,aa]
  exact hQ _ _ ⟨by rw[hk,hvl],rfl⟩
 obtain⟨rfl,rfl⟩:=qt
 exact hj
end
theorem TY{kv:κ→Value}{F:List (κ×Value)}{es:Array MapEntry}(hE:tE kv F es ck){e x:MapEntry}(he:e∈cK es seen)(hx:x∈cK es seen):x=e∨x∈cK es (seen++[e.born]):=by
 by_cases h:x.born=e.born
 ·left
  have mo:=hE.2.1
  have h1:=(List.mem_filter.1 he).1
  have h2:=(List.mem_filter.1 hx).1
  generalize es.toList=l at mo h1 h2
  induction l with
  |nil=>cases h1
  |cons y l ih=>
   simp only[List.map_cons,List.nodup_cons,List.mem_map,not_exists,not_and] at mo
   rcases List.mem_cons.1 h1 with k1|k1
   ·rcases List.mem_cons.1 h2 with k2|k2
    ·rw[k1,k2]
    exact absurd (by rw[h,k1]) (mo.1 x k2)
   rcases List.mem_cons.1 h2 with k2|k2
   ·exact absurd (by rw[←h,k2]) (mo.1 e k1)
   exact ih mo.2 k1 k2
 exact .inr (aac.2 ⟨hx,h⟩)
def msV(P:Program)(n:Nat)(p:Oper)(e:Env):Option (TypeId×List Value):=match p.op with
 | .makeSlice T x y=>match aY P T with
  |some ⟨.slice E,_,_,_⟩=>match aY P E with
   |some te=>match bn n e x,bn n e y with
    |some (.int .i64 a),some (.int .i64 b)=>bif (decide (a=2)&&decide (b=2))&&(Nat.beq te.size 1&&Nat.ble (tK P E) 65536) then some (E,te.zero) else none
    |_,_=>none
   |none=>none
  |_=>none
 |_=>none
theorem jmS{E:TypeId}{z:Value}(hj:∀b,J X (nv [] (.slice (some ⟨b,0,none⟩) 2 2) [(b,.cells ⟨[z,z]⟩ E (0,0))] o))(hv:fq X.n (msV X.P X.n) o=some (E,[z]):=by kernel_rfl)(hB:ei [] o=some []:=by kernel_rfl):J X o:=by
 refine jS (Φ:=fun v L'=>∃b,v= .slice (some ⟨b,0,none⟩) 2 2∧L'=[(b,.cells ⟨[z,z]⟩ E (0,0))]) [] [] hv hB (fun p e hf=>?_) (fun v L' qt=>?_)
 ·unfold msV at hf
  split at hf<;>try (cases hf;done)
  rename_i T x y aA
  split at hf<;>try (cases hf;done)
  rename_i E' _ _ _ dV
  split at hf<;>try (cases hf;done)
  rename_i te ui
  split at hf<;>try (cases hf;done)
  rename_i a b hx hy
  cases hc:((decide (a=2)&&decide (b=2))&&(Nat.beq te.size 1&&Nat.ble (tK X.P E') 65536)) with
  |false=>rw[hc] at hf;cases hf
  |true=>
   rw[hc] at hf
   simp only[cond_true,Option.some.injEq,Prod.mk.injEq] at hf
   obtain⟨rfl,hz⟩:=hf
   simp only[Bool.and_eq_true,decide_eq_true_eq,Nat.beq_eq,Nat.ble_eq] at hc
   obtain⟨⟨rfl,rfl⟩,u5,hby⟩:=hc
   obtain⟨byT,tf⟩:=av dV
   obtain⟨bC,jV⟩:=av ui
   obtain⟨i,hi,hi1,QU,hi3⟩:=jV.info
   have am2:bC≤65536:=by simp only[tK,hi] at hby;omega
   have avD:¬((bC:Int)*2>2^48):=by omega
   have w2:IntKind.i64.wrap 2=2:=kG 2 (by omega)
   have iV:(OF [z] te.agg).cells=⟨[z]⟩:=by rw[←hz];exact ez jV
   have Hj:((Array.range ((2:Int).toNat*1)).map fun x=>(⟨[z]⟩:Array Value)[x % (⟨[z]⟩:Array Value).size]!)=⟨[z,z]⟩:=by apply Array.ext';simp[Nat.mod_one,List.range,List.range.loop]
   refine⟨by rw[aA];simp,fun R Q E hQ=>?_⟩
   simp only[execOp,aA,Instr.makeSlice,aE hx,aE hy,asInt,asIntOf,aa,aZ tf,ae,nI hi,QU,w2,avD,show ¬((2:Int) <0) by omega,show ¬((2:Int)>2) by omega,decide_false,Bool.or_self,Bool.false_eq_true,if_false]
   refine sM ?_
   simp only[aa,cg jV,u5,show ¬((2:Int).toNat*1=0) by decide,if_false,kg jV,ae,hz,iV,Hj,jE]
   intro b hb
   exact hQ _ _ ⟨b,rfl,rfl⟩
 obtain⟨b,rfl,rfl⟩:=qt
 exact hj b
def anW(body:Code):Option JS→Option (JS×Nat)
 |some ⟨.fin .normal,e,.b c oc:: .b b (.loop r)::w,kn⟩=>match r.state with
  | .ready=>some (⟨.code body [],e,.b c oc:: .b b (.loop {r with state:= .busy})::w,kn⟩,b)
  |_=>none
 |_=>none
theorem aBX{ro:Nat→Option Obj}(h:J (X.re bl ro Φ) (EI (anW body o)))(h1:Ta (anW body o)=some bl:=by kernel_rfl):J (X.rd bl ro Φ body) o:=by
 unfold anW at h h1
 split at h<;>try (unfold EI at h;exact h.elim)
 rename_i e c oc b r w kn
 split at h<;>try (unfold EI at h;exact h.elim)
 rename_i bU
 unfold Ta at h1
 unfold EI at h
 simp only[bU,Option.some.injEq] at h1
 subst h1
 intro bW
 have hw:=h bW
 simp only[JP,Cx.rd,Ib,Db]
 refine⟨[(c,oc)],r,den w,by rw[iQ,iQ];rfl,bU,?_⟩
 simp only[JP,iQ] at hw
 exact hw
theorem aBT{hm:P.follows .mixedOrders=true}{ro:Nat→Option Obj}(own:List Sg)(kn:Cells)(hk:Knows ro kn)(h:J (XM P hm f ro R) (ld P f args own kn)):Fn (CP P) P f ⟨args⟩ ⟨ro,den own⟩ R:=by
 unfold ld at h
 split at h<;>try exact h.elim
 rename_i fn hf
 split at h<;>try exact h.elim
 rename_i c hc
 cases hl:Nat.ble args.length fn.ntmps with
 |false=>rw[hl] at h;exact h.elim
 |true=>
  rw[hl] at h
  have uQ:tw P f=fn:=by simp only[tw,hf]
  have:=h hk
  simp only[JP,XM,KQ,uQ] at this
  refine Lj e8 hf hc ?_
  have he:=kS args fn.ntmps (Nat.le_of_ble_eq_true hl)
  rw[←he] at this
  exact this
section
variable {X:Cx} {o:Option JS}
theorem aP1(hq:QM X R uz)(v:Value)(pm hs ps:List Nat)(Y:Cells)(fJ:Sub pK X.ro)(hR:R (.returned v) ⟨pK,Y⟩)(h0:ei pm o=some (mk uz):=by kernel_rfl)(h1:tt (jW X.P X.n X.fn hs (CY pm o))=some v:=by kernel_rfl)(h2:SF (jW X.P X.n X.fn hs (CY pm o))=SE (jW X.P X.n X.fn hs (CY pm o)):=by kernel_rfl)(h3:ei ps (CY pm o)=some Y:=by kernel_rfl)(h4:CN o=true:=by kernel_rfl):J X o:=by
 obtain⟨ex,e,w,kn,rfl,hex⟩:=tz h4
 simp only[CY,jW] at h1 h2 h3
 cases hr:BS X.P X.n e (dF pm 0 w) kn.c hs (tw X.P X.fn).results.toList with
 |none=>simp only[hr,tt] at h1;cases h1
 |some x=>
  rcases x with ⟨vs,q⟩
  simp only[hr,tt,Option.some.injEq,SF,SE] at h1 h2
  intro bW
  have sb:=tP bW hr (mv h2)
  have hp:=bI h3
  have Fa:=Ps (s0:=⟨pK,Y⟩) (R:=R) hex sb h1 (dS hp fJ) hR
  have ht:bP X.P (results (tw X.P X.fn) (A X.n e X.D).tmps) ⟨X.ro,den (dF pm 0 w)⟩ (fun v s'=>∃s0,s0.le s'∧R (.returned v) s0) (fun _ _=>False):=by
   rcases hex with rfl|rfl<;>exact Fa.2
  show X.Q ex (A X.n e X.D) ⟨X.ro,den w⟩
  rw[hq.q]
  have hm:∃uz rest,(A X.n e X.D).defers=uz.map eC∧(den w).Perm (mk uz++rest)∧bP X.P (results (tw X.P X.fn) (A X.n e X.D).tmps) ⟨X.ro,rest⟩ (fun v s'=>∃s0,s0.le s'∧R (.returned v) s0) (fun _ _=>False):=⟨uz,_,hq.d,bI h0,ht⟩
  rcases hex with rfl|rfl<;>exact hm
end
attribute [irreducible] mrV nmV enV uP msV anW
end Go.L
