/- Part 5 of the proof. -/
import Derived.Test.YtjpghiajlddegaaGreatDoorF4
set_option maxRecDepth 100000
set_option linter.all false
namespace Go.L
open Go Go.Conc
variable {Φ:Value→Cells→Prop} {P:Program} {R:Ending→St→Prop} {f g:FuncId} {todo seen uI:List Nat} {κ ι α β:Type} {El:(Nat→Option Obj)→Nat→List Value→Cells→Prop} {pS aF:Nat→Option Obj} {T:Goroutine→St→Prop} {vs ca args z l fi:List Value} {o o1:Option JS} {i n r bl sz bx bd off b id ck dep N q it:Nat} {k Aa:List Item} {s s':St} {ats:Array TypeId} {X:Cx} {tm:Array Value} {cs:List Frame} {fn:Func} {C:Class} {main ag:Bool} {fz:Nat×Nat} {rest e:Env} {as body:Code} {x y:Operand} {p:Oper} {fr:Cells} {t U:TypeId}
section
variable {X:Cx} {o:Option JS}
def nxV(n:Nat)(p:Oper)(e:Env):Option Nat:=match p.op with
 | .next x true=>match bh n e x with
  |some (.pointer (some ⟨r,0,none⟩))=>some r
  |_=>none
 |_=>none
theorem adx(h:nxV n p e=some r):∃x,p.op= .next x true∧bh n e x=some (.pointer (some ⟨r,0,none⟩)):=by
 unfold nxV at h
 split at h<;>try (cases h;done)
 rename_i ay
 split at h<;>try (cases h;done)
 rename_i hx
 cases h
 exact⟨_,ay,hx⟩
def SL(i:Nat)(v:Value)(b:Nat)(ob:Obj):Option JS→Option JS
 |some ⟨.ops ops (j::todo) k,e,w,kn⟩=>match ops[j]? with
  |some p=>some ⟨.ops ops todo k,upd p.dst v e,.b b ob::dK [i] 0 w,kn⟩
  |none=>none
 |_=>none
theorem jnA{b:ByteArray}{p:Nat}{c:UInt8}(r i:Nat)(hp:b.data.toList[p]?=some c) (ha:c.toNat <128) (hj:J X (SL i (.tuple ⟨[.bool true,.int .i64 p,.int .i32 c.toNat]⟩) r (.stringIter b (p+1)) o))
 (hv:fG X.n (nxV X.n) o=some r:=by kernel_rfl) (hB:ek [i] o=some [(r,.stringIter b p)]:=by kernel_rfl):J X o:=by
 obtain⟨ops,i0,todo,kk,ev,w0,kn,q,rfl,ho,hw,hc⟩:=dG hv
 obtain⟨x,ay,hx⟩:=adx hc
 intro bR
 rcases q with ⟨dst,op,ty,pos,c8,g⟩
 dsimp only at ay;subst ay
 refine wu X.hC (bD hB) (akV X.hC ho hw hx hp ha ?_)
 simp only[SL,ho] at hj
 have:=hj bR
 simp only[JP,iX] at this
 exact this
theorem jnZ{b:ByteArray}{p:Nat}(r i:Nat)(hp:b.data.toList[p]?=none) (hj:J X (SL i (.tuple ⟨[.bool false]⟩) r (.stringIter b p) o))
 (hv:fG X.n (nxV X.n) o=some r:=by kernel_rfl) (hB:ek [i] o=some [(r,.stringIter b p)]:=by kernel_rfl):J X o:=by
 obtain⟨ops,i0,todo,kk,ev,w0,kn,q,rfl,ho,hw,hc⟩:=dG hv
 obtain⟨x,ay,hx⟩:=adx hc
 intro bR
 rcases q with ⟨dst,op,ty,pos,c8,g⟩
 dsimp only at ay;subst ay
 refine wu X.hC (bD hB) (akU X.hC ho hw hx hp ?_)
 simp only[SL,ho] at hj
 have:=hj bR
 simp only[JP,iX] at this
 exact this
theorem jcG{own:Cells}{Φ:Value→(Nat→Option Obj)→Cells→Prop}(ps:List Nat)(hf:FnG X.P f vs X.ro own Φ)(hj:∀v aF Y,Sub X.ro aF→Φ v aF Y→J (X.at aF) (nI ps v Y o))(h1:fG X.n (yA X.P X.n) o=some (f,vs):=by kernel_rfl)(h2:ek ps o=some own:=by kernel_rfl):J X o:=by
 obtain⟨ops,i,todo,k,e,w,kn,p,rfl,ho,hw,hc⟩:=dG h1
 obtain⟨ff,x,xs,at_,fi,ca,ws,ay,hx,sw,rfl⟩:=qT hc
 intro bR
 rcases p with ⟨dst,op,ty,pos,c8,g⟩
 dsimp only at ay;subst ay
 have hp:=bD h2
 refine uk (fi:=⟨fi⟩) (ca:=⟨ca⟩) (ws:=fi++ws++ca) X.hC ho hw hx ff sw (Ru fi ws ca) (Fn.weaken X.hC (FnG.use (s:=⟨X.ro,den w⟩) hp hf)) (fun v' s' hr=>?_) (fun ch s' hr=>by obtain⟨_,_,_,e,_⟩:=hr;cases e) (fun s' hr=>by obtain⟨_,_,_,e,_⟩:=hr;cases e)
 obtain⟨v,aF,Y,hv,hs,qE,hle⟩:=hr
 cases hv
 have:=hj _ aF Y hs qE
 rw[oE ho] at this
 have:=this (bR.up hs)
 simp only[JP,gZ,H7] at this
 exact this.more X.hC hle
def ahA(n:Nat)(p:Oper)(e:Env):Option (FuncId×List Value):=match p.op with
 | .call ⟨.value (.func f),xs,_⟩=>match yc n e xs.toList with
  |some vs=>some (f,vs)
  |none=>none
 |_=>none
theorem Nk(h:ahA n p e=some (f,vs)):∃xs at_,p.op= .call ⟨.value (.func f),xs,at_⟩∧yc n e xs.toList=some vs:=by
 unfold ahA at h
 split at h<;>try (cases h;done)
 rename_i ay
 split at h<;>try (cases h;done)
 rename_i hx
 cases h
 exact⟨_,_,ay,hx⟩
theorem jib{a:ByteArray}{b:Int}(ef:EF X.P f Extern.BytealgIndexByte.indexByte)(hj:J X (kM (.int .i64 (P6 a b.toNat.toUInt8)) o))(hv:dM X.n (ahA X.n) o=some (f,[.string a,.int .u8 b]):=by kernel_rfl):J X o:=by
 refine jGS hv (fun s p e _ hf=>?_) hj
 obtain⟨xs,at_,ay,hx⟩:=Nk hf
 rcases p with ⟨dst,op,ty,pos,c8,g⟩
 dsimp only at ay;subst ay
 exact⟨fun ops i tw rest hw s' hs todo Q hk=>adr X.hC tw hw ef (xG hx) hk,fun hk=>by cases hk⟩
theorem aPo{v:Value}(ef:EF X.P f Extern.AbiNoEscape.same)(hj:J X (kM v o))(hv:dM X.n (ahA X.n) o=some (f,[v]):=by kernel_rfl):J X o:=by
 refine jGS hv (fun s p e _ hf=>?_) hj
 obtain⟨xs,at_,ay,hx⟩:=Nk hf
 rcases p with ⟨dst,op,ty,pos,c8,g⟩
 dsimp only at ay;subst ay
 exact⟨fun ops i tw rest hw s' hs todo Q hk=>akT X.hC tw hw ef (xG hx) hk,fun hk=>by cases hk⟩
def mmV(n:Nat)(p:Oper)(e:Env):Option (Bool×Value×Value):=match p.op with
 | .call ⟨.builtin .min,⟨[x,y]⟩,⟨[_,_]⟩⟩=>match bh n e x with
  |some v=>match bh n e y with
   |some w=>some (true,v,w)
   |none=>none
  |none=>none
 | .call ⟨.builtin .max,⟨[x,y]⟩,⟨[_,_]⟩⟩=>match bh n e x with
  |some v=>match bh n e y with
   |some w=>some (false,v,w)
   |none=>none
  |none=>none
 |_=>none
theorem jmn{k:IntKind}{a b:Int}(hj:J X (kM (.int k (min a b)) o))(hv:dM X.n (mmV X.n) o=some (true,.int k a,.int k b):=by kernel_rfl):J X o:=by
 refine RM hv (fun s p e _ hf=>?_) hj
 unfold mmV at hf
 split at hf<;>try (cases hf;done)
 ·rename_i ay
  split at hf<;>try (cases hf;done)
  rename_i hx
  split at hf<;>try (cases hf;done)
  rename_i hy
  cases hf
  rcases p with ⟨dst,op,ty,pos,c8,g⟩
  dsimp only at ay;subst ay
  exact fun s0 ops i tw rest hw s' hs todo Q hk=>asd X.hC tw hw (aZ hx) (aZ hy) hk
 split at hf<;>try (cases hf;done)
 split at hf<;>cases hf
theorem jmx{k:IntKind}{a b:Int}(hj:J X (kM (.int k (max a b)) o))(hv:dM X.n (mmV X.n) o=some (false,.int k a,.int k b):=by kernel_rfl):J X o:=by
 refine RM hv (fun s p e _ hf=>?_) hj
 unfold mmV at hf
 split at hf<;>try (cases hf;done)
 ·split at hf<;>try (cases hf;done)
  split at hf<;>cases hf
 rename_i ay
 split at hf<;>try (cases hf;done)
 rename_i hx
 split at hf<;>try (cases hf;done)
 rename_i hy
 cases hf
 rcases p with ⟨dst,op,ty,pos,c8,g⟩
 dsimp only at ay;subst ay
 exact fun s0 ops i tw rest hw s' hs todo Q hk=>ase X.hC tw hw (aZ hx) (aZ hy) hk
theorem yh(i b off:Nat)(c l:List Value)(t:TypeId)(h1:∀v∈l,single v=true)(hb:Nat.ble (off+l.length) c.length=true)(hj:J X (SL i undef b (.cells ⟨dI c off l⟩ t (0,0)) o))(hv:fG X.n (aki X.P X.n) o=some (⟨b,off,none⟩,l,l.length):=by kernel_rfl)(h2:ek [i] o=some [(b,.cells ⟨c⟩ t (0,0))]:=by kernel_rfl):J X o:=by
 obtain⟨ops,i0,todo,kk,ev,w,kn,p,rfl,ho,hw,hc⟩:=dG hv
 obtain⟨T,x,y,d,bx,z,ag,u,ay,tf,hx,hy,hu⟩:=VY hc
 intro bR
 rcases p with ⟨dst,op,ty,pos,c8,g⟩
 dsimp only at ay;subst ay
 refine wu X.hC (bD h2)<|ost X.hC ho hw tf hx hy hu rfl h1 (Nat.le_of_ble_eq_true hb) ?_
 simp only[SL,ho] at hj
 have:=hj bR
 simp only[JP,iX] at this
 exact this
def aiV(P:Program)(n:Nat)(p:Oper)(e:Env):Option (List Value×Int×Nat×Nat×Bool):=match p.op with
 | .index T x y=>match aW P T with
  |some ⟨.array len E,_,_,_⟩=>match aW P E with
   |some te=>match bh n e x with
    |some (.agg ⟨l⟩)=>match bh n e y with
     |some (.int _ ix)=>some (l,ix,len,te.size,te.agg)
     |_=>none
    |_=>none
   |none=>none
  |_=>none
 |_=>none
theorem jai{v:Value}(ix:Int)(len sz:Nat)(ag:Bool)(hi:0≤ix∧ix <len)(hp:Pp ag l (ix.toNat*sz) sz=some v)(hj:J X (kM v o))(hv:dM X.n (aiV X.P X.n) o=some (l,ix,len,sz,ag):=by kernel_rfl):J X o:=by
 refine RM hv (fun s p e _ hf=>?_) hj
 unfold aiV at hf
 split at hf<;>try (cases hf;done)
 rename_i ay
 split at hf<;>try (cases hf;done)
 rename_i dZ
 split at hf<;>try (cases hf;done)
 rename_i te uw
 split at hf<;>try (cases hf;done)
 rename_i hx
 split at hf<;>try (cases hf;done)
 rename_i hy
 cases hf
 obtain⟨b1,tf⟩:=ar dZ
 obtain⟨b2,q6⟩:=ar uw
 rcases p with ⟨dst,op,ty,pos,c8,g⟩
 dsimp only at ay;subst ay
 exact fun s0 ops i tw rest hw s' hs todo Q hk=>ads X.hC tw hw tf q6 (aZ hx) (aZ hy) hi hp hk
def Bi(m:Nat)(e:Env):Option JS→Option JS
 |some ⟨.ops ops todo k,_,w,kn⟩=>some ⟨.ops ops (todo.drop m) k,e,w,kn⟩
 |_=>none
theorem jj(m:Nat)(e:Env)(hj:∀rest,J X (Bi m (e++rest) o))(h:(∀o',Bi 0 [] o'=Bi m [] o→uX (pO e) o'=some e→J X o')→J X o)(hd:lkE (pO e) e=some e:=by kernel_rfl):J X o:=by
 refine h fun o' h1 h2=>?_
 cases o' with
 |none=>simp[uX] at h2
 |some s'=>
  rcases s' with ⟨p',e',w',kn'⟩
  cases o with
  |none=>exact(hj []).elim
  |some s=>
   rcases s with ⟨p,e0,w,kn⟩
   cases p' with
   |ops bc8 abV k'=>
    cases p with
    |ops ops todo k=>
     simp only[Bi,Option.some.injEq,JS.mk.injEq,Pos.ops.injEq,List.drop_zero,true_and] at h1
     obtain⟨⟨rfl,rfl,rfl⟩,rfl,rfl⟩:=h1
     rw[tq] at h2
     obtain⟨r,hr⟩:=gH (n:=X.n) (D:=X.D) (k8 h2) (k8 hd)
     intro bR
     have:=hj r bR
     show ab _ _ _ _ _ _ (A X.n e' X.D) _
     rw[hr]
     exact this
    |_=>simp[Bi] at h1
   |_=>cases p<;>simp[Bi] at h1<;>exact(hj []).elim
end
attribute [irreducible] Bi SL
section
variable {X:Cx} {o:Option JS}
def asw(i:Nat)(rest:Env)(todo:List Nat):Option JS→Option JS
 |some ⟨.HA ops base Pl _ k,_,w,kn⟩=>some ⟨.ops ops (i::todo) k,cm ops base i Pl++rest,w,kn⟩
 |_=>none
def LK(X:Cx)(i:Nat)(o:Option JS)(rest:Env)(todo:List Nat):Prop:=match o with
 |some ⟨.HA ops base Pl Sl k,_,w,kn⟩=>∀v s',(∀j u,(j,u)∈pending ops i Sl→tb ops X.n base Pl j=false→(∀B,(j,B)∈kn.nd→Ext ⟨X.ro,[]⟩ s'→(∀x∈B,s'.has x.1 x.2)→e8 X.C X.fn X.aA ops X.n X.D j u (cm ops base j Pl) s')→e8 X.C X.fn X.aA ops X.n X.D j u (cm ops base j Pl) ⟨X.ro,den w⟩→e8 X.C X.fn X.aA ops X.n X.D j u (cm ops base j Pl) s')→
  (PF X kn.nd ops base ((i,v)::Pl) (pending ops i Sl)→tL X.C X.fn X.aA ops X.n X.D base ((i,v)::Pl) (pending ops i Sl) (KQ X k) s')→ab X.C X.fn X.aA ops todo (KQ X k) (A X.n (upd (aO ops i) v (cm ops base i Pl++rest)) X.D) s'
 |_=>True
def WJ(is:List Nat):Option JS→Bool
 |some ⟨.HA ops _ Pl Sl _,_,_,_⟩=>fW ops&&((is.all fun i=>Nat.blt i ops.size&& !aY i (aj Pl))&&(nodupB (aj Pl)&&(pw ops (aj Pl)&&(fX (aj Sl) (aj Pl)&&(adl ops (aj Pl) is&& !is.isEmpty)))))
 |_=>false
def aiJ(X:Cx)(o:Option JS):List Nat→Prop
 | []=>True
 |i::is=>(∀rest todo,LK X i o rest todo→J X (asw i rest todo o))∧aiJ X o is
theorem lJ(is:List Nat)(h:aiJ X o is)(hb:WJ is o=true:=by kernel_rfl):J X o:=by
 unfold WJ at hb
 split at hb<;>try (cases hb;done)
 rename_i ops base Pl Sl k e w kn
 simp only[Bool.and_eq_true,Bool.not_eq_true'] at hb
 obtain⟨h1,h2,h3,h4,h5,h6,h7⟩:=hb
 intro bR hpf
 refine aaH is h1 h2 h3 h4 h5 h6 ?_ h7
 clear h6 h7
 induction is with
 |nil=>trivial
 |cons i is ih=>
  simp only[List.all_cons,Bool.and_eq_true,Bool.not_eq_true'] at h2
  refine⟨fun rest todo hk=>h.1 rest todo (fun v s' hp ha=>?_) bR,ih h.2 h2.2⟩
  have jH:∀x,x∈pending ops i Sl→x∈Sl:=fun x hx=>(List.mem_filter.1 hx).1
  refine hk v s' (fun j u Im bO=>?_) (ha ⟨fun j u Im ZS s0=>?_,fun j u B Im hB s0 GQ vx=>?_⟩)
  ·cases ZS:tb ops X.n base Pl j with
   |true=>exact hpf.1 j u (jH _ Im) ZS s'
   |false=>exact hp j u Im ZS (fun B hB hx hb=>hpf.2 j u B (jH _ Im) hB s' hx hb) bO
  ·have Ob:j∈aj Sl:=aN.2 ⟨u,jH _ Im⟩
   have qZ:i∉bk ops j:=fun hd=>by
    have h8:=bI.1 h5 j Ob
    have h9:=bI.1 (List.all_eq_true.1 h4 j h8) i hd
    rw[aJ.2 h9] at h2;exact absurd h2.1.2 (by simp)
   rw[cO qZ]
   exact hpf.1 j u (jH _ Im) (by simp only[tb,cO qZ] at ZS;exact ZS) s0
  have Ob:j∈aj Sl:=aN.2 ⟨u,jH _ Im⟩
  have qZ:i∉bk ops j:=fun hd=>by
   have h8:=bI.1 h5 j Ob
   have h9:=bI.1 (List.all_eq_true.1 h4 j h8) i hd
   rw[aJ.2 h9] at h2;exact absurd h2.1.2 (by simp)
  rw[cO qZ]
  exact hpf.2 j u B (jH _ Im) hB s0 GQ vx
theorem aD(i:Nat)(h:∀rest todo,LK X i o rest todo→J X (asw i rest todo o))(hb:WJ [i] o=true:=by kernel_rfl):J X o:=lJ [i] ⟨h,trivial⟩ hb
def Vb(i:Nat):Option JS→Option JS→Option JS
 |some ⟨.HA ops base Pl Sl k,e,_,kn⟩,some ⟨.ops _ _ _,e',w',kn'⟩=>some ⟨.HA ops base ((i,match aO ops i with
  |some d=>(iD e' d).getD undef
  |none=>undef)::Pl) (pending ops i Sl) k,e,w',⟨kn'.c,kn.nd⟩⟩
 |_,_=>none
def bkL(i:Nat)(rest:Env)(todo:List Nat):Option JS→Option JS→Option JS
 |some ⟨.HA ops base Pl _ k,_,_,_⟩,some ⟨_,e',w',kn'⟩=>some ⟨.ops ops todo k,upd (aO ops i) (match aO ops i with
  |some d=>(iD e' d).getD undef
  |none=>undef) (cm ops base i Pl++rest),w',kn'⟩
 |_,_=>none
theorem U7(h:bkL i rest todo o o1=o1)(h1:o1≠none):∃ops base Pl Sl k e w kn v w' kn',o=some ⟨.HA ops base Pl Sl k,e,w,kn⟩∧o1=some ⟨.ops ops todo k,upd (aO ops i) v (cm ops base i Pl++rest),w',kn'⟩:=by
 unfold bkL at h
 split at h
 ·simp only[Option.some.injEq,JS.mk.injEq] at h
  obtain⟨rfl,h,_⟩:=h
  exact⟨_,_,_,_,_,_,_,_,_,_,_,rfl,by rw[h]⟩
 exact(h1 h.symm).elim
def rwO:Option JS→List Sg
 |some s=>s.rw
 |none=>[]
theorem ba(hK:LK X i o rest todo)(is:List Nat)(hj:J X (Vb i o o1))(hc:bkL i rest todo o o1=o1:=by kernel_rfl)(h2:rz is o1=some (rwO o):=by kernel_rfl):J X o1:=by
 by_cases eB:o1=none
 ·subst eB
  cases o with
  |none=>exact hj
  |some s=>rcases s with ⟨p,e,w,kn⟩;cases p<;>exact hj
 obtain⟨kP,base,Pl,Sl,k,e,w,kn,v,w',kn',rfl,rfl⟩:=U7 hc eB
 intro bR
 have hp:=my h2
 have hv:(match aO kP i with
  |some d=>(iD (upd (aO kP i) v (cm kP base i Pl++rest)) d).getD undef
  |none=>undef)=v∨aO kP i=none:=by
  cases hd:aO kP i with
  |none=>exact .inr rfl
  |some d=>left;simp[upd,iD]
 have hj:=hj bR
 simp only[Vb,JP] at hj
 have key:=hK (match aO kP i with
  |some d=>(iD (upd (aO kP i) v (cm kP base i Pl++rest)) d).getD undef
  |none=>undef) ⟨X.ro,den w'⟩ (fun j u _ _ _ hs=>hs.ext fun b ob hb=>?_) hj
 ·show ab _ _ _ _ _ _ _ _
  rcases hv with hv|hv
  ·rw[hv] at key;exact key
  rw[hv] at key ⊢;exact key
 rcases hb with hb|hb
 ·exact .inl hb
 exact .inr (hp.mem_iff.2 (List.mem_append_left _ hb))
def ac6(i:Nat):Option JS→Bool
 |some ⟨.HA ops _ _ Sl _,_,_,_⟩=>(pending ops i Sl).isEmpty
 |_=>false
theorem cw(hK:LK X i o rest todo)(hj:J X (Vb i o o1))(hc:bkL i rest todo o o1=o1:=by kernel_rfl)(h2:ac6 i o=true:=by kernel_rfl):J X o1:=by
 by_cases eB:o1=none
 ·subst eB
  cases o with
  |none=>exact hj
  |some s=>rcases s with ⟨p,e,w,kn⟩;cases p<;>exact hj
 obtain⟨kP,base,Pl,Sl,k,e,w,kn,v,w',kn',rfl,rfl⟩:=U7 hc eB
 intro bR
 have hv:(match aO kP i with
  |some d=>(iD (upd (aO kP i) v (cm kP base i Pl++rest)) d).getD undef
  |none=>undef)=v∨aO kP i=none:=by
  cases hd:aO kP i with
  |none=>exact .inr rfl
  |some d=>left;simp[upd,iD]
 have hj:=hj bR
 simp only[Vb,JP] at hj
 have hpe:pending kP i Sl=[]:=by simpa [ac6] using h2
 have key:=hK (match aO kP i with
  |some d=>(iD (upd (aO kP i) v (cm kP base i Pl++rest)) d).getD undef
  |none=>undef) ⟨X.ro,den w'⟩ (fun j u Im=>by rw[hpe] at Im;cases Im) hj
 show ab _ _ _ _ _ _ _ _
 rcases hv with hv|hv
 ·rw[hv] at key;exact key
 rw[hv] at key ⊢;exact key
def ndG:List (Nat×Cells)→Nat→Option Cells
 | [],_=>none
 | (i,B)::l,j=>bif Nat.beq i j then some B else ndG l j
theorem Wx{j:Nat}{B:Cells}:∀ {l:List (Nat×Cells)},ndG l j=some B→(j,B)∈l
 | (i,C)::l,h=>by
  simp only[ndG] at h
  cases hb:Nat.beq i j with
  |true=>
   rw[hb] at h;simp only[cond_true,Option.some.injEq] at h;subst h
   have:=Nat.eq_of_beq_eq_true hb;subst this
   exact List.mem_cons_self
  |false=>rw[hb] at h;simp only[cond_false] at h;exact List.mem_cons_of_mem _ (Wx h)
structure Rk where
 a:List Value
 b:List Value
 c:List (Option Cells)
 d:List (Option Cells)
def aGW(ps:List Nat)(w:List Sg):Option Cells:=bif Gq ps then (match Pm ps w with
 |some x=>some (den x)
 |none=>none) else none
def rkL(P:Program)(n:Nat)(ops:Array Oper)(base:Env)(Pl:List (Nat×Value))(nd:List (Nat×Cells))(w:List Sg)(kn:Cells):List (List Nat)→List (Nat×Value)→Option Rk
 |_,[]=>some ⟨[],[],[],[]⟩
 |hs,(j,u)::r=>bif tb ops n base Pl j then rkL P n ops base Pl nd w kn hs r else (match hs with
  |h::hs=>match ndG nd j with
   |some B=>match rkL P n ops base Pl nd w kn hs r with
    |some ⟨a,b,c,d⟩=>some ⟨a,b,aGW h w::c,some B::d⟩
    |none=>none
   |none=>match ops[j]? with
    |some p=>match wM ops n (cm ops base j Pl) p.guard with
     |some true=>match p.op with
      | .load T x=>match bh n (cm ops base j Pl) x with
       |some (.pointer (some ⟨b,off,none⟩))=>match Br w kn (h.headD 0) with
        |some (b',l)=>match ldv P T l off with
         |some v=>match rkL P n ops base Pl nd w kn hs r with
          |some ⟨a1,b1,c,d⟩=>some ⟨v:: .int .i64 b'::a1,u:: .int .i64 b::b1,c,d⟩
          |none=>none
         |none=>none
        |none=>none
       |_=>none
      |_=>none
     |_=>none
    |none=>none
  | []=>none)
theorem LD{ops:Array Oper}{base:Env}{Pl:List (Nat×Value)}{nd:List (Nat×Cells)}{w:List Sg}{kn:Cells}(bR:Knows X.ro kn):∀ {l:List (Nat×Value)} {hs:List (List Nat)} {k:Rk},rkL X.P X.n ops base Pl nd w kn hs l=some k→k.a=k.b→k.c=k.d→∀j u,(j,u)∈l→tb ops X.n base Pl j=false→
 (∀B,(j,B)∈nd→Ext ⟨X.ro,[]⟩ ⟨X.ro,den w⟩→(∀x∈B,(⟨X.ro,den w⟩:St).has x.1 x.2)→e8 X.C X.fn X.aA ops X.n X.D j u (cm ops base j Pl) ⟨X.ro,den w⟩)→e8 X.C X.fn X.aA ops X.n X.D j u (cm ops base j Pl) ⟨X.ro,den w⟩
 | [],_,_,_,_,_,j,u,h,_,_=>by cases h
 | (j0,u0)::r,hs,k,h,Ft,hcd,j,u,hm,hpj,mN=>by
  simp only[rkL] at h
  cases ZS:tb ops X.n base Pl j0 with
  |true=>
   rw[ZS] at h;simp only[cond_true] at h
   rcases List.mem_cons.1 hm with h1|h1
   ·cases h1;rw[ZS] at hpj;cases hpj
   exact LD bR h Ft hcd j u h1 hpj mN
  |false=>
   rw[ZS] at h;simp only[cond_false] at h
   split at h<;>try (cases h;done)
   rename_i h0 cd
   split at h
   ·rename_i B hB
    split at h<;>try (cases h;done)
    rename_i a b c d hr
    cases h
    simp only[List.cons.injEq] at hcd
    rcases List.mem_cons.1 hm with h1|h1
    ·cases h1
     refine mN B (Wx hB) Nj fun x hx=> .inr ?_
     have hw:=hcd.1
     unfold aGW at hw
     cases ho:Gq h0 with
     |false=>rw[ho] at hw;cases hw
     |true=>
      rw[ho] at hw;simp only[cond_true] at hw
      split at hw<;>try (cases hw;done)
      rename_i y hy
      simp only[Option.some.injEq] at hw;subst hw
      exact(xz hy ho).mem_iff.2 (List.mem_append_left _ hx)
    exact LD bR hr Ft hcd.2 j u h1 hpj mN
   split at h<;>try (cases h;done)
   rename_i p hp
   have EG:aO ops j0=p.dst:=by simp only[aO,hp,Option.bind_some]
   split at h<;>try (cases h;done)
   rename_i hg
   split at h<;>try (cases h;done)
   rename_i T x ay
   split at h<;>try (cases h;done)
   rename_i b0 off hx
   split at h<;>try (cases h;done)
   rename_i b' l hc
   split at h<;>try (cases h;done)
   rename_i v hv
   split at h<;>try (cases h;done)
   rename_i a1 b1 c d hr
   cases h
   simp only[List.cons.injEq,Value.int.injEq,true_and] at Ft
   obtain⟨rfl,hb,Ft⟩:=Ft
   have hb:b'=b0:=by omega
   subst hb
   rcases List.mem_cons.1 hm with h1|h1
   ·cases h1
    obtain⟨t,fz,hh⟩:=zt (X:=X) bR hc
    intro s1 hx1 rest todo Q hk
    rw[EG] at hk
    exact mz X.hC hp rest (n8 hg rest) (by rw[ay];rfl) (ad5 ay hx hh hv) hx1 hk
   exact LD bR hr Ft hcd j u h1 hpj mN
def rkO(P:Program)(n i:Nat)(hs:List (List Nat)):Option JS→Option JS→Option Rk
 |some ⟨.HA ops base Pl Sl _,_,_,kn⟩,some s1=>rkL P n ops base Pl kn.nd s1.rw s1.kn.c hs (pending ops i Sl)
 |_,_=>none
def rkA:Option Rk→Option (List Value×List (Option Cells))
 |some k=>some (k.a,k.c)
 |none=>some ([],[])
def rkB:Option Rk→Option (List Value×List (Option Cells))
 |some k=>some (k.b,k.d)
 |none=>none
theorem iB(hK:LK X i o rest todo)(hs:List (List Nat))(hj:J X (Vb i o o1))(hc:bkL i rest todo o o1=o1:=by kernel_rfl)(h2:rkA (rkO X.P X.n i hs o o1)=rkB (rkO X.P X.n i hs o o1):=by kernel_rfl):J X o1:=by
 by_cases eB:o1=none
 ·subst eB
  cases o with
  |none=>exact hj
  |some s=>rcases s with ⟨p,e,w,kn⟩;cases p<;>exact hj
 obtain⟨kP,base,Pl,Sl,k,e,w,kn,v,w',kn',rfl,rfl⟩:=U7 hc eB
 intro bR
 have hv:(match aO kP i with
  |some d=>(iD (upd (aO kP i) v (cm kP base i Pl++rest)) d).getD undef
  |none=>undef)=v∨aO kP i=none:=by
  cases hd:aO kP i with
  |none=>exact .inr rfl
  |some d=>left;simp[upd,iD]
 have hj:=hj bR
 simp only[Vb,JP] at hj
 have bO:∀j u,(j,u)∈pending kP i Sl→tb kP X.n base Pl j=false→(∀B,(j,B)∈kn.nd→Ext ⟨X.ro,[]⟩ ⟨X.ro,den w'⟩→(∀x∈B,(⟨X.ro,den w'⟩:St).has x.1 x.2)→e8 X.C X.fn X.aA kP X.n X.D j u (cm kP base j Pl) ⟨X.ro,den w'⟩)→e8 X.C X.fn X.aA kP X.n X.D j u (cm kP base j Pl) ⟨X.ro,den w'⟩:=by
  simp only[rkO] at h2
  cases hr:rkL X.P X.n kP base Pl kn.nd w' kn'.c hs (pending kP i Sl) with
  |none=>rw[hr] at h2;cases h2
  |some x=>
   rw[hr] at h2
   simp only[rkA,rkB,Option.some.injEq,Prod.mk.injEq] at h2
   exact LD bR hr h2.1 h2.2
 have key:=hK (match aO kP i with
  |some d=>(iD (upd (aO kP i) v (cm kP base i Pl++rest)) d).getD undef
  |none=>undef) ⟨X.ro,den w'⟩ (fun j u Im ZS hn _=>bO j u Im ZS hn) hj
 show ab _ _ _ _ _ _ _ _
 rcases hv with hv|hv
 ·rw[hv] at key;exact key
 rw[hv] at key ⊢;exact key
end
attribute [irreducible] rkO rkA rkB asw WJ Vb bkL rwO ac6
abbrev RY(ro:Nat→Option Obj)(Φ:Value→Cells→Prop):Ending→St→Prop:=fun en s'=>∃v X,en= .returned v∧(⟨ro,X⟩:St).le s'∧Φ v X
theorem Round.mono{l:Nat}{bd:Code}{R':Ending→St→Prop}(h:Round C l f tm as bd s R)(hr:∀e s,R e s→R' e s):Round C l f tm as bd s R':=
 fun main T hT c cs k1 k2=>h main T hT c cs (fun v s' hv=>k1 v s' (hr _ _ hv)) (fun ch s' hv=>k2 ch s' (hr _ _ hv))
theorem Round.weaken{C':Class}(hc:∀main T,C' main T→C main T){l:Nat}{bd:Code}(h:Round C l f tm as bd s R):Round C' l f tm as bd s R:=
 fun main T hT=>h main T (hc main T hT)
theorem Round.frame{l:Nat}{bd:Code}{s1:St}{B:Cells}{ro:Nat→Option Obj}(hf:Round (CP P) l f tm as bd s1 R)(hB:∀x∈B,x∈fr)(hc:aaU fr B ro s1 s):
 Round (CP P) l f tm as bd s (fun en s'=>∃yM,R en yM∧aaU fr B ro yM s'):=
 fun main T hT c cs k1 k2=>hf main _ (A9 hT hB ro) c cs (fun v yM hv _ s' tz=>k1 v s' ⟨yM,hv,tz⟩) (fun ch yM hv _ s' tz=>k2 ch s' ⟨yM,hv,tz⟩) rfl s hc
def abo(r:Loop)(vs:List Value):Array Value:=(r.params.zip ⟨vs⟩).foldl (fun tmps (x:Tmp×Value)=>tmps.setIfInBounds x.1 x.2) r.tmps
def YX(P:Program)(bl:Nat)(vs:List Value)(ro:Nat→Option Obj)(own:Cells)(Φ:Value→Cells→Prop):Prop:=
 ∃r,(bl,.loop r)∈own∧vs.length=r.params.size∧Round (CP P) bl r.fn (abo r vs) r.assign r.body ⟨ro,own⟩ (RY ro Φ)
theorem YX.use{ro:Nat→Option Obj}{own:Cells}(hy:YX P bl vs ro own Φ)(hs:Sub ro s.ro)(hp:s.rw.Perm (own++fr)){Q:Next→St→Prop}{E:Halt→St→Prop}
 (h:∀l f tm as bd,Round (CP P) l f tm as bd s (fun en s'=>∃v X,en= .returned v∧Φ v X∧(⟨s.ro,X++fr⟩:St).le s')→Q (.round l f tm as bd) s):bL P (Instr.yield bl ⟨vs⟩) s Q E:=by
 obtain⟨r,h1,h2,h3⟩:=hy
 simp only[Instr.yield,Instr.getLoop,aa]
 refine cA (o:= .loop r) (.inr (hp.mem_iff.2 (List.mem_append_left _ h1))) rfl rfl ?_
 have vu:¬(⟨vs⟩:Array Value).size≠r.params.size:=by simpa using h2
 simp only[ae,if_neg vu]
 refine h _ _ _ _ _ (Round.mono (Round.frame (fr:=fr) (B:=[]) (ro:=s.ro) (s:=s) h3 (fun _ h=>(by cases h)) ⟨hp,fun b o hb=> .inl (hs b o hb),Sub.refl _⟩) fun en s' DI=>?_)
 obtain⟨yM,⟨v,X,rfl,⟨R,hR1,hR2⟩,qE⟩,hc⟩:=DI
 refine⟨v,X,rfl,qE,R,?_,fun b o hb=> .inl (hc.keep b o hb)⟩
 refine hc.rw.trans ((hR1.append_right fr).trans ?_)
 simp only[List.append_assoc]
 exact List.Perm.append_left _ List.perm_append_comm
section
variable {X:Cx} {o:Option JS}
def aqn(n:Nat)(p:Oper)(e:Env):Option (Nat×List Value):=match p.op with
 | .call ⟨.value x,xs,_⟩=>match bh n e x with
  |some (.func (.yield bl) ⟨[]⟩ ⟨[]⟩)=>match yc n e xs.toList with
   |some vs=>some (bl,vs)
   |none=>none
  |_=>none
 |_=>none
theorem jyc{own:Cells}(ps:List Nat)(hy:YX X.P bl vs pS own Φ)(fT:Sub pS X.ro)(hj:∀v Y,Φ v Y→J X (nI ps v Y o))(h1:fG X.n (aqn X.n) o=some (bl,vs):=by kernel_rfl)(h2:ek ps o=some own:=by kernel_rfl):J X o:=by
 obtain⟨ops,i,todo,k,e,w,kn,p,rfl,ho,hw,hc⟩:=dG h1
 intro bR
 unfold aqn at hc
 split at hc<;>try (cases hc;done)
 rename_i x xs at_ ay
 split at hc<;>try (cases hc;done)
 rename_i bl' hx
 split at hc<;>try (cases hc;done)
 rename_i oH EA
 cases hc
 rcases p with ⟨dst,op,ty,pos,c8,g⟩
 dsimp only at ay;subst ay
 have hp:=bD h2
 refine bN X.hC ho hw (by simp) ?_
 have R2:xs.map (ev X.n e)=⟨vs⟩:=sG EA
 simp only[execOp,resolve,aE hx,Deferred.ofValue,ae,R2]
 have hiv:(invoke (.fn (.yield bl) ⟨[]⟩) (⟨[]⟩++⟨vs⟩):Sem Next)=Instr.yield bl ⟨vs⟩:=by simp[invoke]
 rw[hiv]
 refine YX.use hy fT hp fun l f tm as bd hR=>?_
 show Round X.C l f tm as bd _ _
 refine Round.mono (Round.weaken X.hC hR) fun en s' DI=>?_
 obtain⟨v,Y,rfl,qE,hle⟩:=DI
 have:=hj v Y qE
 rw[oE ho] at this
 have:=this bR
 simp only[JP,gZ] at this
 have:=this.more X.hC hle
 show ab _ _ _ _ _ _ _ _
 rw[aV]
 exact this
end
attribute [irreducible] aqn
def mk:List Nat→Cells
 | []=>[]
 |b::r=>(b,.deferred (some []))::mk r
def adQ(P:Program)(fn:Func)(R:Ending→St→Prop):Post
 | .normal,a,s| .ret,a,s=>∃uI rest,a.defers=uI.map eG∧s.rw.Perm (mk uI++rest)∧bL P (results fn a.tmps) ⟨s.ro,rest⟩ (fun v s'=>∃s0,s0.le s'∧R (.returned v) s0) (fun _ _=>False)
 |_,_,_=>False
section
variable {P:Program} {C:Class}
theorem Au(hC:∀main T,C main T→Closed P main T)(hT:C main T){rest:Cells}:∀(uI:List Nat) (fr:Frame) (s:St),fr.mode= .returning→fr.defers=uI.map eG→s.rw.Perm (mk uI++rest)→T (G {fr with defers:=[]} cs) ⟨s.ro,rest⟩→T (G fr cs) s
 | [],fr,s,_,hd,hp,h=>by
  have:fr={fr with defers:=[]}:=by rcases fr with ⟨a,b,c,d,e,f,g⟩;simp only[List.map_nil] at hd;subst hd;rfl
  rw[this]
  exact(hC main T hT).mono _ ⟨s.ro,rest⟩ _ ⟨[],by simpa [mk] using hp,fun b o hb=> .inl hb⟩ h
 |b::r,fr,s,hm,hd,hp,h=>by
  obtain⟨L,Rr,hs⟩:=List.append_of_mem (hp.mem_iff.2 (List.mem_append_left _ List.mem_cons_self))
  refine unwind_mark hC hT (.inl hm) (ds:=r.map eG) (by simpa using hd) hs ?_
  have RQ:(L++Rr).Perm (mk r++rest):=by
   rw[hs] at hp
   exact(List.perm_middle.symm.trans hp).cons_inv
  refine(hC main T hT).mono _ ⟨s.ro,L++Rr⟩ _ ⟨[(b,.deferred none)],?_,fun b o hb=> .inl hb⟩ (Au hC hT r _ _ hm rfl RQ h)
  exact List.perm_middle.trans (List.perm_append_singleton _ _).symm
theorem KJ(hC:∀main T,C main T→Closed P main T){c:Code}{args:Array Value} 
 (hf:P.funcs[f]?=some fn) (hb:fn.body=some c) (h:Wp C f none c (adQ P fn R) ⟨args++Array.replicate (fn.ntmps-args.size) undef,[]⟩ s):Fn C P f args s R:=by
 intro main T hT cl cs k1 k2
 let b:Frame:={(default:Frame) with fn:=f,kind:= .normal,roundOf:=none}
 have iJ:Frame.enter P f args .normal=aK b ⟨args++Array.replicate (fn.ntmps-args.size) undef,[]⟩ [.code c]:=by
  simp[Frame.enter,aK,hf,hb,b]
 rw[iJ]
 refine h main T hT b [] (cl::cs) rfl (by simp[b]) rfl fun e a' s' q=>?_
 have sC:∀(todo:List Item),(∃uI rest,a'.defers=uI.map eG∧s'.rw.Perm (mk uI++rest)∧bL P (results fn a'.tmps) ⟨s'.ro,rest⟩ (fun v s'=>∃s0,s0.le s'∧R (.returned v) s0) (fun _ _=>False))→T (G {aK b a' todo with mode:= .returning} (cl::cs)) s':=by
  intro todo ⟨uI,rest,hd,hp,hr⟩
  exact Au hC hT uI _ _ rfl hd hp (s8 hC hT hf rfl rfl rfl rfl hr k1)
 cases e with
 |normal=>
  exact(hC main T hT).go rfl rfl (g':=G {aK b a' [] with mode:= .returning} (cl::cs)) (fun w=>by simp[G,stepG,stepG.exec,aK,b]) (sC _ q)
 |ret=>
  exact fun todo=>(hC main T hT).go rfl rfl (g':=G {aK b a' (.code .ret::todo) with mode:= .returning} (cl::cs)) (fun w=>by simp[G,stepG,stepG.exec,aK,b]) (sC _ q)
 |panic ch=>exact q.elim
 |exit id=>exact q.elim
 |goto l=>exact q.elim
 |outgrown=>exact q.elim
end
def XM(P:Program)(hm:P.follows .mixedOrders=true)(f:FuncId)(ro:Nat→Option Obj)(R:Ending→St→Prop):Cx:=⟨P,CP P,fg,hm,f,none,(tC P f).ntmps,[],ro,adQ P (tC P f) R⟩
theorem alF(hm:P.follows .mixedOrders=true){ro:Nat→Option Obj}{L:Cells}(own:List Sg)(kn:Cells)(hk:Knows ro kn)(h:J (XM P hm f ro (RX ro Φ)) (lI P f args own kn))(hL:den own=L:=by rfl):eS P f args ro L Φ:=by
 subst hL
 unfold lI at h
 split at h<;>try exact h.elim
 rename_i fn hf
 split at h<;>try exact h.elim
 rename_i c hc
 cases hl:Nat.ble args.length fn.ntmps with
 |false=>rw[hl] at h;exact h.elim
 |true=>
  rw[hl] at h
  have u1:tC P f=fn:=by simp only[tC,hf]
  have:=h hk
  simp only[JP,XM,KQ,u1] at this
  refine KJ fg hf hc ?_
  have he:=lh args fn.ntmps (Nat.le_of_ble_eq_true hl)
  rw[←he] at this
  exact this
structure QM(X:Cx)(R:Ending→St→Prop)(uI:List Nat):Prop where
 q:X.Q=adQ X.P (tC X.P X.fn) R
 d:X.D=uI.map eG
def Cx.dm(X:Cx)(bd:Nat):Cx:={X with D:=eG bd::X.D}
theorem qm0{hm:P.follows .mixedOrders=true}{ro:Nat→Option Obj}:QM (XM P hm f ro R) R []:=⟨rfl,rfl⟩
theorem QM.a{ro:Nat→Option Obj}(h:QM X R uI):QM (X.at ro) R uI:=⟨h.q,h.d⟩
theorem QM.m(h:QM X R uI):QM (X.dm bd) R (bd::uI):=⟨h.q,by simp[Cx.dm,h.d]⟩
theorem QM.w{aHc:List Nat}(h:QM X R uI):QM (X.wd (aHc.map eG)) R aHc:=⟨h.q,rfl⟩
def C4(pm:List Nat):Option JS→Option JS
 |some ⟨p,e,w,kn⟩=>some ⟨p,e,dK pm 0 w,kn⟩
 |none=>none
section
variable {X:Cx} {o:Option JS}
theorem jrM(hq:QM X (RX pS Φ) uI)(v:Value)(pm hs ps:List Nat)(Y:Cells)(fT:Sub pS X.ro)(hR:Φ v Y)(h0:ek pm o=some (mk uI):=by kernel_rfl)(h1:tA (ky X.P X.n X.fn hs (C4 pm o))=some v:=by kernel_rfl)(h2:R8 (ky X.P X.n X.fn hs (C4 pm o))=R7 (ky X.P X.n X.fn hs (C4 pm o)):=by kernel_rfl)(h3:ek ps (C4 pm o)=some Y:=by kernel_rfl)(h4:CW o=true:=by kernel_rfl):J X o:=by
 obtain⟨ex,e,w,kn,rfl,hex⟩:=tE h4
 simp only[C4,ky] at h1 h2 h3
 cases hr:BX X.P X.n e (dK pm 0 w) kn.c hs (tC X.P X.fn).results.toList with
 |none=>simp only[hr,tA] at h1;cases h1
 |some x=>
  rcases x with ⟨vs,q⟩
  simp only[hr,tA,Option.some.injEq,R8,R7] at h1 h2
  intro bR
  have sC:=tW bR hr (mO h2)
  have hp:=bD h3
  have Ii:=O5 (s0:=⟨pS,Y⟩) (R:=RX pS Φ) hex sC h1 (dY hp fT) ⟨v,Y,rfl,rfl,hR⟩
  have ht:bL X.P (results (tC X.P X.fn) (A X.n e X.D).tmps) ⟨X.ro,den (dK pm 0 w)⟩ (fun v s'=>∃s0,s0.le s'∧RX pS Φ (.returned v) s0) (fun _ _=>False):=by
   rcases hex with rfl|rfl<;>exact Ii.2
  show X.Q ex (A X.n e X.D) ⟨X.ro,den w⟩
  rw[hq.q]
  have hm:∃uI rest,(A X.n e X.D).defers=uI.map eG∧(den w).Perm (mk uI++rest)∧bL X.P (results (tC X.P X.fn) (A X.n e X.D).tmps) ⟨X.ro,rest⟩ (fun v s'=>∃s0,s0.le s'∧RX pS Φ (.returned v) s0) (fun _ _=>False):=⟨uI,_,hq.d,bD h0,ht⟩
  rcases hex with rfl|rfl<;>exact hm
end
attribute [irreducible] C4
def upQ(Q:Post):Post:=fun e a s=>∃s0,s0.le s∧Q e a s0
theorem kp.more(hT:Closed P main T){b:Frame}(hl:s.le s'):∀ {e:Exit} {a:Act},kp T b k cs e a s→kp T b k cs e a s'
 | .normal,_,h=>hT.mono _ _ _ hl h
 | .exit id,a,h=>by
  simp only[kp] at h ⊢
  cases hk:exitTo id k with
  |some k'=>rw[hk] at h;exact hT.mono _ _ _ hl h
  |none=>rw[hk] at h;exact fun todo ht=>hT.mono _ _ _ hl (h todo ht)
 | .ret,_,h=>fun todo=>hT.mono _ _ _ hl (h todo)
 | .panic _,_,h=>fun todo=>hT.mono _ _ _ hl (h todo)
 | .goto _,_,h=>h.elim
 | .outgrown,_,h=>h.elim
theorem aya(hC:∀main T,C main T→Closed P main T){fn:FuncId}{aA:Option Nat}{c:Code}{Q:Post}{a:Act}(h:Wp C fn aA c (upQ Q) a s):Wp C fn aA c Q a s:=
 fun main T hT b k cs h1 h2 h3 h4=>h main T hT b k cs h1 h2 h3 fun _ _ _ ⟨_,hl,hq⟩=>kp.more (hC _ _ hT) hl (h4 _ _ _ hq)
def ItX(P:Program)(g:FuncId)(fi ca:List Value)(ro:Nat→Option Obj)(own:Cells)(N:Nat)(El:(Nat→Option Obj)→Nat→List Value→Cells→Prop)(Ψ:Cells→Prop):Prop:=
 ∀(bl:Nat) (aB:Nat→Option Obj) (Inv:Nat→Cells→Prop) (Stop:Cells→Prop),Sub ro aB→
  (∀k vs LL B kF,k <N→El kF k vs LL→Inv k B→Sub aB kF→YX P bl vs kF (LL++B) (fun r B'=>(r= .bool true∧Inv (k+1) B')∨(r= .bool false∧Stop B')))→
  ∀B,Inv 0 B→eS P g (fi++[.func (.yield bl) #[] #[]]++ca) aB (own++B) (fun _ Y=>∃Z B',Y=Z++B'∧Ψ Z∧(Inv N B'∨Stop B'))
theorem Round.more(hC:∀main T,C main T→Closed P main T){l:Nat}{bd:Code}(hl:s.le s')(h:Round C l f tm as bd s R):Round C l f tm as bd s' R:=
 fun main T hT c cs k1 k2=>(hC _ _ hT).mono _ _ _ hl (h main T hT c cs k1 k2)
def rfV(P:Program)(n:Nat):Option JS→Option (FuncId×List Value×List Value×Nat)
 |some ⟨.code (.rangeFunc x ps _ _) _,e,_,_⟩=>match bh n e x with
  |some (.func (.func g) ⟨fi⟩ ⟨ca⟩)=>bif BI P g then some (g,fi,ca,ps.size) else none
  |_=>none
 |_=>none
def lpO(X:Cx)(bd:Nat):Option JS→Loop
 |some ⟨.code (.rangeFunc _ ps a b) _,e,_,_⟩=>iR X.fn (A X.n e X.D).tmps ps a b bd
 |_=>iR X.fn #[] #[] .ret .ret bd
def aG8:Option JS→Code
 |some ⟨.code (.rangeFunc _ _ _ b) _,_,_,_⟩=>b
 |_=> .ret
def OZ:List Tmp→List Value→Env→Env
 |t::ts,v::vs,e=>OZ ts vs (upd (some t) v e)
 |_,_,e=>e
theorem OY{D:List Deferred}:∀(ts:List Tmp) (vs:List Value) (e:Env),(ts.zip vs).foldl (fun(tm:Array Value) (x:Tmp×Value)=>tm.setIfInBounds x.1 x.2) (A n e D).tmps=(A n (OZ ts vs e) D).tmps
 | [],_,_=>rfl
 |_::_,[],_=>rfl
 |t::ts,v::vs,e=>by
  have:=aV n e D (some t) v
  simp only[Act.put] at this
  simp only[List.zip_cons_cons,List.foldl_cons,OZ]
  rw[←OY ts vs,←this]
def rdO(X:Cx)(bl bd:Nat)(vs:List Value)(w:List Sg)(o:Option JS):Option JS:=match o with
 |some ⟨.code (.rangeFunc _ ps a _) _,e,_,kn⟩=>some ⟨.code a [],OZ ps.toList vs e,.b bl (.loop (lpO X bd o))::w,⟨kn.c,[]⟩⟩
 |_=>none
def afO(jump:Option Code)(bd:Nat)(Z:Cells)(wi:List Sg)(is:List Nat):Option JS→Option JS
 |some ⟨.code _ k,e,w,kn⟩=>match jump with
  |none=>some ⟨Ph k,e,.b bd (.deferred (some [])):: .l Z::(wi++dK is 0 w),⟨kn.c,[]⟩⟩
  |some .ret=>some ⟨.fin .ret,e,.b bd (.deferred (some [])):: .l Z::(wi++dK is 0 w),⟨kn.c,[]⟩⟩
  |some (.exit id)=>match Bf id k with
   |some p=>some ⟨p,e,.b bd (.deferred (some [])):: .l Z::(wi++dK is 0 w),⟨kn.c,[]⟩⟩
   |none=>none
  |_=>none
 |_=>none
def aqo(bl:Nat)(Lp:Loop)(wf:ι→List Sg)(Inv:Nat→ι→Prop)(Sp:Code→ι→Prop)(k:Nat):Value→Cells→Prop:=fun r B=>
 (r= .bool true∧∃j,Inv (k+1) j∧B=(bl,.loop Lp)::den (wf j))∨(r= .bool false∧∃jump j,Sp jump j∧B=(bl,.loop {Lp with state:= .done,pending:=some jump})::den (wf j))
def Cx.rd(X:Cx)(bl:Nat)(ro:Nat→Option Obj)(Φ:Value→Cells→Prop)(body:Code):Cx:=⟨X.P,CP X.P,fg,X.hm,X.fn,some bl,X.n,[],ro,HY (CP X.P) (RY ro Φ) bl X.fn body⟩
def Cx.re(X:Cx)(bl:Nat)(ro:Nat→Option Obj)(Φ:Value→Cells→Prop):Cx:=⟨X.P,CP X.P,fg,X.hm,X.fn,some bl,X.n,[],ro,BW (RY ro Φ) bl⟩
theorem K0:∀(k:List KI),KQ (X.dm bd) k=KQ X k
 | []=>rfl
 | .seq _::k=>by simp only[KQ,K0 k];rfl
 | .block _::k=>by simp only[KQ,K0 k]
 | .next _::k=>by simp only[KQ,K0 k]
theorem JY(Z W R:List α)(x y:α):((Z++x::W)++y::R).Perm (x::y::(Z++(W++R))):=by
 refine List.perm_middle.trans ?_
 rw[List.append_assoc,List.cons_append]
 exact(List.Perm.cons y List.perm_middle).trans (List.Perm.swap _ _ _)
section
variable {X:Cx} {o:Option JS}
theorem jrf{np:Nat}{Ψ:Cells→Prop}(ow:List Sg)(hit:ItX X.P g fi ca X.ro (den ow) N El Ψ)(Xt:∀ro k vs LL,El ro k vs LL→vs.length=np)
 (wf:ι→List Sg)(Inv:Nat→ι→Prop)(Sp:Code→ι→Prop)(i0:ι)(h0:Inv 0 i0)(is:List Nat)
 (hb:∀bl bd k vs LL i kF,k <N→El kF k vs LL→Inv k i→Sub X.ro kF→J (X.rd bl kF (aqo bl (lpO X bd o) wf Inv Sp k) (aG8 o)) (rdO X bl bd vs (wf i++[.l LL]) o))
 (hN:∀bd i Z,Inv N i→Ψ Z→J (X.dm bd) (afO none bd Z (wf i) is o))(hS:∀bd i Z jump,Sp jump i→Ψ Z→J (X.dm bd) (afO (some jump) bd Z (wf i) is o))
 (h1:rfV X.P X.n o=some (g,fi,ca,np):=by kernel_rfl)(h2:rz is o=some (ow++wf i0):=by kernel_rfl)(hf:(X.P.funcs[X.fn]?).isSome=true:=by kernel_rfl) (hr:X.aA=none:=by rfl):J X o:=by
 unfold rfV at h1
 split at h1<;>try (cases h1;done)
 rename_i x params assign body k e w kn
 split at h1<;>try (cases h1;done)
 rename_i g' UP zu hx
 cases Ha:BI X.P g' with
 |false=>rw[Ha] at h1;cases h1
 |true=>
  rw[Ha] at h1
  simp only[cond_true,Option.some.injEq,Prod.mk.injEq] at h1
  obtain⟨rfl,rfl,rfl,hnp⟩:=h1
  have ff:=lN Ha
  intro bR
  have hp:=my h2
  rw[mh] at hp
  obtain⟨fn',u1⟩:=Option.isSome_iff_exists.1 hf
  show Wp X.C X.fn X.aA (.rangeFunc x params assign body) (KQ X k) (A X.n e X.D) ⟨X.ro,den w⟩
  rw[hr]
  refine aya X.hC (An X.hC (fi:=⟨UP⟩) (ca:=⟨zu⟩) (by rw[eI];exact aE hx) ff fun bd bl _ _=>?_)
  rw[Ru]
  have hy:=hit bl X.ro (fun k B=>∃i,Inv k i∧B=(bl,.loop (iR X.fn (A X.n e X.D).tmps params assign body bd))::den (wf i))
   (fun B=>∃jump i,Sp jump i∧B=(bl,.loop {iR X.fn (A X.n e X.D).tmps params assign body bd with state:= .done,pending:=some jump})::den (wf i)) (Sub.refl _) (fun k vs LL B kF hk hv hi hs=>?_) _ ⟨i0,h0,rfl⟩
  rotate_left
  ·obtain⟨i,hi,rfl⟩:=hi
   refine⟨iR X.fn (A X.n e X.D).tmps params assign body bd,List.mem_append_right _ List.mem_cons_self,(Xt _ _ _ _ hv).trans hnp.symm,Round.more fg (s:=⟨kF,((bl,.loop (iR X.fn (A X.n e X.D).tmps params assign body bd))::den (wf i))++LL⟩) ⟨[],by rw[List.append_nil];exact List.perm_append_comm,fun b o hb=> .inl hb⟩ (Dr fg u1 ?_)⟩
   have:=hb bl bd k vs LL i kF hk hv hi hs fun y hy=>hs _ _ (bR y hy)
   have MW:den (.b bl (.loop (iR X.fn (A X.n e X.D).tmps params assign body bd))::(wf i++[.l LL]))=((bl,.loop (iR X.fn (A X.n e X.D).tmps params assign body bd))::den (wf i))++LL:=by rw[iX,mh];rfl
   rw[←MW]
   have hyt:abo (iR X.fn (A X.n e X.D).tmps params assign body bd) vs=(A X.n (OZ params.toList vs e) X.D).tmps:=by
    rw[←OY]
    simp only[abo,iR]
    rw[←Array.foldl_toList,Array.toList_zip]
   rw[hyt]
   exact this
  refine Fn.weaken X.hC (Fn.mono (Fn.frame (fr:=(bd,.deferred (some []))::den (dK is 0 w)) (B:=[]) (ro:=X.ro) hy (fun _ h=>(by cases h)) ⟨?_,fun b o hb=> .inl hb,Sub.refl _⟩) fun en s' DI=>?_)
  ·refine List.Perm.trans (.cons _ (.cons _ ?_)) (JY _ _ _ _ _).symm
   rw[←List.append_assoc]
   exact hp
  obtain⟨yM,⟨v,Y,rfl,rfl,Z,B',rfl,hΨ,hI⟩,hc⟩:=DI
  have hc1:s'.rw.Perm ((Z++B')++(bd,.deferred (some []))::den (dK is 0 w)):=hc.rw
  have key:∀(r0:Loop) (i:ι),B'=(bl,.loop r0)::den (wf i)→∃L Rr,s'.rw=L++(bl,.loop r0)::Rr∧∀r1,(⟨X.ro,den (.b bd (.deferred (some [])):: .l Z::(wf i++dK is 0 w))⟩:St).le ⟨s'.ro,L++(bl,.loop r1)::Rr⟩:=by
   intro r0 i hB
   subst hB
   have hc2:=hc1.trans (JY _ _ _ _ _)
   obtain⟨L,Rr,hs⟩:=List.append_of_mem (hc2.mem_iff.2 List.mem_cons_self)
   refine⟨L,Rr,hs,fun r1=>dY (J:=[(bl,.loop r1)]) ?_ hc.keep⟩
   rw[hs] at hc2
   have hc3:=(List.perm_middle.symm.trans hc2).cons_inv
   rw[iX,gZ,mh]
   exact List.perm_middle.trans ((List.Perm.cons _ hc3).trans (List.perm_append_singleton _ _).symm)
  rcases hI with ⟨i,hi,hB⟩| ⟨jump,i,hi,hB⟩
  ·obtain⟨L,Rr,hs,hle⟩:=key _ i hB
   refine⟨L,_,Rr,hs,by simp[iR],?_⟩
   refine⟨_,hle _,?_⟩
   have:=hN bd i Z hi hΨ bR
   rw[←K0 (bd:=bd)]
   exact ub (X:=X.dm bd) (kn:=⟨kn.c,[]⟩) this
  obtain⟨L,Rr,hs,hle⟩:=key _ i hB
  refine⟨L,_,Rr,hs,by simp,?_⟩
  have:=hS bd i Z jump hi hΨ
  cases jump with
  |ret=>
   refine⟨_,hle _,?_⟩
   rw[←K0 (bd:=bd)]
   exact AA (X:=X.dm bd) (this bR) k
  |exit id=>
   simp only[afO] at this
   cases hk:Bf id k with
   |none=>rw[hk] at this;exact this.elim
   |some p=>
    rw[hk] at this
    refine⟨_,hle _,?_⟩
    rw[←K0 (bd:=bd)]
    exact wS (X:=X.dm bd) (kn:=⟨kn.c,[]⟩) hk (this bR)
  |_=>exact this.elim
end
theorem aA4:(lpO X bd o).state= .ready∧(lpO X bd o).pending=none:=by
 unfold lpO
 split<;>exact⟨rfl,rfl⟩
attribute [irreducible] rfV lpO aG8 rdO afO
def bgO(body:Code):Option JS→Option (JS×Nat)
 |some ⟨.fin .normal,e,.b b (.loop r)::w,kn⟩=>match r.state with
  | .ready=>some (⟨.code body [],e,.b b (.loop {r with state:= .busy})::w,kn⟩,b)
  |_=>none
 |_=>none
def EJ:Option (JS×Nat)→Option JS
 |some (s,_)=>some s
 |none=>none
def SH:Option (JS×Nat)→Option Nat
 |some (_,b)=>some b
 |none=>none
def P5:Option JS→Option (Option Code)
 |some ⟨.fin .normal,_,_,_⟩=>some none
 |some ⟨.fin .ret,_,_,_⟩=>some (some .ret)
 |some ⟨.fin (.exit id),_,_,_⟩=>some (some (.exit id))
 |_=>none
structure QY(X:Cx)(bl:Nat)(ro:Nat→Option Obj)(Φ:Value→Cells→Prop):Prop where
 q:X.Q=BW (RY ro Φ) bl
theorem Zf{ro:Nat→Option Obj}:QY (X.re bl ro Φ) bl ro Φ:=⟨rfl⟩
section
variable {X:Cx} {o:Option JS} {bl:Nat} {ro:Nat→Option Obj}
theorem jbg(h:J (X.re bl ro Φ) (EJ (bgO body o)))(h1:SH (bgO body o)=some bl:=by kernel_rfl):J (X.rd bl ro Φ body) o:=by
 unfold bgO at h h1
 split at h<;>try exact h.elim
 rename_i e b r w kn
 split at h<;>try exact h.elim
 rename_i bO
 simp only[bO,SH,Option.some.injEq] at h1
 subst h1
 simp only[EJ] at h
 intro bR
 have hw:=h bR
 simp only[JP,Cx.rd,HY,Df]
 refine⟨[],r,den w,by rw[iX];rfl,bO,?_⟩
 simp only[JP,iX] at hw
 exact hw
theorem jyR{Lp:Loop}{jump:Option Code}{Y:Cells}(hq:QY X bl ro Φ)(fT:Sub ro X.ro)(ps:List Nat)(qE:Φ (.bool jump.isNone) ((bl,.loop {Lp with state:=if jump.isNone then .ready else .done,pending:=jump})::Y))(h1:ek ps o=some ((bl,.loop {Lp with state:= .busy})::Y):=by kernel_rfl)(h2:P5 o=some jump:=by kernel_rfl):J X o:=by
 have main:∀s w kn e,o=some ⟨s,e,w,kn⟩→UX (RY ro Φ) bl jump ⟨X.ro,den w⟩:=by
  intro s w kn e ho
  subst ho
  have hp:=bD h1
  obtain⟨L,Rr,hs⟩:=List.append_of_mem (hp.mem_iff.2 (List.mem_append_left _ List.mem_cons_self))
  refine⟨L,_,Rr,hs,_,_,rfl,?_,qE⟩
  have nG:den w=L++(bl,.loop {Lp with state:= .busy})::Rr:=hs
  have hp':(den w).Perm (((bl,.loop {Lp with state:= .busy})::Y)++den (dK ps 0 w)):=hp
  rw[nG] at hp'
  have RQ:=(List.perm_middle.symm.trans hp').cons_inv
  exact dY (J:=den (dK ps 0 w)) (List.perm_middle.trans (.cons _ RQ)) fT
 unfold P5 at h2
 split at h2<;>try (cases h2;done)
 ·rename_i e w kn;cases h2;intro _;show X.Q .normal _ _;rw[hq.q];exact main _ _ _ _ rfl
 ·rename_i e w kn;cases h2;intro _;show X.Q .ret _ _;rw[hq.q];exact main _ _ _ _ rfl
 rename_i id e w kn;cases h2;intro _;show X.Q (.exit id) _ _;rw[hq.q];exact main _ _ _ _ rfl
theorem jyn{Lp:Loop}{wf:ι→List Sg}{Inv:Nat→ι→Prop}{Sp:Code→ι→Prop}{k:Nat}(hq:QY X bl ro (aqo bl Lp wf Inv Sp k))(fT:Sub ro X.ro)(j:ι)(h:Inv (k+1) j)(ps:List Nat)(hl:Lp.state= .ready∧Lp.pending=none:=by exact aA4)(h1:ek ps o=some ((bl,.loop {Lp with state:= .busy})::den (wf j)):=by kernel_rfl)(h2:P5 o=some none:=by kernel_rfl):J X o:=
 jyR hq fT ps (.inl ⟨rfl,j,h,by rcases Lp with ⟨a,b,c,d,e,f,g,i⟩;obtain⟨h1,h2⟩:=hl;dsimp only at h1 h2;subst h1 h2;rfl⟩) h1 h2
theorem jys{Lp:Loop}{wf:ι→List Sg}{Inv:Nat→ι→Prop}{Sp:Code→ι→Prop}{k:Nat}(hq:QY X bl ro (aqo bl Lp wf Inv Sp k))(fT:Sub ro X.ro)(jump:Code)(j:ι)(h:Sp jump j)(ps:List Nat)(h1:ek ps o=some ((bl,.loop {Lp with state:= .busy})::den (wf j)):=by kernel_rfl)(h2:P5 o=some (some jump):=by kernel_rfl):J X o:=
 jyR hq fT ps (.inr ⟨rfl,jump,j,h,rfl⟩) h1 h2
end
attribute [irreducible] bgO EJ SH P5
def sM[DecidableEq κ](k:κ):List (κ×Value)→Nat→Option (Nat×Value)
 | [],_=>none
 |x::l,i=>if k=x.1 then some (i,x.2) else sM k l (i+1)
def lkM[DecidableEq κ](k:κ)(F:List (κ×Value)):Option Value:=(sM k F 0).map (·.2)
def tT(k:κ)(v:Value):List (κ×Value)→Nat→List (κ×Value)
 | [],_=>[]
 |_::l,0=>(k,v)::l
 |x::l,i+1=>x::tT k v l i
def mV[DecidableEq κ](k:κ)(v:Value)(F:List (κ×Value)):List (κ×Value):=match sM k F 0 with
 |some (i,_)=>tT k v F i
 |none=>F++[(k,v)]
structure RD(P:Program)(T:TypeId){κ:Type}[DecidableEq κ](kv:κ→Value):Prop where
 chk:∀(b:Bool) (k:κ) {α:Type} {K:Unit→Sem α} {s:St} {Q:α→St→Prop} {E:Halt→St→Prop},bL P (K ()) s Q E→bL P (Instr.checkKey b 10000 T (kv k) >>= K) s Q E
 find:∀(k:κ) (es:List MapEntry) (F:List (κ×Value)),es.map (fun e=>(e.key,e.val))=F.map (fun x=>(kv x.1,x.2))→∀ {α:Type} {K:Option (Nat×Value)→Sem α} {s:St} {Q:α→St→Prop} {E:Halt→St→Prop},bL P (K (sM k F 0)) s Q E→bL P (Instr.findKey T (kv k) es >>= K) s Q E
 stay:∀k,Instr.sameBits 10000 (kv k) (kv k)=true
theorem qO[DecidableEq κ]{k:κ}:∀ {F:List (κ×Value)} {i j:Nat} {v:Value},sM k F i=some (j,v)→i≤j∧F[j-i]?=some (k,v)
 | [],_,_,_,h=>by cases h
 |x::l,i,j,v,h=>by
  simp only[sM] at h
  split at h
  ·rename_i hk
   cases h
   exact⟨Nat.le_refl _,by simp[hk]⟩
  obtain⟨h1,h2⟩:=qO h
  refine⟨by omega,?_⟩
  rw[show j-i=(j-(i+1))+1 by omega,List.getElem?_cons_succ];exact h2
theorem NI(a b:ByteArray):(a==b)=decide (a=b):=by
 have h:(a==b)=(a.data==b.data):=by cases a;cases b;rfl
 rw[h,Bool.eq_iff_iff]
 cases a;cases b
 simp
theorem DO(a:ByteArray):∀(es:List MapEntry) (F:List (ByteArray×Value)) (i:Nat),es.map (fun e=>(e.key,e.val))=F.map (fun x=>(Value.string x.1,x.2))→Instr.findNow .string (.string a) es i=some (sM a F i)
 | [],[],_,_=>rfl
 | [],_::_,_,h=>by simp at h
 |_::_,[],_,h=>by simp at h
 |e::es,x::F,i,h=>by
  simp only[List.map_cons,List.cons.injEq,Prod.mk.injEq] at h
  obtain⟨⟨h1,h2⟩,h3⟩:=h
  simp only[Instr.findNow,h1,Instr.sameNow,sM,NI]
  by_cases hk:a=x.1
  ·simp[hk,h2]
  simp only[hk,decide_false,if_false]
  exact DO a es F (i+1) h3
def CkD(P:Program)(dep:Nat)(T:TypeId)(v:Value):Prop:=∀(b:Bool) {α:Type} {K:Unit→Sem α} {s:St} {Q:α→St→Prop} {E:Halt→St→Prop},bL P (Instr.checkKey b dep T v >>= K) s Q E=bL P (K ()) s Q E
theorem aG0{T:TypeId}(tf:TF P T .string sz bx z ag)(a:ByteArray):CkD P (dep+1) T (.string a):=by
 intro b α K s Q E
 simp only[Instr.checkKey,aa,aX tf,ae]
theorem asE{T:TypeId}(tf:TF P T .string sz bx z ag):RD P T (fun(a:ByteArray)=>Value.string a) where
 chk b k α K s Q E h:=by rw[aG0 (dep:=9999) tf k b];exact h
 find k es F he α K s Q E h:=by
  simp only[Instr.findKey,aa,aX tf,DO k es F 0 he,ae]
  exact h
 stay k:=by simp[Instr.sameBits,NI]
def aey(P:Program)(T:TypeId):Bool:=match aW P T with
 |some ⟨.string,_,_,_⟩=>true
 |_=>false
theorem WS{T:TypeId}(h:aey P T=true):RD P T (fun(a:ByteArray)=>Value.string a):=by
 unfold aey at h
 split at h
 ·rename_i dZ
  obtain⟨bx,tf⟩:=ar dZ
  exact asE tf
 cases h
theorem ItX.up{ro:Nat→Option Obj}{own:Cells}{Ψ:Cells→Prop}(h:ItX P g fi ca ro own N El Ψ)(hs:Sub ro aF):ItX P g fi ca aF own N El Ψ:=
 fun bl aB Inv Stop h1=>h bl aB Inv Stop (hs.trans h1)
def YOK(P:Program)(bl:Nat)(ro:Nat→Option Obj)(N:Nat)(El:(Nat→Option Obj)→Nat→List Value→Cells→Prop)(Inv:Nat→Cells→Prop)(Stop:Cells→Prop):Prop:=
 ∀k vs LL B kF,k <N→El kF k vs LL→Inv k B→Sub ro kF→YX P bl vs kF (LL++B) (fun r B'=>(r= .bool true∧Inv (k+1) B')∨(r= .bool false∧Stop B'))
theorem YOK.up{ro:Nat→Option Obj}{Inv:Nat→Cells→Prop}{Stop:Cells→Prop}(h:YOK P bl ro N El Inv Stop)(hs:Sub ro aF):YOK P bl aF N El Inv Stop:=
 fun k vs LL B kF h1 h2 h3 h4=>h k vs LL B kF h1 h2 h3 (hs.trans h4)
def Part(L:List α)(p:Nat)(m:List α):Prop:=∃a b,L=a++m++b∧a.length=p
theorem Part.get{L m:List α}{p:Nat}{x:α}(h:Part L p m)(hx:m[i]?=some x):p+i <L.length∧L[p+i]?=some x:=by
 obtain⟨a,b,rfl,rfl⟩:=h
 have hi:=(List.getElem?_eq_some_iff.1 hx).1
 have:(a++m++b)[a.length+i]?=some x:=by
  rw[List.append_assoc,List.getElem?_append_right (by omega),List.getElem?_append_left (by omega),show a.length+i-a.length=i by omega];exact hx
 exact⟨(List.getElem?_eq_some_iff.1 this).1,this⟩
theorem Part.flat{L:List β}{p:Nat}{G:α→List β}{l a b:List α}{s:α}(h:Part L p (l.flatMap G))(hl:l=a++[s]++b):Part L (p+(a.flatMap G).length) (G s):=by
 obtain⟨u,v,rfl,rfl⟩:=h
 subst hl
 exact⟨u++a.flatMap G,b.flatMap G++v,by simp[List.flatMap_append],by simp⟩
theorem OL{T:TypeId}[DecidableEq κ]{kv:κ→Value}(he:∀a b,EqD P 10000 T (kv a) (kv b) (decide (a=b)))(k:κ):∀(es:List MapEntry) (F:List (κ×Value)) (i:Nat),es.map (fun e=>(e.key,e.val))=F.map (fun x=>(kv x.1,x.2))→∀ {α:Type} {K:Option (Nat×Value)→Sem α} {s:St} {Q:α→St→Prop} {E:Halt→St→Prop},bL P (K (sM k F i)) s Q E→bL P (Instr.findAsking T (kv k) es i >>= K) s Q E
 | [],[],_,_,_,_,_,_,_,h=>h
 | [],_::_,_,h,_,_,_,_,_,_=>by simp at h
 |_::_,[],_,h,_,_,_,_,_,_=>by simp at h
 |e::es,x::F,i,h,α,K,s,Q,E,hK=>by
  simp only[List.map_cons,List.cons.injEq,Prod.mk.injEq] at h
  obtain⟨⟨h1,h2⟩,h3⟩:=h
  simp only[Instr.findAsking,aa,h1,Op.equal]
  rw[show Op.maxDepth=10000 from rfl,he k x.1]
  simp only[sM] at hK
  by_cases hk:k=x.1
  ·rw[if_pos hk] at hK
   simp only[hk,decide_true,if_true,ae,h2]
   exact hK
  rw[if_neg hk] at hK
  simp only[hk,decide_false,Bool.false_eq_true,if_false]
  exact OL he k es F (i+1) h3 hK
theorem HH{T:TypeId}{k:IntKind}(tf:TF P T (.int k) sz bx z ag)(a:Int):CkD P (dep+1) T (.int k a):=by
 intro b α K s Q E
 simp only[Instr.checkKey,aa,aX tf,ae]
inductive BC(P:Program)(dep:Nat)(l:List Value):List Field→Prop
 |nil:BC P dep l []
 |cons {f:Field} {fs:List Field} {v:Value} (hn:f.name≠ "_") (hv:H6 P f.type l f.offset v) (he:CkD P dep f.type v) (ht:BC P dep l fs):BC P dep l (f::fs)
theorem Ri{T:TypeId}{fields:Array Field}(tf:TF P T (.struct fields) sz bx z true)(hf:BC P dep l fields.toList):CkD P (dep+1) T (.agg ⟨l⟩):=by
 intro b α K s Q E
 simp only[Instr.checkKey,aa,aX tf]
 rw[←Array.forIn_toList]
 generalize fields.toList=fl at hf
 clear tf
 induction hf with
 |nil=>simp only[List.forIn_nil,ae,aa]
 | @cons f fs v hn hv he ht ih=>
  simp only[List.forIn_cons,hn,ne_eq,not_false_eq_true,if_true,aa]
  rw[hv]
  simp only[aa]
  rw[he]
  simp only[ae]
  exact ih
theorem aee{T:TypeId}[DecidableEq κ]{kv:κ→Value}{d:TypeDesc}(tf:TF P T d sz bx z ag)(hl:∀k,∃l,kv k= .agg l)(hc:∀k,CkD P 10000 T (kv k))(he:∀a b,EqD P 10000 T (kv a) (kv b) (decide (a=b)))(hs:∀k,Instr.sameBits 10000 (kv k) (kv k)=true):RD P T kv where
 chk b k α K s Q E h:=by rw[hc k b];exact h
 find k es F hm α K s Q E h:=by
  simp only[Instr.findKey,aa,aX tf]
  cases es with
  |nil=>
   cases F with
   |nil=>exact h
   |cons x F=>simp at hm
  |cons e es=>
   have:Instr.findNow d (kv k) (e::es) 0=none:=by
    cases F with
    |nil=>simp at hm
    |cons x F=>
     simp only[List.map_cons,List.cons.injEq,Prod.mk.injEq] at hm
     obtain⟨l,CE⟩:=hl k
     obtain⟨l2,q5⟩:=hl x.1
     simp only[Instr.findNow,hm.1.1,CE,q5]
     cases d<;>rfl
   rw[this]
   exact OL he k _ F 0 hm h
 stay:=hs
def tJ(kv:κ→Value)(F:List (κ×Value))(es:Array MapEntry)(ck:Nat):Prop:=
 es.toList.map (fun e=>(e.key,e.val))=F.map (fun x=>(kv x.1,x.2))∧(es.toList.map (·.born)).Nodup∧∀e∈es.toList,e.born <ck
def kD(r:Nat)(kv:κ→Value)(F:List (κ×Value))(L:Cells):Prop:=∃es ck,L=[(r,.map es ck)]∧tJ kv F es ck
def aiO(s:St)(r:Nat)(kv:κ→Value)(F:List (κ×Value)):Prop:=∃es ck,s.has r (.map es ck)∧tJ kv F es ck
theorem kD.has{kv:κ→Value}{F:List (κ×Value)}{L:Cells}(h:kD r kv F L)(hs:∀x∈L,s.has x.1 x.2):aiO s r kv F:=by
 obtain⟨es,ck,rfl,hm⟩:=h
 exact⟨es,ck,hs _ List.mem_cons_self,hm⟩
theorem aiO.ext{kv:κ→Value}{F:List (κ×Value)}(h:aiO s r kv F)(hs:Ext s s'):aiO s' r kv F:=by
 obtain⟨es,ck,h1,h2⟩:=h
 exact⟨es,ck,hs _ _ h1,h2⟩
theorem kD.nil(r:Nat)(kv:κ→Value):kD r kv [] [(r,.map #[] 0)]:=⟨#[],0,rfl,rfl,List.nodup_nil,fun _ h=>(by cases h)⟩
section
variable {X:Cx} {o:Option JS}
def PX[DecidableEq κ](z:Value)(ok:Bool)(k:κ)(F:List (κ×Value)):Value:=match lkM k F with
 |some v=>bif ok then .tuple ⟨[v,.bool true]⟩ else v
 |none=>bif ok then .tuple ⟨[z,.bool false]⟩ else z
def luV(P:Program)(n:Nat)(p:Oper)(e:Env):Option (TypeId×Value×Value×Value×Bool):=match p.op with
 | .lookup T x y ok=>match aW P T with
  |some ⟨.map K E,_,_,_⟩=>match aW P E with
   |some te=>match bh n e x with
    |some m=>match bh n e y with
     |some k=>some (K,m,k,Oh te.zero te.agg,ok)
     |none=>none
    |none=>none
   |none=>none
  |_=>none
 |_=>none
theorem jlu[DecidableEq κ]{kv:κ→Value}{F:List (κ×Value)}{K:TypeId}(k:κ)(z:Value)(ok:Bool)(ps:List Nat)(B:Cells)(hk:RD X.P K kv)(hm:∀s:St,Ext ⟨X.ro,[]⟩ s→(∀x∈B,s.has x.1 x.2)→aiO s r kv F)(hj:J X (Mh B (PX z ok k F) o))
 (hv:dM X.n (luV X.P X.n) o=some (K,.map (some r),kv k,z,ok):=by kernel_rfl)(hB:ek ps o=some B:=by kernel_rfl):J X o:=by
 refine jGN hv hB (fun s p e ho hh hf=>?_) hj
 subst ho
 unfold luV at hf
 split at hf<;>try (cases hf;done)
 rename_i T x y ok' ay
 split at hf<;>try (cases hf;done)
 rename_i K' E' _ _ _ dZ
 split at hf<;>try (cases hf;done)
 rename_i te uw
 split at hf<;>try (cases hf;done)
 rename_i m hx
 split at hf<;>try (cases hf;done)
 rename_i k' hy
 simp only[Option.some.injEq,Prod.mk.injEq] at hf
 obtain⟨rfl,rfl,rfl,rfl,rfl⟩:=hf
 obtain⟨bx,tf⟩:=ar dZ
 obtain⟨Bt,q6⟩:=ar uw
 refine⟨by rw[ay];rfl,fun s0 GQ vx ops i ho rest hwt s' hs todo Q j8=>mz X.hC ho rest hwt (by rw[ay];rfl) ?_ hs j8⟩
 intro s1 cd f hf K2 E2 hK
 obtain⟨es,ck,jR,Ad⟩:=(hm s0 GQ vx).ext cd
 simp only[execOp,ay,hf _ _ hx,hf _ _ hy,Instr.lookup,aa,aX tf]
 refine cA jR rfl rfl ?_
 simp only[ae,aa]
 refine hk.chk _ _ ?_
 simp only[aa]
 refine hk.find k _ F Ad.1 ?_
 simp only[PX,lkM] at hK
 cases ya:sM k F 0 with
 |none=>
  rw[ya] at hK
  simp only[aa,kI q6,ae]
  cases ok'<;>exact hK
 |some u=>
  obtain⟨i,v⟩:=u
  rw[ya] at hK
  simp only[ae]
  cases ok'<;>exact hK
def aso(p:Oper):Option Unit:=match p.op with
 | .makeMap _ none=>some ()
 |_=>none
theorem jmk(kv:κ→Value)(hj:∀r L,kD r kv [] L→J X (nI [] (.map (some r)) L o))(hv:fG X.n (fun p _=>aso p) o=some ():=by kernel_rfl):J X o:=by
 obtain⟨ops,i,todo,k,e,w,kn,p,rfl,ho,hw,hc⟩:=dG hv
 intro bR
 unfold aso at hc
 split at hc<;>try (cases hc;done)
 rename_i T ay
 rcases p with ⟨dst,op,ty,pos,c8,g⟩
 dsimp only at ay;subst ay
 refine bN X.hC ho hw (by simp) ?_
 simp only[execOp,Instr.makeMap,Option.map_none,aa,oI,ae]
 intro b hb
 have:=hj b _ (kD.nil b kv)
 rw[oE ho] at this
 have:=this bR
 simp only[JP,gZ,xI] at this
 show ab _ _ _ _ _ _ _ _
 rw[aV]
 exact this
def muV(P:Program)(n:Nat)(p:Oper)(e:Env):Option (TypeId×Value×Value×Value):=match p.op with
 | .mapUpdate T x y z| .insert T x y z=>match aW P T with
  |some ⟨.map K _,_,_,_⟩=>match bh n e x with
   |some m=>match bh n e y with
    |some k=>match bh n e z with
     |some v=>some (K,m,k,v)
     |none=>none
    |none=>none
   |none=>none
  |_=>none
 |_=>none
theorem E7(k:κ)(v:Value):∀(F:List (κ×Value)) (i:Nat),tT k v F i=F.set i (k,v)
 | [],_=>rfl
 |_::_,0=>rfl
 |x::l,i+1=>by simp only[tT,E7 k v l i,List.set_cons_succ]
theorem GA{kv:κ→Value}{k:κ}{v:Value}:∀(es:List MapEntry) (F:List (κ×Value)) (i:Nat),es.map (fun e=>(e.key,e.val))=F.map (fun x=>(kv x.1,x.2))→(es.modify i fun e=>{e with key:=kv k,val:=v}).map (fun e=>(e.key,e.val))=(tT k v F i).map (fun x=>(kv x.1,x.2))
 | [],[],_,_=>by simp[tT]
 | [],_::_,_,h=>by simp at h
 |_::_,[],_,h=>by simp at h
 |e::es,x::F,0,h=>by
  simp only[List.map_cons,List.cons.injEq] at h
  simp[tT,h.2]
 |e::es,x::F,i+1,h=>by
  simp only[List.map_cons,List.cons.injEq] at h
  simp[tT,h.1,GA es F i h.2]
theorem xa{kx v:Value}:∀(es:List MapEntry) (i:Nat),(es.modify i fun e=>{e with key:=kx,val:=v}).map (·.born)=es.map (·.born)
 | [],i=>by simp
 |e::es,0=>by simp
 |e::es,i+1=>by simp[xa es i]
theorem jmu[DecidableEq κ]{kv:κ→Value}{F:List (κ×Value)}{K:TypeId}{L:Cells}(i:Nat)(k:κ)(v:Value)(hk:RD X.P K kv)(hm:kD r kv F L)(hj:∀L',kD r kv (mV k v F) L'→J X (nI [i] undef L' o))
 (hv:fG X.n (muV X.P X.n) o=some (K,.map (some r),kv k,v):=by kernel_rfl)(hB:ek [i] o=some L:=by kernel_rfl):J X o:=by
 obtain⟨ops,i0,todo,kk,e,w,kn,p,rfl,ho,hw,hc⟩:=dG hv
 intro bR
 rcases p with ⟨dst,op,ty,pos,c8,g⟩
 have main:∀T x y z,(op= .mapUpdate T x y z∨op= .insert T x y z)→muV X.P X.n ⟨dst,.mapUpdate T x y z,ty,pos,c8,g⟩ e=some (K,.map (some r),kv k,v)→ab X.C X.fn X.aA ops (i0::todo) (KQ X kk) (A X.n e X.D) ⟨X.ro,den w⟩:=by
  intro T x y z heq hc
  simp only[muV] at hc
  split at hc<;>try (cases hc;done)
  rename_i K' E' _ _ _ dZ
  split at hc<;>try (cases hc;done)
  rename_i m hx
  split at hc<;>try (cases hc;done)
  rename_i k' hy
  split at hc<;>try (cases hc;done)
  rename_i v' hz
  simp only[Option.some.injEq,Prod.mk.injEq] at hc
  obtain⟨rfl,rfl,rfl,rfl⟩:=hc
  obtain⟨bx,tf⟩:=ar dZ
  have hp:=bD hB
  obtain⟨es,ck,rfl,Ad⟩:=hm
  obtain⟨L1,R1,cd⟩:=List.append_of_mem (hp.mem_iff.2 (List.mem_append_left _ List.mem_cons_self))
  have hle:∀L',kD r kv (mV k v' F) [(r,L')]→ab X.C X.fn X.aA ops todo (KQ X kk) (A X.n (upd dst undef e) X.D) ⟨X.ro,L1++(r,L')::R1⟩:=by
   intro L' hL
   have:=hj _ hL
   rw[oE ho] at this
   have:=this bR
   simp only[JP,gZ] at this
   refine this.more X.hC (dY (J:=[]) ?_ (Sub.refl _))
   have hp':(den w).Perm ([(r,.map es ck)]++den (dK [i] 0 w)):=hp
   have aQv:den w=L1++(r,.map es ck)::R1:=cd
   rw[aQv] at hp'
   have RQ:=(List.perm_middle.symm.trans hp').cons_inv
   rw[List.append_nil]
   exact List.perm_middle.trans (List.Perm.cons _ RQ)
  have jR:(⟨X.ro,den w⟩:St).has r (.map es ck):= .inr (by show _∈den w;rw[show den w=_ from cd];exact fP)
  refine bN X.hC ho hw (by rcases heq with rfl|rfl<;>simp) ?_
  have hex:∀f:Operand→Value,execOp f ⟨dst,op,ty,pos,c8,g⟩=(do Instr.mapUpdate T (f x) (f y) (f z);pure .skip:Sem Next):=by
   intro f;rcases heq with rfl|rfl<;>simp only[execOp]
  rw[hex,aE hx,aE hy,aE hz]
  simp only[Instr.mapUpdate,aa,aX tf]
  refine cA jR rfl rfl ?_
  simp only[aa]
  refine hk.chk _ _ ?_
  simp only[aa]
  refine hk.find k _ F Ad.1 ?_
  have fin:∀ob,kD r kv (mV k v' F) [(r,ob)]→upon X.C X.P X.aA dst (A X.n e X.D) (fun a' s'=>ab X.C X.fn X.aA ops todo (KQ X kk) a' s') (KQ X kk) .skip ⟨X.ro,L1++(r,ob)::R1⟩:=by
   intro ob hL
   show ab _ _ _ _ _ _ _ _
   have:=hle ob hL
   rw[←aV] at this
   exact this
  cases ya:sM k F 0 with
  |some u=>
   obtain⟨j,u⟩:=u
   have RZ:=qO ya
   simp only[Nat.sub_zero] at RZ
   have aRv:((es[j]?).map (·.key)).getD (kv k)=kv k:=by
    have h1:(es.toList.map (fun e=>(e.key,e.val)))[j]?=some (kv k,u):=by rw[Ad.1];simp[RZ.2]
    simp only[List.getElem?_map,Array.getElem?_toList] at h1
    cases he:es[j]? with
    |none=>rfl
    |some e1=>rw[he] at h1;simp at h1;simp[h1.1]
   simp only[aa,Instr.keyThatStays,aRv,hk.stay,if_true,ae]
   refine eJ rfl cd rfl<|fin _ ⟨_,_,rfl,?_,?_,?_⟩
   ·simp only[Array.toList_modify,mV,ya]
    exact GA _ _ _ Ad.1
   ·simp only[Array.toList_modify,xa];exact Ad.2.1
   intro e1 h1
   have:e1.born∈((es.toList.modify j fun e=>{e with key:=kv k,val:=v'}).map (·.born)):=List.mem_map_of_mem (by simpa using h1)
   rw[xa] at this
   obtain⟨e2,h3,h4⟩:=List.mem_map.1 this
   rw[←h4];exact Ad.2.2 e2 h3
  |none=>
   refine eJ rfl cd rfl<|fin _ ⟨_,_,rfl,?_,?_,?_⟩
   ·simp only[Array.toList_push,List.map_append,mV,ya,Ad.1];rfl
   ·simp only[Array.toList_push,List.map_append,List.map_cons,List.map_nil]
    refine List.nodup_append.2 ⟨Ad.2.1,by simp,?_⟩
    intro a ha b hb
    obtain⟨e2,h3,rfl⟩:=List.mem_map.1 ha
    have:=Ad.2.2 e2 h3
    simp only[List.mem_singleton] at hb
    omega
   intro e1 h1
   simp only[Array.toList_push,List.mem_append,List.mem_singleton] at h1
   rcases h1 with h1|rfl
   ·have:=Ad.2.2 e1 h1;omega
   exact Nat.lt_succ_self _
 have hc2:=hc
 unfold muV at hc
 split at hc<;>try (cases hc;done)
 ·rename_i T x y z ay
  dsimp only at ay
  exact main T x y z (.inl ay) (by rw[←hc2,ay])
 rename_i T x y z ay
 dsimp only at ay
 refine main T x y z (.inr ay) ?_
 rw[←hc2,ay];rfl
end
attribute [irreducible] luV aso muV
section
variable {X:Cx} {o:Option JS}
def KX(P:Program)(n:Nat)(p:Oper)(e:Env):Option (FuncId×List Value):=match p.op with
 | .call ⟨.invoke x name,xs,_⟩=>match bh n e x with
  |some (.iface t v)=>match bn P (method (P.types.size+Made.depth) t v name) with
   |some (f,r)=>match yc n e xs.toList with
    |some vs=>bif BI P f then some (f,r::vs) else none
    |none=>none
   |none=>none
  |_=>none
 |_=>none
theorem aim(h:KX P n p e=some (f,vs)):FF P f∧∃x name xs at_ t v r ws,p.op= .call ⟨.invoke x name,xs,at_⟩∧bh n e x=some (.iface t v)∧bn P (method (P.types.size+Made.depth) t v name)=some (f,r)∧yc n e xs.toList=some ws∧vs=r::ws:=by
 unfold KX at h
 split at h<;>try (cases h;done)
 rename_i x name xs at_ ay
 split at h<;>try (cases h;done)
 rename_i t v hx
 split at h<;>try (cases h;done)
 rename_i f0 r hm
 split at h<;>try (cases h;done)
 rename_i ws sw
 cases hb:BI P f0 with
 |false=>rw[hb] at h;cases h
 |true=>
  rw[hb] at h
  simp only[cond_true,Option.some.injEq,Prod.mk.injEq] at h
  obtain⟨rfl,rfl⟩:=h
  exact⟨lN hb,x,name,xs,at_,t,v,r,ws,ay,hx,hm,sw,rfl⟩
theorem jpI{V:Value}(hf:∀aB,Sub X.ro aB→dO X.P f vs aB V)(hj:J X (Mh [] V o))(h1:dM X.n (KX X.P X.n) o=some (f,vs):=by kernel_rfl)(h3:ek [] o=some []:=by kernel_rfl):J X o:=by
 refine jGN h1 h3 (fun s p e ho hh hc=>?_) hj
 obtain⟨ff,x,name,xs,at_,t,v,r,ws,ay,hx,hm,sw,rfl⟩:=aim hc
 rcases p with ⟨dst,op,ty,pos,c8,g⟩
 dsimp only at ay;subst ay
 refine⟨rfl,fun s0 GQ vx ops i tw rest hw s' hs todo Q hk=>?_⟩
 refine bN X.hC tw hw (by simp) ?_
 have e1:=aE (aZ (rest:=rest) hx)
 have e2:xs.map (ev X.n (e++rest))=⟨ws⟩:=sG (xG sw)
 simp only[execOp,resolve,e1,e2,ae]
 have hex:((#[Value.iface t v]++(⟨ws⟩:Array Value)).extract 1 (#[Value.iface t v]++(⟨ws⟩:Array Value)).size)=⟨ws⟩:=by simp
 have h0:(#[Value.iface t v]++(⟨ws⟩:Array Value))[0]?=some (.iface t v):=by simp
 simp only[invoke,h0,hex,callMethod,aa,e9]
 refine aU hm ?_
 have nt:(#[r]++⟨ws⟩:Array Value)=⟨r::ws⟩:=by simp
 rw[nt]
 refine kJ ff ?_
 have hu:=(dO.use (s:=⟨X.ro,[]⟩) (sz:=s') (fun b o hb=>hs _ _ (GQ _ _ hb)) (fun aB h1=>hf aB fun b ob hb=>h1 b ob (.inl hb))).weaken X.hC
 refine Fn.mono hu fun en s1 DI=>?_
 obtain⟨rfl,hle⟩:=DI
 show ab _ _ _ _ _ _ _ _
 rw[aV]
 exact hk.more X.hC hle
theorem jS{f:Oper→Env→Option β}{r:β}(ps:List Nat)(B:Cells)(hv:fG X.n f o=some r)(hB:ek ps o=some B)
 (hy:∀p e,f p e=some r→(∀c,p.op≠ .defer c)∧∀(R:Cells) (Q:Next→St→Prop) (E:Halt→St→Prop),(∀v L',Φ v L'→Q (.value v) ⟨X.ro,L'++R⟩)→bL X.P (execOp (ev X.n e) p) ⟨X.ro,B++R⟩ Q E)
 (hj:∀v L',Φ v L'→J X (nI ps v L' o)):J X o:=by
 obtain⟨ops,i,todo,k,e,w,kn,p,rfl,ho,hw,hc⟩:=dG hv
 intro bR
 have hp:=bD hB
 obtain⟨hd,ht⟩:=hy p e hc
 have:ab X.C X.fn X.aA ops (i::todo) (KQ X k) (A X.n e X.D) ⟨X.ro,B++den (dK ps 0 w)⟩:=by
  refine bN X.hC ho hw hd<|ht _ _ _ fun v L' qE=>?_
  have:=hj v L' qE
  rw[oE ho] at this
  have:=this bR
  simp only[JP,gZ] at this
  show ab _ _ _ _ _ _ _ _
  rw[aV]
  exact this
 have hle:(⟨X.ro,B++den (dK ps 0 w)⟩:St).le ⟨X.ro,den w⟩:=⟨[],by rw[List.append_nil];exact hp,fun b o hb=> .inl hb⟩
 exact this.more X.hC hle
end
attribute [irreducible] KX
section
variable {X:Cx} {o:Option JS}
def iaA(P:Program)(n:Nat)(p:Oper)(e:Env):Option (Nat×Nat×Int×Nat×Nat):=match p.op with
 | .indexAddr T x y=>match aW P T with
  |some ⟨.array len E,_,_,_⟩=>match aW P E with
   |some te=>match bh n e x with
    |some (.pointer (some ⟨b,off,none⟩))=>match bh n e y with
     |some (.int _ ix)=>some (b,off,ix,len,te.size)
     |_=>none
    |_=>none
   |none=>none
  |_=>none
 |_=>none
theorem Ig{len:Nat}(ix:Int)(hi:0≤ix∧ix <len)(hj:J X (kM (.pointer (some ⟨b,off+ix.toNat*sz,none⟩)) o))(hv:dM X.n (iaA X.P X.n) o=some (b,off,ix,len,sz):=by kernel_rfl):J X o:=by
 refine jG hv (fun s p e ho hh hf=>?_) hj
 unfold iaA at hf
 split at hf<;>try (cases hf;done)
 rename_i T x y ay
 split at hf<;>try (cases hf;done)
 rename_i aA9 E _ _ _ dZ
 split at hf<;>try (cases hf;done)
 rename_i te uw
 split at hf<;>try (cases hf;done)
 rename_i b' ar8 hx
 split at hf<;>try (cases hf;done)
 rename_i ik ix' hy
 simp only[Option.some.injEq,Prod.mk.injEq] at hf
 obtain⟨rfl,rfl,rfl,rfl,rfl⟩:=hf
 obtain⟨bx,tf⟩:=ar dZ
 obtain⟨Bt,q6⟩:=ar uw
 have key:∀s,Yields X.P X.n e p s (.pointer (some ⟨b',ar8+ix'.toNat*te.size,none⟩)):=by
  intro s s' nG f hf K E hK
  simp only[execOp,ay,Instr.indexAt,Instr.sureAddr,hf _ _ hx,hf _ _ hy,asIntOf,aa,ae,aX tf,hi,and_self,if_true,cg q6,dX]
  exact hK
 exact⟨by rw[ay];rfl,fun _=>key _,fun _=>key⟩
def saV(P:Program)(n:Nat)(p:Oper)(e:Env):Option (Nat×Nat×Int×Nat):=match p.op with
 | .slice T x none (some z) none=>match aW P T with
  |some ⟨.array len E,_,_,_⟩=>match aW P E with
   |some _=>match bh n e x with
    |some (.pointer (some ⟨b,off,none⟩))=>match bh n e z with
     |some (.int _ ix)=>some (b,off,ix,len)
     |_=>none
    |_=>none
   |none=>none
  |_=>none
 |_=>none
theorem jah{len:Nat}(hi:Int)(hl:0≤hi∧hi≤len)(hj:J X (kM (.slice (some ⟨b,off,none⟩) hi.toNat len) o))(hv:dM X.n (saV X.P X.n) o=some (b,off,hi,len):=by kernel_rfl):J X o:=by
 refine jG hv (fun s p e ho hh hf=>?_) hj
 unfold saV at hf
 split at hf<;>try (cases hf;done)
 rename_i T x z ay
 split at hf<;>try (cases hf;done)
 rename_i aA9 E _ _ _ dZ
 split at hf<;>try (cases hf;done)
 rename_i te uw
 split at hf<;>try (cases hf;done)
 rename_i b' ar8 hx
 split at hf<;>try (cases hf;done)
 rename_i ik ix' hy
 simp only[Option.some.injEq,Prod.mk.injEq] at hf
 obtain⟨rfl,rfl,rfl,rfl⟩:=hf
 obtain⟨bx,tf⟩:=ar dZ
 obtain⟨Bt,q6⟩:=ar uw
 have key:∀s,Yields X.P X.n e p s (.slice (some ⟨b',ar8,none⟩) ix'.toNat aA9):=by
  intro s s' nG f hf K E hK
  simp only[execOp,ay,Option.map_some,Option.map_none,Instr.sliceAt,Instr.sliceBounds,Instr.sliceBound,Instr.sureAddr,hf _ _ hx,hf _ _ hy,asIntOf,aa,ae,aX tf,Option.isSome_none,Bool.false_eq_true,if_false,hl,and_self,if_true,cg q6,Nat.zero_mul,dX,Nat.add_zero,ite_self,Nat.sub_zero]
  exact hK
 exact⟨by rw[ay];rfl,fun _=>key _,fun _=>key⟩
end
theorem qu{v:Value}(h:s.has b (.cells ⟨l⟩ t fz))(hv:nth l off=some v):cv s b off 1 [v]:=
 ⟨_,_,_,h,by rw[sq] at hv;simp[jo (show off+1≤l.length by have:=(List.getElem?_eq_some_iff.1 hv).1;omega),List.drop_eq_getElem_cons (List.getElem?_eq_some_iff.1 hv).1,(List.getElem?_eq_some_iff.1 hv).2]⟩
theorem acJ{o m:Nat}{v:Value}(h:cv s b o m l)(hv:nth l off=some v):cv s b (o+off) 1 [v]:=
 h.part off 1 (by rw[sq] at hv;simp[jo (show off+1≤l.length by have:=(List.getElem?_eq_some_iff.1 hv).1;omega),List.drop_eq_getElem_cons (List.getElem?_eq_some_iff.1 hv).1,(List.getElem?_eq_some_iff.1 hv).2])
open Go.ConcR (KK wgBlock WgAt stA smA rd wr)
def TT(T:Goroutine→St→Prop)(b:Frame)(Aa:List Item)(cs:List Frame)(n:Nat)(D:List Deferred)(ro:Nat→Option Obj)(o:Option JS):Prop:=
 ∀e w kn,o=some ⟨.fin .normal,e,w,kn⟩→Knows ro kn.c→T (G (aK b (A n e D) Aa) cs) ⟨ro,den w⟩
def CT(hm:P.follows .mixedOrders=true)(hT:Closed P main T)(b:Frame)(Aa:List Item)(cs:List Frame)(n:Nat)(D:List Deferred)(ro:Nat→Option Obj):Cx:=
 ⟨P,fun m T'=>m=main∧T'=T,by rintro _ _ ⟨rfl,rfl⟩;exact hT,hm,b.fn,none,n,D,ro,kp T b Aa cs⟩
def UN:Option JS→Bool
 |some ⟨.fin .normal,_,_,_⟩=>true
 |_=>false
def opO(ops:Array Oper)(todo:List Nat):Option JS→Option JS
 |some ⟨.fin .normal,e,w,kn⟩=>some ⟨.ops ops todo [],e,w,⟨kn.c,[]⟩⟩
 |_=>none
def cdO(c:Code):Option JS→Option JS
 |some ⟨.fin .normal,e,w,kn⟩=>some ⟨.code c [],e,w,⟨kn.c,[]⟩⟩
 |_=>none
def stO(dst:Option Tmp)(v:Value):Option JS→Option JS
 |some ⟨p,e,w,kn⟩=>some ⟨p,upd dst v e,w,kn⟩
 |none=>none
def nwO(dst:Option Tmp)(v:Value)(q:Nat)(ob:Obj):Option JS→Option JS
 |some ⟨p,e,w,kn⟩=>some ⟨p,upd dst v e,.b q ob::w,kn⟩
 |none=>none
def adO(L:Cells):Option JS→Option JS
 |some ⟨p,e,w,kn⟩=>some ⟨p,e,.l L::w,kn⟩
 |none=>none
def evO(n:Nat)(x:Operand):Option JS→Option Value
 |some ⟨_,e,_,_⟩=>bh n e x
 |none=>none
def aUM(n:Nat)(xs:List Operand):Option JS→Option (List Value)
 |some ⟨_,e,_,_⟩=>yc n e xs
 |none=>none
def vaO(P:Program)(n:Nat)(a:Oper):Option JS→Option Value
 |some ⟨_,e,_,_⟩=>abK P n e a
 |none=>none
theorem aam(h:UN o=true):∃e w kn,o=some ⟨.fin .normal,e,w,kn⟩:=by
 unfold UN at h
 split at h
 ·exact⟨_,_,_,rfl⟩
 cases h
def fr0(f:FuncId)(k:CallKind):Frame:={(default:Frame) with fn:=f,kind:=k,roundOf:=none}
section
variable {P:Program} {main:Bool} {T:Goroutine→St→Prop} {b:Frame} {Aa:List Item} {cs:List Frame} {n:Nat} {D:List Deferred} {ro:Nat→Option Obj} {o:Option JS} {ops:Array Oper}
theorem ab8(h:TT T b Aa cs n D ro o)(hQ:X.Q=kp T b Aa cs)(hn:X.n=n)(hD:X.D=D)(AY:X.ro=ro)(h1:UN o=true):J X o:=by
 subst hn hD AY
 obtain⟨e,w,kn,rfl⟩:=aam h1
 intro bR
 show X.Q .normal _ _
 rw[hQ]
 exact h _ _ _ rfl bR
theorem xV{hm:P.follows .mixedOrders=true}{hT:Closed P main T}(h:TT T b Aa cs n D ro o)(h1:UN o=true:=by kernel_rfl):J (CT hm hT b Aa cs n D ro) o:=ab8 h rfl rfl rfl rfl h1
theorem azn{hm:P.follows .mixedOrders=true}{hT:Closed P main T}(h:TT T b Aa cs n D ro o)(h1:UN o=true:=by kernel_rfl):J ((CT hm hT b Aa cs n D pS).at ro) o:=ab8 h rfl rfl rfl rfl h1
theorem azm{hm:P.follows .mixedOrders=true}{hT:Closed P main T}(h:TT T b Aa cs n (eG bd::D) ro o)(h1:UN o=true:=by kernel_rfl):J ((CT hm hT b Aa cs n D ro).dm bd) o:=ab8 h rfl rfl rfl rfl h1
theorem vZ(hm:P.follows .mixedOrders=true)(hT:Closed P main T)(hj:J (CT hm hT b Aa cs n D ro) (opO ops todo o))(hk:b.kind≠ .early:=by decide)(hr:b.roundOf=none:=by rfl):TT T b (.inRegion ops todo::Aa) cs n D ro o:=by
 rintro e w kn rfl bR
 exact hj bR main T ⟨rfl,rfl⟩ b Aa cs rfl hk hr fun e a s q=>q
theorem azo(hm:P.follows .mixedOrders=true)(hT:Closed P main T){c:Code}(hj:J (CT hm hT b Aa cs n D ro) (cdO c o))(hk:b.kind≠ .early:=by decide)(hr:b.roundOf=none:=by rfl):TT T b (.code c::Aa) cs n D ro o:=by
 rintro e w kn rfl bR
 exact hj bR main T ⟨rfl,rfl⟩ b Aa cs rfl hk hr fun e a s q=>q
theorem tSt(hT:Closed P main T)(ef:Env)(wf:List Sg)(ps:List Nat)(h:∀rest,TT T b Aa cs n D ro (some ⟨.fin .normal,ef++rest,wf,⟨[],[]⟩⟩))(h1:uX (pO ef) o=some ef:=by kernel_rfl)(h2:rz ps o=some wf:=by kernel_rfl)(h3:lkE (pO ef) ef=some ef:=by kernel_rfl):TT T b Aa cs n D ro o:=by
 rintro e w kn rfl bR
 obtain⟨rest,he⟩:=gH (n:=n) (D:=D) (k8 (by rw[tq] at h1;exact h1)) (k8 h3)
 rw[he]
 exact hT.mono _ ⟨ro,den wf⟩ _ (dY (my h2) (Sub.refl _)) (h rest _ _ _ rfl fun _ h=>(by cases h))
section
variable {k:List Item} {rest l:List Code} (hT:Closed P main T)
include hT
theorem qo(hl:ir l= .region id ops false::rest)(h:∀l',ir l'=rest→TT T b (.inRegion ops (List.range ops.size)::(l'.map .code++k)) cs n D ro o):TT T b (l.map .code++k) cs n D ro o:=
 fun e w kn ho bR=>dQ hT hl fun l' zc=>h l' zc e w kn ho bR
theorem VU{c:Operand}{x y:Code}{t q:Bool}(hl:ir l= .cond c x y::rest)(hq:q=t)(h:∀l',ir l'=rest→TT T b (.code (if t then x else y)::(l'.map .code++k)) cs n D ro o)(hc:evO n c o=some (.bool q):=by kernel_rfl):TT T b (l.map .code++k) cs n D ro o:=by
 subst hq
 rintro e w kn rfl bR
 exact AN hT hl (by rw[eI];exact aE hc) fun l' zc=>h l' zc e w kn rfl bR
theorem Lr{c:Code}(hl:ir l= .block id c::rest)(h:∀l',ir l'=rest→TT T b ([c].map .code++(.inBlock id::(l'.map .code++k))) cs n D ro o):TT T b (l.map .code++k) cs n D ro o:=
 fun e w kn ho bR=>wx hT hl fun l' zc=>h l' zc e w kn ho bR
theorem aoo{c:Code}(hl:ir l= .loop c::rest)(h:∀l',ir l'=rest→TT T b ([c].map .code++(.inLoop c::(l'.map .code++k))) cs n D ro o):TT T b (l.map .code++k) cs n D ro o:=
 fun e w kn ho bR=>Mo hT hl fun l' zc=>h l' zc e w kn ho bR
theorem aop{c:Code}(hl:ir l=c::rest)(h:∀l',ir l'=rest→TT T b (.code c::(l'.map .code++k)) cs n D ro o):TT T b (l.map .code++k) cs n D ro o:=
 fun e w kn ho bR=>oe hT hl fun l' zc=>h l' zc e w kn ho bR
theorem aom(h:TT T b k cs n D ro o):TT T b (.code .skip::k) cs n D ro o:=fun e w kn ho bR=>Nr hT (h e w kn ho bR)
theorem aoq{k':List Item}(hk:exitTo id k=some k')(h:TT T b k' cs n D ro o):TT T b (.code (.exit id)::k) cs n D ro o:=fun e w kn ho bR=>Ns hT hk (h e w kn ho bR)
theorem aor(h:TT T b k cs n D ro o):TT T b (.inBlock id::k) cs n D ro o:=fun e w kn ho bR=>C1 hT (h e w kn ho bR)
theorem VT(h:TT T b k cs n D ro o):TT T b (.inRegion ops []::k) cs n D ro o:=fun e w kn ho bR=>iK hT (h e w kn ho bR)
theorem ab9{c:Code}(h:TT T b ([c].map .code++(.inLoop c::k)) cs n D ro o):TT T b (.inLoop c::k) cs n D ro o:=fun e w kn ho bR=>zw hT (h e w kn ho bR)
theorem azi{a:Oper}{f:Nat→Value}{ob:Obj}(ho:ops[i]?=some a) (hg:a.guard=none) (tx:∀e q,Tk P (execOp (ev n e) a) q=some (ob,f q)) (hk:b.kind≠ .early) (hr:b.roundOf=none)
 (h:∀q,TT T b (.inRegion ops todo::k) cs n D ro (nwO a.dst (f q) q ob o)):TT T b (.inRegion ops (i::todo)::k) cs n D ro o:=by
 rintro e w kn rfl bR
 refine th hT ho (dF _ _ hg) hk hr ?_
 rw[eI]
 refine Gv (f:=f) (fun q _=>⟨_,rfl,?_⟩) _ (tx e)
 rw[aV]
 have:=h q _ _ _ rfl bR
 rw[iX] at this
 exact this
theorem azf{a:Oper}(v:Value)(ho:ops[i]?=some a) (hg:a.guard=none) (hk:b.kind≠ .early) (hr:b.roundOf=none) (h:TT T b (.inRegion ops todo::k) cs n D ro (stO a.dst v o)) (hv:vaO P n a o=some v:=by kernel_rfl):TT T b (.inRegion ops (i::todo)::k) cs n D ro o:=by
 rintro e w kn rfl bR
 refine th hT ho (dF _ _ hg) hk hr ?_
 rw[eI]
 refine Ar hv _ (Ext.refl _) _ (fun _ _ h=>aE h) _ _ ⟨v,rfl,?_⟩
 rw[aV]
 exact h _ _ _ rfl bR
theorem tLd{a:Oper}(v:Value)(ho:ops[i]?=some a) (hg:a.guard=none) (ay:a.op= .load U x) (ht:(aW P U).map (·.agg)=some false) (hk:b.kind≠ .early) (hr:b.roundOf=none) (hb:∀e w kn,o=some ⟨.fin .normal,e,w,kn⟩→(⟨ro,den w⟩:St).has q (.cells ⟨[v]⟩ t fz))
 (h:TT T b (.inRegion ops todo::k) cs n D ro (stO a.dst v o)) (hx:evO n x o=some (.pointer (some ⟨q,0,none⟩)):=by kernel_rfl):TT T b (.inRegion ops (i::todo)::k) cs n D ro o:=by
 rintro e w kn rfl bR
 refine th hT ho (dF _ _ hg) hk hr ?_
 rw[eI]
 cases dZ:aW P U with
 |none=>rw[dZ] at ht;cases ht
 |some z=>
 rw[dZ] at ht
 simp only[Option.map_some,Option.some.injEq] at ht
 obtain⟨bx,tf⟩:=ar dZ
 rw[ht] at tf
 simp only[execOp,ay,Instr.loadAt,aE hx,Instr.sureAddr,loadVar,aa,ae,kU tf,Bool.false_eq_true,if_false]
 refine vY ⟨[v],t,fz,hb _ _ _ rfl,rfl⟩ ⟨v,rfl,?_⟩
 rw[aV]
 exact h _ _ _ rfl bR
theorem aNm{a:Oper}(v:Value)(ho:ops[i]?=some a) (hg:a.guard=none) (ay:a.op= .load U x) (ht:(aW P U).map (·.agg)=some false) (hk:b.kind≠ .early) (hr:b.roundOf=none) (ps:List Nat) (t:TypeId)
 (h:TT T b (.inRegion ops todo::k) cs n D ro (stO a.dst v o)) (hx:evO n x o=some (.pointer (some ⟨q,0,none⟩)):=by kernel_rfl) (hd:ek ps o=some [(q,.cells ⟨[v]⟩ t (0,0))]:=by kernel_rfl):TT T b (.inRegion ops (i::todo)::k) cs n D ro o:=
 tLd hT v ho hg ay ht hk hr (fz:=(0,0)) (t:=t) (q:=q) (fun e w kn he=>by
  subst he
  exact .inr ((bD hd).mem_iff.2 (List.mem_append_left _ (List.mem_singleton.2 rfl)))) h hx
end
theorem aq4(hT:Closed P main T){a:Oper}{xs:Array Operand}(ho:ops[i]?=some a) (hg:a.guard=none) (ay:a.op= .defer ⟨.value (.func f),xs,ats⟩) (hk:b.kind≠ .early) (hr:b.roundOf=none)
 (h:TT T b k cs n ({target:= .fn (.func f) ⟨[]⟩,args:=⟨vs⟩}::D) ro (stO a.dst undef o)) (hx:aUM n xs.toList o=some vs:=by kernel_rfl):TT T b (.inRegion ops [i]::k) cs n D ro o:=by
 rintro e w kn rfl bR
 have hC:∀m T',(fun m T'=>m=main∧T'=T:Class) m T'→Closed P m T':=by rintro _ _ ⟨rfl,rfl⟩;exact hT
 have key:ab (fun m T'=>m=main∧T'=T) b.fn none ops [i] (kp T b k cs) (A n e D) ⟨ro,den w⟩:=by
  refine Mn (P:=P) hC ho (dF _ _ hg) (.inl rfl) ?_
  rw[eI]
  have e1:ev n e (.func f)= .func (.func f) #[] #[]:=rfl
  have e2:xs.map (ev n e)=⟨vs⟩:=sG hx
  simp only[execOp,ay,resolve,e1,Deferred.ofValue,ae,e2]
  refine⟨rfl,?_⟩
  have hA:({A n e D with defers:={target:= .fn (.func f) ⟨[]⟩,args:=⟨vs⟩}::(A n e D).defers}:Act).put a.dst undef=A n (upd a.dst undef e) ({target:= .fn (.func f) ⟨[]⟩,args:=⟨vs⟩}::D):=by
   rw[←aV];rfl
  have he:(⟨[]⟩:Array Value)++(⟨vs⟩:Array Value)=⟨vs⟩:=by simp
  rw[he]
  have:=h _ _ _ rfl bR
  rw[←hA] at this
  exact fun m T' hc b' k' Iw h1 h2 h3 h4=>by
   obtain⟨rfl,rfl⟩:=hc
   exact iK hT (h4 .normal _ _ this)
 exact key main T ⟨rfl,rfl⟩ b k cs rfl hk hr fun e a s q=>q
end
attribute [irreducible] UN opO cdO
structure aiK(L:Nat→Option Obj)(X:Cells)(ro aF:Nat→Option Obj):Prop where
 of:∀q o,L q=some o→(q,o)∈X
 on:∀q o,(q,o)∈X→L q=some o
 sub:Sub ro aF
 kn:Knows aF X
 nd:(X.map (·.1)).Nodup
 ap:∀q o,(q,o)∈X→ro q=none
def bkO(L:Cells):Option JS→Option JS
 |some ⟨p,e,w,_⟩=>some ⟨p,e,.l L::w,⟨[],[]⟩⟩
 |none=>none
def SN(ps:List Nat):Option JS→Option Cells
 |some ⟨_,_,w,_⟩=>some (den (dK ps 0 w))
 |none=>none
def WN:Option JS→Option JS
 |some ⟨p,e,_,kn⟩=>some ⟨p,e,[],⟨kn.c,[]⟩⟩
 |none=>none
theorem C5:∀(w:List Sg) (k:Nat),dK [] k w=w
 | [],_=>rfl
 |x::w,k=>by
  simp only[dK,aY]
  rw[C5 w]
  rfl
theorem aiK.back{L:Nat→Option Obj}{X:Cells}{ro roK:Nat→Option Obj}{rwK:Cells}(h:aiK L X ro aF)(hs:Sub aF roK):
 (∀w,aQ ⟨roK,rwK⟩ w→(∀b o,L b=some o→w.heap[b]?=some o)→aQ ⟨ro,X++rwK⟩ w)∧∀b,(⟨ro,X++rwK⟩:St).knows b→L b≠none∨(⟨roK,rwK⟩:St).knows b:=by
 refine⟨fun w hw hL=>⟨fun q o hq=>hw.ro q o (hs _ _ (h.sub _ _ hq)),fun q o hq=>?_,?_,fun q o hq=>?_⟩,fun q hq=>?_⟩
 ·rcases List.mem_append.1 hq with hq|hq
  ·exact hL q o (h.on q o hq)
  exact hw.rw q o hq
 ·show ((X++rwK).map (·.1)).Nodup
  rw[List.map_append,List.nodup_append]
  refine⟨h.nd,hw.nodup,fun q hq q' Ii e=>?_⟩
  subst e
  obtain⟨⟨q1,o1⟩,h1,rfl⟩:=List.mem_map.1 hq
  obtain⟨⟨q2,o2⟩,h2,e2⟩:=List.mem_map.1 Ii
  simp only at e2
  subst e2
  have h3:=hs _ _ (h.kn _ h1)
  have h4:=hw.apart _ _ h2
  dsimp only at h3 h4
  rw[h4] at h3
  cases h3
 ·show ro q=none
  rcases List.mem_append.1 hq with hq|hq
  ·exact h.ap q o hq
  have h2:roK q=none:=hw.apart q o hq
  cases hr:ro q with
  |none=>rfl
  |some o'=>rw[hs _ _ (h.sub _ _ hr)] at h2;cases h2
 rcases hq with hq| ⟨o,hq⟩
 ·have hq:ro q≠none:=hq
  cases hr:ro q with
  |none=>exact absurd hr hq
  |some o'=>exact .inr (.inl (by show roK q≠none;rw[hs _ _ (h.sub _ _ hr)];simp))
 rcases List.mem_append.1 hq with h'|h'
 ·exact .inl (by rw[h.on q o h'];simp)
 exact .inr (.inr ⟨o,h'⟩)
section
variable {ι:Type} {E:ee ι} {Q:Machine→Outcome→World→Trace→Prop} {b:Frame} {Aa:List Item} {cs:List Frame} {n:Nat} {D:List Deferred} {ro:Nat→Option Obj} {o:Option JS} {ops:Array Oper} {L:Nat→Option Obj}
theorem aq3{tm:Bool}(iw ic:Nat)(X:Cells)(iZ:Closed E.P true (TL E.P eR (fun _=>none) (Calm E.os E.out) Q))
 (h:∀L aF,aiK L X ro aF→E.Wg≠E.Ch→L E.Ch=none→TT (TM E L Q 0 false [] 0) b Aa cs n D aF (WN o))
 (hW:ek [iw,ic] o=some [(E.Wg,wgBlock E.ty 0 0),(E.Ch,.chan 0 #[] false 0 0 tm)]:=by kernel_rfl)(hX:SN [iw,ic] o=some X:=by kernel_rfl):TT (TL E.P eR (fun _=>none) (Calm E.os E.out) Q) b Aa cs n D ro o:=by
 rintro e w kn rfl bR
 refine Closed.ki iZ rfl fun⟨w0,Xd⟩=>?_
 have hp:=bD hW
 simp only[SN,Option.some.injEq] at hX
 have RQ:=hp
 dsimp only at RQ
 rw[hX] at RQ
 have hm:∀x,x∈den w↔x=(E.Wg,wgBlock E.ty 0 0)∨x=(E.Ch,.chan 0 #[] false 0 0 tm)∨x∈X:=fun x=>by
  rw[RQ.mem_iff]
  simp
 have mN:=(RQ.map (·.1)).nodup_iff.1 Xd.nodup
 simp only[List.cons_append,List.nil_append,List.map_cons,List.nodup_cons,List.mem_cons,not_or] at mN
 obtain⟨⟨eB,hW1⟩,hC1,Qm⟩:=mN
 have Af:∀x∈X,x∈den w:=fun x hx=>(hm x).2 (.inr (.inr hx))
 have aDH:(E.Wg,wgBlock E.ty 0 0)∈den w:=(hm _).2 (.inl rfl)
 have agK:(E.Ch,Obj.chan 0 #[] false 0 0 tm)∈den w:=(hm _).2 (.inr (.inl rfl))
 have MO:∀y∈X,y.1≠E.Wg∧y.1≠E.Ch:=fun y hy=>⟨fun e=>hW1 (e▸List.mem_map.2 ⟨_,hy,rfl⟩),fun e=>hC1 (e▸List.mem_map.2 ⟨_,hy,rfl⟩)⟩
 let L:Nat→Option Obj:=fun q=>(X.find? fun y=>y.1==q).map (·.2)
 have Um:∀q o,L q=some o→(q,o)∈X:=fun q o hq=>by
  obtain⟨y,hy,rfl⟩:=Option.map_eq_some_iff.1 hq
  obtain⟨h1,h2⟩:=oV hy
  subst h2
  exact h1
 have aTs:∀q o,(q,o)∈X→L q=some o:=fun q o hq=>by
  show (X.find? fun y=>y.1==q).map (·.2)=some o
  rw[wQ Qm hq];rfl
 have Un:L E.Ch=none:=by
  cases hq:L E.Ch with
  |none=>rfl
  |some o=>exact absurd rfl (MO _ (Um _ _ hq)).2
 have nt:∀q o,(q,o)∈X→ro q=none:=fun q o hq=>Xd.apart q o (Af _ hq)
 have fT:Sub ro (St.freeze ⟨ro,X⟩).ro:=fun q o hq=>St.n9 (s:=⟨ro,X⟩) hq fun q o hq=>nt q o hq
 have afH:∀q,(∃o,(q,o)∈den w)→(q=E.Wg∨q=E.Ch)→¬(St.freeze ⟨ro,X⟩).knows q:=by
  rintro q ⟨o,ho⟩ hq (hk| ⟨o',Fi⟩)
  ·simp only[St.freeze] at hk
   split at hk
   ·rename_i y hy
    obtain⟨h1,h2⟩:=oV hy
    have:=MO _ h1
    rcases hq with e|e
    ·exact this.1 (h2.trans e)
    exact this.2 (h2.trans e)
   exact hk (Xd.apart q o ho)
  cases Fi
 have aCN:aiK L X ro (St.freeze ⟨ro,X⟩).ro:=⟨Um,aTs,fT,fun x hx=>St.tB (s:=⟨ro,X⟩) (by rcases x with ⟨q,o⟩;exact hx) Qm,Qm,nt⟩
 refine OE (E:=E) (L:=L) (s':=St.freeze ⟨ro,X⟩) rfl eB aDH ⟨tm,agK⟩ ?_ (afH _ ⟨_,aDH⟩ (.inl rfl)) (afH _ ⟨_,agK⟩ (.inr rfl)) (fun q ⟨o,ho⟩=>by cases ho) (fun q o hq=>⟨.inr (Af _ (Um _ _ hq)),MO _ (Um _ _ hq)⟩) ?_
 ·refine⟨den w,by simp[St.freeze],fun q o hq=>?_⟩
  simp only[St.freeze] at hq
  split at hq
  ·rename_i y hy
   obtain⟨h1,h2⟩:=oV hy
   cases hq
   subst h2
   exact .inr (Af _ h1)
  exact .inl hq
 exact(h L _ aCN eB Un _ _ _ rfl (bR.up fT)).1
theorem aNp{os:List ι}{a:Oper}{bs:List Nat}(h:TT (TM E L Q 1 false os 0) b k cs n D ro (stO a.dst (.tuple #[]) o))(ho:ops[0]?=some a) (hg:a.guard=none) (ay:a.op= .call ⟨.value (.func f),#[x,.const (.int .i64 1)],ats⟩) (hf:FF E.P f) (hk:b.kind≠ .early) (hr:b.roundOf=none) (I5:os.length <E.max)
 (agd:HL E.P E.ty os.length (Frame.enter E.P f #[.pointer (some ⟨E.Wg,0,none⟩),.int .i64 1] .normal)=some bs) (hbs:∀b∈bs,b=E.Wg) (hx:evO n x o=some (.pointer (some ⟨E.Wg,0,none⟩)):=by kernel_rfl):TT (TM E L Q 0 false os 0) b (.inRegion ops [0]::k) cs n D ro o:=by
 rintro e w kn rfl bR
 have hT:Closed E.P true (TM E L Q 0 false os 0):=fK (E:=E) false os (fun e=>(by cases e))
 have Ul:Closed E.P true (TM E L Q 1 false os 0):=fK (E:=E) false os (fun e=>(by cases e))
 refine Pu (rest:=[]) hT ho hg hk hr ay hf ?_
 have nM:(#[x,.const (.int .i64 1)]:Array Operand).map (A n e D).eval= #[.pointer (some ⟨E.Wg,0,none⟩),.int .i64 1]:=by
  rw[eI]
  simp only[List.map_toArray,List.map_cons,List.map_nil,aE hx]
  rfl
 rw[nM]
 refine⟨KW (E:=E) agd hbs I5 ?_,fun e=>(by cases e)⟩
 rw[fZ,ho]
 simp only[Option.bind_some]
 rw[aV]
 exact(iK Ul (h _ _ _ rfl bR)).1
theorem tGo{os:List ι}(oo:ι){a:Oper}(L1:Cells)(ho:ops[i]?=some a) (hg:a.guard=none) (ay:a.op= .go ⟨.value y,#[],ats⟩) (hk:b.kind≠ .early) (hr:b.roundOf=none)
 (h:∀aF,Sub ro aF→Knows aF L1→eZ E.P false (E.Jo oo) (born E.P {target:= .fn (.func f) ⟨ca⟩,args:= #[]}) ⟨aF,[]⟩∧TT (TM E L Q 0 false (os++[oo]) 0) b (.inRegion ops todo::k) cs n D aF (WN (stO a.dst undef o)))
 (hy:evO n y o=some (.func (.func f) ⟨[]⟩ ⟨ca⟩):=by kernel_rfl) (hL:SN [] o=some L1:=by kernel_rfl):TT (TM E L Q 1 false os 0) b (.inRegion ops (i::todo)::k) cs n D ro o:=by
 rintro e w kn rfl bR
 have Ul:Closed E.P true (TM E L Q 1 false os 0):=fK (E:=E) false os (fun e=>(by cases e))
 refine Closed.ki Ul rfl fun pY=>?_
 obtain⟨w0,Xd⟩:=pY
 have mN:((den w).map (·.1)).Nodup:=Xd.nodup
 have nt:∀q o,(q,o)∈den w→ro q=none:=Xd.apart
 have fT:Sub ro (St.freeze ⟨ro,den w⟩).ro:=fun q o hq=>St.n9 (s:=⟨ro,den w⟩) hq nt
 have aun:Knows (St.freeze ⟨ro,den w⟩).ro L1:=fun x hx=>St.tB (s:=⟨ro,den w⟩) (by rcases x with ⟨q,o⟩;simp only[SN,Option.some.injEq] at hL;rw[←hL,C5] at hx;exact hx) mN
 obtain⟨h1,h2⟩:=h _ fT aun
 have bO:=fun w'=>Fv (P:=E.P) (main:=true) (b:=b) (a:=A n e D) (k:=k) (cs:=cs) (rest:=todo) ho hg hk hr ay (by rw[eI];exact aE hy) w'
 have:=h2 _ _ _ rfl (bR.up fT)
 rw[←aV] at this
 exact⟨TC.mono (St.CQ ⟨ro,den w⟩) (Jv (E:=E) (o:=oo) (s:=St.freeze ⟨ro,den w⟩) rfl rfl (fun w' _=>bO w') h1 this.1),fun e=>(by cases e)⟩
theorem aq7{os:List ι}{a:Oper}(L1:Cells)(ho:ops[i]?=some a) (hg:a.guard=none) (ay:a.op= .go ⟨.value y,#[],ats⟩) (hk:b.kind≠ .early) (hr:b.roundOf=none)
 (h:∀aF,Sub ro aF→Knows aF L1→E.closes ⟨aF,[]⟩ (born E.P {target:= .fn (.func f) ⟨ca⟩,args:= #[]})∧TT (TM E L Q 0 true os 0) b (.inRegion ops todo::k) cs n D aF (WN (stO a.dst undef o)))
 (hy:evO n y o=some (.func (.func f) ⟨[]⟩ ⟨ca⟩):=by kernel_rfl) (hL:SN [] o=some L1:=by kernel_rfl):TT (TM E L Q 0 false os 0) b (.inRegion ops (i::todo)::k) cs n D ro o:=by
 rintro e w kn rfl bR
 have Ul:Closed E.P true (TM E L Q 0 false os 0):=fK (E:=E) false os (fun e=>(by cases e))
 refine Closed.ki Ul rfl fun pY=>?_
 obtain⟨w0,Xd⟩:=pY
 have mN:((den w).map (·.1)).Nodup:=Xd.nodup
 have nt:∀q o,(q,o)∈den w→ro q=none:=Xd.apart
 have fT:Sub ro (St.freeze ⟨ro,den w⟩).ro:=fun q o hq=>St.n9 (s:=⟨ro,den w⟩) hq nt
 have aun:Knows (St.freeze ⟨ro,den w⟩).ro L1:=fun x hx=>St.tB (s:=⟨ro,den w⟩) (by rcases x with ⟨q,o⟩;simp only[SN,Option.some.injEq] at hL;rw[←hL,C5] at hx;exact hx) mN
 obtain⟨h1,h2⟩:=h _ fT aun
 have bO:=fun w'=>Fv (P:=E.P) (main:=true) (b:=b) (a:=A n e D) (k:=k) (cs:=cs) (rest:=todo) ho hg hk hr ay (by rw[eI];exact aE hy) w'
 have:=h2 _ _ _ rfl (bR.up fT)
 rw[←aV] at this
 exact⟨TC.mono (St.CQ ⟨ro,den w⟩) (Jw (E:=E) (s:=St.freeze ⟨ro,den w⟩) rfl rfl (fun w' _=>bO w') h1 this.1),fun e=>(by cases e)⟩
theorem aon{os:List ι}{a:Oper}{rc:Operand}{z:Value}{X:Cells}{aB:Nat→Option Obj}(hl:aiK L X pS aB)(cd:Sub aB ro)(Un:L E.Ch=none)(ho:ops[0]?=some a) (hg:a.guard=none) (RP:∀ρ,bn E.P (execOp ρ a)=some (.comm #[{chan:=ρ rc,send:=none,zero:=z}] true (.recv true))) (hk:b.kind≠ .early) (hr:b.roundOf=none)
 (Ku:∀a' oo b' v Y,os=a'++oo::b'→E.Vo oo v Y→TT (TM E L Q 0 true (a'++b') 0) b (.inRegion ops todo::k) cs n D ro (adO Y (stO a.dst (.tuple #[v,.bool true]) o)))
 (qJ:os=[]→TT (TL E.P eR (fun _=>none) (Calm E.os E.out) Q) b (.inRegion ops todo::k) cs n D pS (bkO X (stO a.dst (.tuple #[z,.bool false]) o)))
 (hx:evO n rc o=some (.chan (some E.Ch)):=by kernel_rfl):TT (TM E L Q 0 true os 0) b (.inRegion ops (0::todo)::k) cs n D ro o:=by
 rintro e w kn rfl bR
 have hT:Closed E.P true (TM E L Q 0 true os 0):=fK (E:=E) true os (fun _=>rfl)
 refine Closed.ki hT rfl fun pY=>?_
 have hvc:ev n e rc= .chan (some E.Ch):=aE hx
 have bO:∀w',stepG E.P true (G (aK b (A n e D) (.inRegion ops (0::todo)::k)) cs) w'= .comm (G (aK b (A n e D) (.inRegion ops (0::todo)::k)) cs) #[rcase E.Ch z] true (.recv true) w' #[]:=by
  intro w'
  have Ag:=lg b (A n e D) (.inRegion ops (0::todo)::k)
  simp only[aK] at Ag
  have hw:Region.wanted a (yielded ops (A n e D).tmps)=true:=dF _ _ hg
  have j8:(b.kind==CallKind.early)=false:=by simpa using hk
  have ij:stepG E.P true (G (aK b (A n e D) (.inRegion ops (0::todo)::k)) cs) w'=stepG.apply E.P true (aK b (A n e D) (.inRegion ops (0::todo)::k)) cs none (execOp (A n e D).eval a) w':=by
   simp only[G,stepG,stepG.exec,aK,ho,Option.map_some,Option.getD_some,hw,if_true,stepG.oper,Frame.oper?,Ag]
   rw[hr]
  have bQ:=tU (RP (ev n e)) w' #[]
  rw[hvc] at bQ
  rw[ij,eI]
  simp only[stepG.apply,if_true,bQ,aK,j8,Bool.false_eq_true,if_false]
  simp[seen_none,GStep.after,G,rcase]
 have pU:∀v,Conc.served (G (aK b (A n e D) (.inRegion ops (0::todo)::k)) cs) v=G (aK b (A n (upd a.dst v e) D) (.inRegion ops todo::k)) cs:=by
  intro v
  have:=fZ b (A n e D) ops 0 todo k v
  rw[ho] at this
  simp only[Option.bind_some] at this
  rw[aV] at this
  simp only[Conc.served,G] at this ⊢
  rw[this]
 have uA:os=[]→∀pc (g:Goroutine),g.status= .running→(∀w',stepG E.P true g w'= .comm (G (aK b (A n e D) (.inRegion ops (0::todo)::k)) cs) #[rcase E.Ch z] true (.recv true) w' #[])→
  TL E.P (jN pc) L (H8 E pc) Q g ⟨ro,den w⟩:=by
  intro tN pc g hg' atw
  obtain⟨hb1,gV⟩:=hl.back (rwK:=den w) cd
  refine VJ (E:=E) (z:=z) (s':=⟨pS,X++den w⟩) Un hg' (fun w' _=>atw w') hb1 gV ?_
  rw[pU]
  have:=qJ tN _ _ _ rfl fun x hx=>(by cases hx)
  rw[gZ] at this
  exact this
 refine⟨VP (E:=E) (z:=z) rfl (fun w' _=>bO w') (fun a' oo b' v Y tN oQ=>?_) fun tN pc=>⟨uA tN pc _ rfl bO,uA tN pc _ rfl fun w'=>bO w'⟩,fun _ tN pc=>uA tN pc _ rfl bO⟩
 rw[pU]
 have:=Ku a' oo b' v Y tN oQ _ _ _ rfl bR
 rw[gZ] at this
 exact this.1
theorem azh{oo:ι}{a:Oper}{sc sv:Operand}{v:Value}{Y:Cells}(ys:List Nat)(ho:ops[i]?=some a) (hg:a.guard=none) (hse:∀ρ,execOp ρ a=Sem.pure (.comm #[{chan:=ρ sc,send:=some (ρ sv),zero:= .tuple #[]}] true .send)) (hk:b.kind≠ .early) (hr:b.roundOf=none)
 (hs:E.Vo oo v Y) (h:TT (eZ E.P false E.Ia) b (.inRegion ops todo::k) cs n D ro (C4 ys (stO a.dst undef o)))
 (hx:evO n sc o=some (.chan (some E.Ch)):=by kernel_rfl) (hv:evO n sv o=some v:=by kernel_rfl) (hY:ek ys o=some Y:=by kernel_rfl):TT (eZ E.P false (E.Jo oo)) b (.inRegion ops (i::todo)::k) cs n D ro o:=by
 rintro e w kn rfl bR
 refine eZ.stop ?_
 have:=h e w kn
 refine⟨rfl,G (aK b (A n e D) (.inRegion ops (i::todo)::k)) cs,v,.tuple #[],Y,den (dK ys 0 w),bD hY,hs,fun w' pY=>?_,?_⟩
 ·have he:=lg b (A n e D) (.inRegion ops (i::todo)::k)
  simp only[aK] at he
  have auF:ev n e sc= .chan (some E.Ch):=aE hx
  have auE:ev n e sv=v:=aE hv
  have hw:Region.wanted a (yielded ops (A n e D).tmps)=true:=dF _ _ hg
  have j8:(b.kind==CallKind.early)=false:=by simpa using hk
  have aBW:=hse (ev n e)
  rw[auF,auE] at aBW
  have ij:stepG E.P false (G (aK b (A n e D) (.inRegion ops (i::todo)::k)) cs) w'=stepG.apply E.P true (aK b (A n e D) (.inRegion ops (i::todo)::k)) cs none (execOp (A n e D).eval a) w':=by
   simp only[G,stepG,stepG.exec,aK,ho,Option.map_some,Option.getD_some,hw,if_true,stepG.oper,Frame.oper?,he]
   rw[hr]
  rw[ij,eI,aBW]
  simp only[stepG.apply,if_true,Sem.runT,aK,j8,Bool.false_eq_true,if_false]
  simp[seen_none,GStep.after,G,scase]
 have pU:Conc.served (G (aK b (A n e D) (.inRegion ops (i::todo)::k)) cs) undef=G (aK b (A n (upd a.dst undef e) D) (.inRegion ops todo::k)) cs:=by
  have:=fZ b (A n e D) ops i todo k undef
  rw[ho] at this
  simp only[Option.bind_some] at this
  rw[aV] at this
  simp only[Conc.served,G] at this ⊢
  rw[this]
 rw[pU]
 exact h _ _ _ (by simp only[C4,stO]) bR
theorem aq0{dn:Nat}{bs:List Nat}(hf:E.P.funcs[b.fn]?=some fn) (AZ:fn.results= #[]) (zg:BI E.P dn=true) (DJ:xL E.P E.ty E.max (Frame.enter E.P dn #[.pointer (some ⟨E.Wg,0,none⟩)] .deferred)=some bs) (hbs:∀b∈bs,b=E.Wg) (ps:List Nat) (hk:b.kind= .deferred) (hr:b.roundOf=none)
 (hd:ek ps o=some [(bd,.deferred (some []))]:=by kernel_rfl):TT (eZ E.P false E.Ia) b [] [cJ E.P] n [eG bd,{target:= .fn (.func dn) ⟨[]⟩,args:=⟨[.pointer (some ⟨E.Wg,0,none⟩)]⟩}] ro o:=by
 rintro e w kn rfl bR
 have hT2:=ei E.P false E.Ia
 refine hT2.go rfl rfl (g':=G {aK b (A n e [eG bd,{target:= .fn (.func dn) ⟨[]⟩,args:=⟨[.pointer (some ⟨E.Wg,0,none⟩)]⟩}]) [] with mode:= .returning} [cJ E.P]) (fun w=>by simp[G,stepG,stepG.exec,aK,hr]) ?_
 have hp:=bD hd
 obtain⟨Lw,Rr,hs⟩:=List.append_of_mem (hp.mem_iff.2 (List.mem_append_left _ (List.mem_singleton.2 rfl)))
 refine unwind_mark (C:=CA E.P) (fun _ _ h=>h) hT2 (.inl rfl) (fr:={aK b (A n e [eG bd,{target:= .fn (.func dn) ⟨[]⟩,args:=⟨[.pointer (some ⟨E.Wg,0,none⟩)]⟩}]) [] with mode:= .returning}) rfl hs<|jY (C:=CA E.P) (fun _ _ h=>h) hT2 (.inl rfl) (lN zg) (ds:=[]) rfl<|eZ.stop ?_
 have hq:QuitsD E.P 2 0 (G {aK b (A n e []) [] with mode:= .returning} [cJ E.P]):=oB rfl rfl hk hf AZ
 exact HK (E:=E) (c:={aK b (A n e []) [] with mode:= .returning}) (.inl rfl) hq DJ hbs
end
theorem azp{S:Goroutine→St→Prop}{c:Code}{ro:Nat→Option Obj}(hf:P.funcs[f]?=some fn) (hb:fn.body=some c) (hn:fn.ntmps=n) (ff:BI P f=true) (hle:Nat.ble ca.length n=true)
 (h:TT (eZ P false S) (fr0 f .deferred) ([c].map .code++[]) [cJ P] n [] ro (some ⟨.fin .normal,gv 0 ca,[],⟨[],[]⟩⟩)):eZ P false S (born P {target:= .fn (.func f) ⟨ca⟩,args:= #[]}) ⟨ro,[]⟩:=by
 have hT:=ei P false S
 refine jY (C:=CA P) (fun _ _ h=>h) hT (fr:={(default:Frame) with fn:=P.funcs.size,defers:=[{target:= .fn (.func f) ⟨ca⟩,args:= #[]}],mode:= .panicking [goexitEntry]}) (.inr ⟨_,rfl⟩) (lN ff) rfl ?_
 show eZ P false S (G (Frame.enter P f (#[]++⟨ca⟩) .deferred) [cJ P]) ⟨ro,[]⟩
 have iJ:Frame.enter P f (#[]++⟨ca⟩) .deferred=aK (fr0 f .deferred) (A n (gv 0 ca) []) [.code c]:=by
  rw[←lh ca n (Nat.le_of_ble_eq_true hle)]
  simp[Frame.enter,aK,hf,hb,hn,fr0]
 rw[iJ]
 exact h _ _ _ rfl fun x hx=>(by cases hx)
theorem akh{E:ee ι}{x:Ld}(hx:x.OK E.P E.ty){bs:List Nat}(Qc:Bp E.P E.ty E.max (Frame.enter E.P x.wait #[.pointer (some ⟨E.Wg,0,none⟩)] .normal)=some bs)(hbs:∀b∈bs,b=E.Wg)
 {ro:Nat→Option Obj}{a:Oper}(hq:ro q=some (.cells ⟨[.chan (some E.Ch)]⟩ t fz))(ho0:x.q1[0]?=some a) (hg0:a.guard=none) (aQR:a.op= .load U y) (ht:(aW E.P U).map (·.agg)=some false)
 (hy:evO x.n y (some ⟨.fin .normal,fH x.o0.dst (.tuple #[]) (gv 0 [.pointer (some ⟨E.Wg,0,none⟩),.pointer (some ⟨q,0,none⟩)]),[],⟨[],[]⟩⟩)=some (.pointer (some ⟨q,0,none⟩)))
 (hc:evO x.n x.cx (stO a.dst (.chan (some E.Ch)) (some ⟨.fin .normal,fH x.o0.dst (.tuple #[]) (gv 0 [.pointer (some ⟨E.Wg,0,none⟩),.pointer (some ⟨q,0,none⟩)]),[],⟨[],[]⟩⟩))=some (.chan (some E.Ch))):
 E.closes ⟨ro,[]⟩ (born E.P {target:= .fn (.func x.f) ⟨[.pointer (some ⟨E.Wg,0,none⟩),.pointer (some ⟨q,0,none⟩)]⟩,args:= #[]}):=by
 obtain⟨fn,hf,AZ,RR⟩:=hx.fn
 obtain⟨hbf,sD,rh⟩:=hx.bf
 have hk:x.b.kind≠ .early:=by rw[sD];simp
 have Qi:∀g g',g.status= .running→g'.status= .running→(∀w,stepG E.P false g w= .go g' w #[])→E.closes ⟨ro,[]⟩ g'→E.closes ⟨ro,[]⟩ g:=
  fun g g' hg _ bO ⟨q,hq⟩=>⟨q+1,hg,g',fun w _=>bO w,hq⟩
 refine Qi _ _ rfl rfl (HT (lN hx.ff) _) ?_
 have He:(#[]++(⟨[.pointer (some ⟨E.Wg,0,none⟩),.pointer (some ⟨q,0,none⟩)]⟩:Array Value))= #[.pointer (some ⟨E.Wg,0,none⟩),.pointer (some ⟨q,0,none⟩)]:=by simp
 rw[He]
 refine UH (iP:=[]) (cs:=[cJ E.P]) Qi (hx.enter _ _)<|HI (E:=E) ?_ Qc hbs
 have hT:=ei E.P false E.Jn
 show eZ E.P false E.Jn (G ((aK x.b (A x.n (gv 0 [.pointer (some ⟨E.Wg,0,none⟩),.pointer (some ⟨q,0,none⟩)]) []) (.inRegion x.q0 (0::[])::[.code x.rest])).finish (.tuple #[])) [cJ E.P]) ⟨ro,[]⟩
 rw[fZ,hx.op0,aV]
 simp only[Option.bind_some]
 rw[kG]
 refine iK hT ?_
 obtain⟨id,aeU⟩:=hx.rest
 refine dQ (l:=[x.rest]) (k:=[]) hT aeU fun l2 q5=>?_
 have:=gX q5
 subst this
 rw[hx.size]
 have key:TT (eZ E.P false E.Jn) x.b (.inRegion x.q1 (0::[1])::[]) [cJ E.P] x.n [] ro (some ⟨.fin .normal,fH x.o0.dst (.tuple #[]) (gv 0 [.pointer (some ⟨E.Wg,0,none⟩),.pointer (some ⟨q,0,none⟩)]),[],⟨[],[]⟩⟩):=by
  refine tLd hT (.chan (some E.Ch)) ho0 hg0 aQR ht hk rh (q:=q) (t:=t) (fz:=fz) (fun _ _ _ _=> .inl hq) ?_ hy
  intro e w kn he bR
  refine eZ.stop ?_
  have hx2:ev x.n e x.cx= .chan (some E.Ch):=by
   rw[he] at hc
   exact aE hc
  obtain⟨ho,hg,ats,ay⟩:=hx.op
  have hq:(E.P.funcs[x.b.fn]?).any (·.norace)=false:=by rw[hbf,hf];simpa using RR
  refine⟨rfl,?_,G (x.b.at (Act.put (A x.n e []) x.oc.dst (.tuple #[])) (.inRegion x.q1 []::[])) [cJ E.P],fun w s r tm hc=>?_,4,?_⟩
  ·simp[mayWake,G,aK,ho,ay]
  ·rw[CY rh]
   have:=stepG_close (P:=E.P) (main:=false) (b:=x.b) (a:=A x.n e []) (kk:=[]) (cs:=[cJ E.P]) (rest:=[]) ho (dF x.oc _ hg) hk ay (by rw[eI];exact hx2) hc hq
   exact this
  rw[←CY rh]
  refine .ctl (g':=G (aK x.b (Act.put (A x.n e []) x.oc.dst (.tuple #[])) []) [cJ E.P]) rfl (fun w=>by simp[G,stepG,stepG.exec,aK])<|.ctl (g':=G {aK x.b (Act.put (A x.n e []) x.oc.dst (.tuple #[])) [] with mode:= .returning} [cJ E.P]) rfl (fun w=>by simp[G,stepG,stepG.exec,aK,rh])<|oB rfl ?_ sD (by show E.P.funcs[x.b.fn]?=_;rw[hbf];exact hf) AZ
  show (Act.put (A x.n e []) x.oc.dst (.tuple #[])).defers=[]
  rw[aV];rfl
 exact key _ _ _ rfl fun x hx=>(by cases hx)
theorem jpF{V:Value}(lp:List Nat)(B:Cells)(Ha:BI X.P f=true)(hf:∀aB,Sub X.ro aB→Knows aB B→dO X.P f vs aB V)(hj:J X (Mh B V o))(h1:dM X.n (ail X.n) o=some (f,vs):=by kernel_rfl)(h3:ek lp o=some B:=by kernel_rfl):J X o:=by
 refine jGN h1 h3 (fun s p e ho hh hc=>?_) hj
 have hcb:yA X.P X.n p e=some (f,vs):=by unfold yA;rw[hc];simp only[Ha,cond_true]
 obtain⟨ff,x,xs,at_,fi,ca,ws,ay,hx,sw,rfl⟩:=qT hcb
 rcases p with ⟨dst,op,ty,pos,c8,g⟩
 dsimp only at ay;subst ay
 refine⟨rfl,fun s0 GQ vx ops i tw rest hw s' hs todo Q hk=>?_⟩
 have hez:Ext ⟨X.ro,B⟩ s':=fun b ob hb=>hs _ _ (hb.elim (fun h=>GQ _ _ (.inl h)) fun h=>vx (b,ob) h)
 exact PE X.hC tw hw (aZ hx) ff (xG sw) (Ru fi ws ca) hez (fun aB h1=>hf aB (FV h1) fun y hy=>h1 _ _ (.inr hy)) hk
def bgI(body:Code)(i:Nat):Option JS→Option (JS×Nat)
 |some ⟨.fin .normal,e,w,kn⟩=>match yU w i with
  |some (.b b (.loop r))=>match r.state with
   | .ready=>some (⟨.code body [],e,SJ w i (.b b (.loop {r with state:= .busy})),kn⟩,b)
   |_=>none
  |_=>none
 |_=>none
theorem jbI{ro:Nat→Option Obj}(i:Nat)(h:J (X.re bl ro Φ) (EJ (bgI body i o)))(h1:SH (bgI body i o)=some bl:=by kernel_rfl):J (X.rd bl ro Φ body) o:=by
 unfold bgI at h h1
 split at h<;>try (simp only[EJ] at h;exact h.elim)
 rename_i e w kn
 split at h<;>try (simp only[EJ] at h;exact h.elim)
 rename_i b r hn
 split at h<;>try (simp only[EJ] at h;exact h.elim)
 rename_i bO
 simp only[hn,bO,SH,Option.some.injEq] at h1
 subst h1
 simp only[EJ] at h
 intro bR
 have hw:=h bR
 obtain⟨L,R,h2,h3⟩:=Az hn
 simp only[JP,Cx.rd,HY,Df]
 refine⟨L,r,R,h2,bO,?_⟩
 simp only[JP,h3] at hw
 exact hw
theorem tGe{b:Frame}{D:List Deferred}{ro:Nat→Option Obj}(h:TT T b Aa cs n D ro (geO o)):TT T b Aa cs n D ro o:=by
 rintro e w kn rfl bR
 have:=h e (.l []::w) kn (by simp only[geO]) bR
 rw[gZ] at this
 exact this
def acB:Option JS→Option JS
 |some ⟨.fin .normal,e,w,kn⟩=>some ⟨.fin .ret,e,w,kn⟩
 |_=>none
theorem aqZ{c:Code}{ro:Nat→Option Obj}{L:Cells}(hf:P.funcs[f]?=some fn) (hb:fn.body=some c) (hn:fn.ntmps=n) (hle:Nat.ble args.length n=true)
 (h:TT T (fr0 f .normal) ([c].map .code++[]) cs n [] ro (some ⟨.fin .normal,gv 0 args,[.l L],⟨[],[]⟩⟩)):T (G (Frame.enter P f ⟨args⟩ .normal) cs) ⟨ro,L⟩:=by
 have iJ:Frame.enter P f ⟨args⟩ .normal=aK (fr0 f .normal) (A n (gv 0 args) []) [.code c]:=by
  rw[←lh args n (Nat.le_of_ble_eq_true hle)]
  simp[Frame.enter,aK,hf,hb,hn,fr0]
 rw[iJ]
 exact h _ _ _ rfl fun x hx=>(by cases hx)
theorem aNl(hm:P.follows .mixedOrders=true)(hT:Closed P main T){cl:Frame}{Nu:List Frame}{ro:Nat→Option Obj}(v:Value)(hs ps:List Nat)(Y:Cells)(hf:P.funcs[f]?=some fn)
 (hk:T (G (cl.finish v) Nu) ⟨ro,Y⟩) (h1:tA (ky P n f hs (acB o))=some v:=by kernel_rfl) (h2:R8 (ky P n f hs (acB o))=R7 (ky P n f hs (acB o)):=by kernel_rfl) (h3:ek ps o=some Y:=by kernel_rfl):TT T (fr0 f .normal) (.code .ret::Aa) (cl::Nu) n [] ro o:=by
 rintro e w kn rfl bR
 simp only[acB] at h1 h2
 simp only[ky] at h1 h2
 cases hr:BX P n e w kn.c hs (tC P f).results.toList with
 |none=>simp only[hr,tA] at h1;cases h1
 |some x=>
  rcases x with ⟨vs,q⟩
  simp only[hr,tA,Option.some.injEq,R8,R7] at h1 h2
  have sC:=tW (X:=⟨P,fun m T'=>m=main∧T'=T,by rintro _ _ ⟨rfl,rfl⟩;exact hT,hm,f,none,n,[],ro,fun _ _ _=>True⟩) bR hr (mO h2)
  have hp:=bD h3
  have u1:tC P f=fn:=by simp only[tC,hf]
  have Ii:=O5 (s0:=⟨ro,Y⟩) (R:=fun en s'=>∃v,en= .returned v∧T (G (cl.finish v) Nu) s') (.inl rfl) sC h1 (dY hp (Sub.refl _)) ⟨v,rfl,hk⟩
  rw[u1] at Ii
  refine hT.go rfl rfl (g':=G {aK (fr0 f .normal) (A n e []) (.code .ret::Aa) with mode:= .returning} (cl::Nu)) (fun w=>by simp[G,stepG,stepG.exec,aK,fr0])<|s8 (C:=CA P) (fun _ _ h=>h) (T:=T) hT hf (fr:={aK (fr0 f .normal) (A n e []) (.code .ret::Aa) with mode:= .returning}) rfl rfl rfl rfl (R:=fun en s'=>∃v,en= .returned v∧T (G (cl.finish v) Nu) s') Ii.2 (fun v s' hv=>?_)
  obtain⟨v',hv',ht⟩:=hv
  cases hv'
  exact ht
attribute [irreducible] WN bkO bgI SN acB
def EW(P:Program)(f:FuncId)(args:List Value)(ro:Nat→Option Obj)(own:Cells)(Φ:Value→Cells→Prop):Prop:=
 ∀fr,Fn (C0 P) P f ⟨args⟩ ⟨ro,own++fr⟩ (fun en s'=>∃v Y,en= .returned v∧(⟨ro,Y++fr⟩:St).le s'∧Φ v Y)
theorem EW.mono{ro:Nat→Option Obj}{own:Cells}{Φ':Value→Cells→Prop}(h:EW P f args ro own Φ)(hk:∀v X,Φ v X→Φ' v X):EW P f args ro own Φ':=
 fun fr=>Fn.mono (h fr) fun _ _ ⟨v,X,h1,h2,h3⟩=>⟨v,X,h1,h2,hk v X h3⟩
abbrev RC(ro:Nat→Option Obj)(fr:Cells)(Φ:Value→Cells→Prop):Ending→St→Prop:=fun en s'=>∃v Y,en= .returned v∧(⟨ro,Y++fr⟩:St).le s'∧Φ v Y
def XC(P:Program)(hm:P.follows .mixedOrders=true)(f:FuncId)(ro:Nat→Option Obj)(R:Ending→St→Prop):Cx:=⟨P,C0 P,xM,hm,f,none,(tC P f).ntmps,[],ro,rO P (tC P f) R⟩
theorem qC{hm:P.follows .mixedOrders=true}{ro:Nat→Option Obj}:QR (XC P hm f ro R) R:=⟨rfl,rfl⟩
theorem KH(hC:∀main T,C main T→Closed P main T){c:Code}(hf:P.funcs[f]?=some fn) (hb:fn.body=some c) (hl:Nat.ble args.length fn.ntmps=true) (h:Wp C f none c (rO P fn R) (A fn.ntmps (gv 0 args) []) s):Fn C P f ⟨args⟩ s R:=by
 refine QW hC hf hb ?_
 have he:=lh args fn.ntmps (Nat.le_of_ble_eq_true hl)
 rw[←he] at h
 exact h
theorem Ep(hm:P.follows .mixedOrders=true){ro:Nat→Option Obj}{L:Cells}(own:List Sg)(kn:Cells)(hk:Knows ro kn)(h:∀fr,J (XC P hm f ro (RC ro fr Φ)) (lI P f args (own++[.l fr]) kn))(hL:den own=L:=by rfl):EW P f args ro L Φ:=by
 subst hL
 intro fr
 have h:=h fr
 unfold lI at h
 split at h<;>try exact h.elim
 rename_i fn hf
 split at h<;>try exact h.elim
 rename_i c hc
 cases hl:Nat.ble args.length fn.ntmps with
 |false=>rw[hl] at h;exact h.elim
 |true=>
  rw[hl] at h
  have u1:tC P f=fn:=by simp only[tC,hf]
  have:=h hk
  simp only[JP,XC,KQ,u1] at this
  have hd:den (own++[.l fr])=den own++fr:=by rw[mh];rfl
  rw[hd] at this
  exact KH xM hf hc hl this
section
variable {X:Cx} {o:Option JS}
theorem Fg{own:Cells}(ps:List Nat)(hC:∀main T,X.C main T→C0 X.P main T)(hf:EW X.P f vs X.ro own Φ)(hj:∀v Y,Φ v Y→J X (nI ps v Y o))(h1:fG X.n (yA X.P X.n) o=some (f,vs):=by kernel_rfl)(h2:ek ps o=some own:=by kernel_rfl):J X o:=by
 obtain⟨ops,i,todo,k,e,w,kn,p,rfl,ho,hw,hc⟩:=dG h1
 obtain⟨ff,x,xs,at_,fi,ca,ws,ay,hx,sw,rfl⟩:=qT hc
 intro bR
 rcases p with ⟨dst,op,ty,pos,c8,g⟩
 dsimp only at ay;subst ay
 have hp:=bD h2
 have u1:Fn X.C X.P f ⟨fi++ws++ca⟩ ⟨X.ro,den w⟩ (fun en s'=>∃v Y,en= .returned v∧(⟨X.ro,Y++den (dK ps 0 w)⟩:St).le s'∧Φ v Y):=fun main T hT c cs k1 k2=>
  (X.hC main T hT).mono _ ⟨X.ro,own++den (dK ps 0 w)⟩ _ (dY (J:=[]) (by rw[List.append_nil];exact hp) (Sub.refl _)) (Fn.weaken hC (hf _) main T hT c cs k1 k2)
 refine uk (fi:=⟨fi⟩) (ca:=⟨ca⟩) (ws:=fi++ws++ca) X.hC ho hw hx ff sw (Ru fi ws ca) u1 (fun v' s' hr=>?_) (fun ch s' hr=>by obtain⟨_,_,e,_⟩:=hr;cases e) (fun s' hr=>by obtain⟨_,_,e,_⟩:=hr;cases e)
 obtain⟨v,Y,hv,hle,qE⟩:=hr
 cases hv
 have:=hj _ Y qE
 rw[oE ho] at this
 have:=this bR
 simp only[JP,gZ] at this
 exact this.more X.hC hle
theorem N4(hq:QR X (RC pS fr Φ))(v:Value)(ps:List Nat)(Y:Cells)(fT:Sub pS X.ro)(hR:Φ v Y)(h1:tA (ky X.P X.n X.fn [] o)=some v:=by kernel_rfl)(h2:R8 (ky X.P X.n X.fn [] o)=R7 (ky X.P X.n X.fn [] o):=by kernel_rfl)(h3:ek ps o=some (Y++fr):=by kernel_rfl)(h4:CW o=true:=by kernel_rfl):J X o:=
 aH hq v [] ps (Y++fr) fT ⟨v,Y,rfl,St.le_refl _,hR⟩ h1 h2 h3 h4
end
noncomputable def F6(P:Program)(g:FuncId):Func:=match IL P g with
 |some (gn,_,_)=>gn
 |none=>default
noncomputable def IK(P:Program)(g:FuncId):Tmp:=match IL P g with
 |some (_,t,_)=>t
 |none=>0
noncomputable def recC(P:Program)(g:FuncId):Code:=match IL P g with
 |some (_,_,c)=>c
 |none=> .skip
def aru(P:Program)(g:FuncId):Bool:=(IL P g).isSome
theorem akv(h:aru P g=true):IL P g=some (F6 P g,IK P g,recC P g):=by
 unfold aru at h
 unfold F6 IK recC
 cases hr:IL P g with
 |none=>rw[hr] at h;cases h
 |some x=>rcases x with ⟨a,b,c⟩;rfl
noncomputable def XD(P:Program)(hm:P.follows .mixedOrders=true)(f:FuncId)(ro:Nat→Option Obj)(R:Ending→St→Prop)(g:FuncId):Cx:=⟨P,CP P,fg,hm,f,none,(tC P f).ntmps,[],ro,UY (CP P) P (tC P f) g (F6 P g) (IK P g) (recC P g) R⟩
theorem aPk(hm:P.follows .mixedOrders=true){ro:Nat→Option Obj}{L:Cells}(g:FuncId)(own:List Sg)(kn:Cells)(hk:Knows ro kn)(h:J (XD P hm f ro (RX ro Φ) g) (lI P f args own kn))(hL:den own=L:=by rfl)(aeV:aru P g=true:=by kernel_rfl):eS P f args ro L Φ:=by
 subst hL
 unfold lI at h
 split at h<;>try exact h.elim
 rename_i fn hf
 split at h<;>try exact h.elim
 rename_i c hc
 cases hl:Nat.ble args.length fn.ntmps with
 |false=>rw[hl] at h;exact h.elim
 |true=>
  rw[hl] at h
  have u1:tC P f=fn:=by simp only[tC,hf]
  have:=h hk
  simp only[JP,XD,KQ,u1] at this
  exact Ht fg hf hc rfl hl (akv aeV) this
def dfV(n:Nat)(p:Oper)(e:Env):Option (FuncId×List Value):=match p.op with
 | .defer ⟨.value x,⟨[]⟩,⟨[]⟩⟩=>match bh n e x with
  |some (.func (.func f) ⟨[]⟩ ⟨ca⟩)=>some (f,ca)
  |_=>none
 |_=>none
theorem av9(h:dfV n p e=some (f,ca)):∃x,p.op= .defer ⟨.value x,#[],#[]⟩∧bh n e x=some (.func (.func f) ⟨[]⟩ ⟨ca⟩):=by
 unfold dfV at h
 split at h<;>try (cases h;done)
 rename_i x ay
 split at h<;>try (cases h;done)
 rename_i hx
 cases h
 exact⟨x,ay,hx⟩
def skO:Option JS→Option JS
 |some ⟨.ops ops (i::todo) k,e,w,kn⟩=>match ops[i]? with
  |some p=>some ⟨.ops ops todo k,upd p.dst undef e,w,kn⟩
  |none=>none
 |_=>none
def P8(t:Tmp)(rest:Code)(ca:List Value):Option JS→Option JS
 |some ⟨.fin _,_,w,kn⟩=>some ⟨.code rest [],upd (some t) .nilIface (gv 0 ca),w,⟨kn.c,[]⟩⟩
 |_=>none
def rwS:Option JS→Option (List Sg)
 |some s=>some s.rw
 |none=>none
section
variable {X:Cx} {o:Option JS}
theorem jdf(hj:J (X.wd ({target:= .fn (.func f) ⟨ca⟩,args:= #[]}::X.D)) (skO o))(h1:fG X.n (dfV X.n) o=some (f,ca):=by kernel_rfl)(hr:X.aA=none:=by rfl):J X o:=by
 obtain⟨ops,i,todo,k,e,w,kn,p,rfl,ho,hw,hc⟩:=dG h1
 obtain⟨x,ay,hx⟩:=av9 hc
 intro bR
 rcases p with ⟨dst,op,ty,pos,c8,g⟩
 dsimp only at ay;subst ay
 simp only[skO,ho] at hj
 have:=hj bR
 simp only[JP,RE] at this
 show ab X.C X.fn X.aA ops (i::todo) (KQ X k) (A X.n e X.D) ⟨X.ro,den w⟩
 rw[hr]
 have h2:(X.wd ({target:= .fn (.func f) ⟨ca⟩,args:= #[]}::X.D)).aA=none:=hr
 rw[h2] at this
 exact akX X.hC ho hw hx this
structure QD(X:Cx)(g:FuncId)(R:Ending→St→Prop)(ca:List Value):Prop where
 q:X.Q=UY X.C X.P (tC X.P X.fn) g (F6 X.P g) (IK X.P g) (recC X.P g) R
 d:X.D=[{target:= .fn (.func g) ⟨ca⟩,args:= #[]}]
theorem jrD(hq:QD X g R ca)(v:Value)(hs ps:List Nat)(Y:Cells)(k:Nat)(fT:Sub pS X.ro)(hR:R (.returned v) ⟨pS,Y⟩)(hl:Nat.ble ca.length (F6 X.P g).ntmps=true:=by kernel_rfl)
 (h1:tA (ky X.P X.n X.fn hs o)=some v:=by kernel_rfl)(h2:R8 (ky X.P X.n X.fn hs o)=R7 (ky X.P X.n X.fn hs o):=by kernel_rfl)(h3:ek ps o=some Y:=by kernel_rfl)(h4:CW o=true:=by kernel_rfl)
 (h5:CW (res (adv X.P (F6 X.P g).ntmps k [] (P8 (IK X.P g) (recC X.P g) ca o)))=true:=by kernel_rfl)(h6:rwS (res (adv X.P (F6 X.P g).ntmps k [] (P8 (IK X.P g) (recC X.P g) ca o)))=rwS o:=by kernel_rfl)
 (h7:lhs (adv X.P (F6 X.P g).ntmps k [] (P8 (IK X.P g) (recC X.P g) ca o))=rhs (adv X.P (F6 X.P g).ntmps k [] (P8 (IK X.P g) (recC X.P g) ca o)):=by kernel_rfl):J X o:=by
 obtain⟨ex,e,w,kn,rfl,hex⟩:=tE h4
 simp only[ky] at h1 h2
 cases hr:BX X.P X.n e w kn.c hs (tC X.P X.fn).results.toList with
 |none=>simp only[hr,tA] at h1;cases h1
 |some x=>
  rcases x with ⟨vs,q⟩
  simp only[hr,tA,Option.some.injEq,R8,R7] at h1 h2
  intro bR
  have sC:=tW bR hr (mO h2)
  have hp:=bD h3
  have Ii:=O5 (s0:=⟨pS,Y⟩) (R:=R) hex sC h1 (dY hp fT) hR
  have ht:bL X.P (results (tC X.P X.fn) (A X.n e X.D).tmps) ⟨X.ro,den w⟩ (fun v s'=>∃s0,s0.le s'∧R (.returned v) s0) (fun _ _=>False):=by
   rcases hex with rfl|rfl<;>exact Ii.2
  show X.Q ex (A X.n e X.D) ⟨X.ro,den w⟩
  rw[hq.q]
  refine⟨hex.symm,ca,hl,hq.d,?_⟩
  let X2:Cx:=⟨X.P,X.C,X.hC,X.hm,g,none,(F6 X.P g).ntmps,[],X.ro,fun e2 a2 s2=>(e2= .normal∨e2= .ret)∧a2.defers=[]∧bL X.P (results (tC X.P X.fn) (A X.n e X.D).tmps) s2 (fun v s3=>∃s0,s0.le s3∧R (.returned v) s0) (fun _ _=>False)⟩
  have hj:J X2 (P8 (IK X.P g) (recC X.P g) ca (some ⟨.fin ex,e,w,kn⟩)):=by
   refine jd k [] ?_ h7
   have h5':=h5
   have h6':=h6
   obtain⟨ex2,e2,w2,kn2,ux,aRT⟩:=tE h5'
   show J X2 (res (adv X.P (F6 X.P g).ntmps k [] (P8 (IK X.P g) (recC X.P g) ca (some ⟨.fin ex,e,w,kn⟩))))
   rw[ux] at h6' ⊢
   simp only[rwS,Option.some.injEq] at h6'
   subst h6'
   exact fun _=>⟨aRT.symm,rfl,ht⟩
  simp only[P8] at hj
  exact hj bR
end
attribute [irreducible] skO P8 rwS dfV
def uZ(r ck:Nat)(seen:List Nat):Obj:= .mapIter (some r) ck ⟨seen⟩ ck
def cG(es:Array MapEntry)(seen:List Nat):List MapEntry:=es.toList.filter fun e=> !seen.contains e.born
theorem Cr(es:Array MapEntry):cG es []=es.toList:=by simp[cG]
theorem ZC{es:Array MapEntry}{e:MapEntry}:e∈cG es (seen++[b])↔e∈cG es seen∧e.born≠b:=by
 simp only[cG,List.mem_filter,Bool.not_eq_true',List.contains_eq_mem,List.mem_append,List.mem_singleton,decide_eq_false_iff_not,not_or,and_assoc]
theorem GG{es:Array MapEntry}{e:MapEntry}(h:e∈cG es seen):(cG es (seen++[e.born])).length <(cG es seen).length:=by
 have:cG es (seen++[e.born])=(cG es seen).filter fun x=> !decide (x.born=e.born):=by
  simp only[cG,List.filter_filter]
  refine List.filter_congr fun x _=>?_
  simp only[List.contains_eq_mem,List.mem_append,List.mem_singleton,Bool.decide_or,Bool.not_or]
  rw[Bool.and_comm]
 rw[this]
 exact List.length_filter_lt_length_iff_exists.2 ⟨e,h,by simp⟩
def mrV(P:Program)(n:Nat)(p:Oper)(e:Env):Option Value:=match p.op with
 | .range T x=>match aW P T with
  |some ⟨.map _ _,_,_,_⟩=>bh n e x
  |_=>none
 |_=>none
def nmV(n:Nat)(p:Oper)(e:Env):Option Value:=match p.op with
 | .next x false=>bh n e x
 |_=>none
def enV(n:Nat)(p:Oper)(e:Env):Option Value:=match p.op with
 | .entry x=>bh n e x
 |_=>none
theorem Jx{Q:β→St→Prop}{E:Halt→St→Prop}{k:Nat→Sem β}(hn:0 <n)(h:∀j,j <n→bL P (k j) s Q E):bL P (choose (.mapNext n) >>= k) s Q E:=by
 show (if (Question.mapNext n).forced=true then _ else _)
 split
 ·exact h 0 hn
 exact fun q=>h _ (Nat.mod_lt _ hn)
section
variable {X:Cx} {o:Option JS}
theorem jmR{es:Array MapEntry}(hm:X.ro r=some (.map es ck))(hj:∀b,J X (nI [] (.pointer (some ⟨b,0,none⟩)) [(b,uZ r ck [])] o))(hv:fG X.n (mrV X.P X.n) o=some (.map (some r)):=by kernel_rfl)(hB:ek [] o=some []:=by kernel_rfl):J X o:=by
 refine jS (Φ:=fun v L'=>∃b,v= .pointer (some ⟨b,0,none⟩)∧L'=[(b,uZ r ck [])]) [] [] hv hB (fun p e hf=>?_) (fun v L' qE=>?_)
 ·unfold mrV at hf
  split at hf<;>try (cases hf;done)
  rename_i T x ay
  split at hf<;>try (cases hf;done)
  rename_i dZ
  obtain⟨bx,tf⟩:=ar dZ
  refine⟨by rw[ay];simp,fun R Q E hQ=>?_⟩
  simp only[execOp,ay,Instr.range,aa,aX tf,aE hf]
  refine cA (.inl hm) rfl rfl ?_
  simp only[aa,ae,oI]
  intro b hb
  exact hQ _ _ ⟨b,rfl,rfl⟩
 obtain⟨b,rfl,rfl⟩:=qE
 exact hj b
theorem jmN{kv:κ→Value}{F:List (κ×Value)}{es:Array MapEntry}(i:Nat)(hm:X.ro r=some (.map es ck))(hE:tJ kv F es ck)
 (hT:∀k v e,(k,v)∈F→e∈cG es seen→e.key=kv k→e.val=v→J X (nI [i] (.tuple ⟨[.bool true,kv k,v]⟩) [(it,uZ r ck (seen++[e.born]))] o))
 (hF:cG es seen=[]→J X (nI [i] (.tuple ⟨[.bool false]⟩) [(it,uZ r ck seen)] o))
 (hv:fG X.n (nmV X.n) o=some (.pointer (some ⟨it,0,none⟩)):=by kernel_rfl)(hB:ek [i] o=some [(it,uZ r ck seen)]:=by kernel_rfl):J X o:=by
 refine jS (Φ:=fun v L'=>(∃e,e∈cG es seen∧v= .tuple ⟨[.bool true,e.key,e.val]⟩∧L'=[(it,uZ r ck (seen++[e.born]))])∨(cG es seen=[]∧v= .tuple ⟨[.bool false]⟩∧L'=[(it,uZ r ck seen)])) [i] _ hv hB (fun p e hf=>?_) (fun v L' qE=>?_)
 ·unfold nmV at hf
  split at hf<;>try (cases hf;done)
  rename_i x ay
  refine⟨by rw[ay];simp,fun R Q E hQ=>?_⟩
  simp only[execOp,ay,Instr.next,aa,aE hf]
  have hs:(⟨X.ro,[(it,uZ r ck seen)]++R⟩:St).rw=[]++(it,uZ r ck seen)::R:=rfl
  refine cA (o:=uZ r ck seen) (.inr (by rw[hs];exact fP)) rfl rfl ?_
  simp only[uZ,aa]
  refine cA (.inl hm) rfl rfl ?_
  simp only[aa]
  have hb:=hE.2.2
  have bO:¬((!(⟨seen⟩:Array Nat).isEmpty&& !es.isEmpty&&es.all (·.born≥ck))=true):=by
   intro h
   simp only[Bool.and_eq_true,Bool.not_eq_true',Array.all_eq_true,decide_eq_true_eq] at h
   obtain⟨⟨_,h1⟩,h2⟩:=h
   have vu:0 <es.size:=by
    rcases Nat.eq_zero_or_pos es.size with h0|h0
    ·simp[Array.isEmpty,h0] at h1
    exact h0
   have:=h2 0 vu
   have:=hb es[0] (by simp)
   omega
  rw[if_neg bO]
  have yl:(es.filter fun e=> !(⟨seen⟩:Array Nat).contains e.born)=⟨cG es seen⟩:=by
   rcases es with ⟨l⟩
   simp[cG]
  have hold:((⟨cG es seen⟩:Array MapEntry).filter fun e=>decide (e.born <ck))=⟨cG es seen⟩:=by
   have:(cG es seen).filter (fun e=>decide (e.born <ck))=cG es seen:=List.filter_eq_self.2 fun e he=>decide_eq_true (hb e (List.mem_filter.1 he).1)
   simp[this]
  have tx:((⟨cG es seen⟩:Array MapEntry).filter fun e=>decide (e.born≥ck))=⟨[]⟩:=by
   have:(cG es seen).filter (fun e=>decide (e.born≥ck))=[]:=List.filter_eq_nil_iff.2 fun e he=>by
    have:=hb e (List.mem_filter.1 he).1
    simp only[decide_eq_true_eq];omega
   simp[this]
  simp only[yl,hold,tx]
  cases hl:cG es seen with
  |nil=>
   simp only[List.isEmpty_toArray,List.isEmpty_nil,if_true]
   refine Jx (by simp) fun j hj=>?_
   have hc:(#[(none:Option MapEntry)]++((⟨[]⟩:Array MapEntry)++⟨[]⟩).map some)[j]?=some none:=by
    simp at hj
    subst hj;simp
   show bL X.P ((match (#[(none:Option MapEntry)]++((⟨[]⟩:Array MapEntry)++⟨[]⟩).map some)[j]? with|some (some e)=>_|some none=>_|none=>_) >>= fun v=>pure (Next.value v)) _ _ _
   rw[hc]
   exact hQ _ _ (.inr ⟨hl,rfl,rfl⟩)
  |cons e0 l=>
   have hem:(⟨e0::l⟩:Array MapEntry).isEmpty=false:=by simp
   simp only[hem,Bool.false_eq_true,if_false]
   have He:(#[]++((⟨e0::l⟩:Array MapEntry)++⟨[]⟩).map some:Array (Option MapEntry))=⟨(e0::l).map some⟩:=by simp
   rw[He]
   refine Jx (by simp) fun k cH=>?_
   have cH:k <(e0::l).length:=by simpa using cH
   have hk:(⟨(e0::l).map some⟩:Array (Option MapEntry))[k]?=some (some (e0::l)[k]):=by
    rw[List.getElem?_toArray,List.getElem?_map,List.getElem?_eq_getElem cH];rfl
   show bL X.P ((match (⟨(e0::l).map some⟩:Array (Option MapEntry))[k]? with|some (some e)=>_|some none=>_|none=>_) >>= fun v=>pure (Next.value v)) _ _ _
   rw[hk]
   simp only[aa]
   have nG:(⟨X.ro,[(it,Obj.mapIter (some r) ck ⟨seen⟩ ck)]++R⟩:St).rw=[]++(it,Obj.mapIter (some r) ck ⟨seen⟩ ck)::R:=rfl
   refine eJ (o:= .mapIter (some r) ck ((⟨seen⟩:Array Nat).push (e0::l)[k].born) ck) rfl nG rfl ?_
   have hp:(⟨seen⟩:Array Nat).push (e0::l)[k].born=⟨seen++[(e0::l)[k].born]⟩:=by simp
   rw[hp]
   have:=hQ (.tuple ⟨[.bool true,(e0::l)[k].key,(e0::l)[k].val]⟩) [(it,uZ r ck (seen++[(e0::l)[k].born]))] (.inl ⟨_,by rw[hl];exact List.getElem_mem cH,rfl,rfl⟩)
   exact this
 rcases qE with ⟨e,he,rfl,rfl⟩| ⟨h1,rfl,rfl⟩
 ·have:(e.key,e.val)∈F.map (fun x=>(kv x.1,x.2)):=by
   rw[←hE.1];exact List.mem_map_of_mem (f:=fun e:MapEntry=>(e.key,e.val)) (List.mem_filter.1 he).1
  obtain⟨⟨k,v⟩,h1,h2⟩:=List.mem_map.1 this
  simp only[Prod.mk.injEq] at h2
  have:=hT k v e h1 he h2.1.symm h2.2.symm
  rwa[h2.1,h2.2] at this
 exact hF h1
theorem jmE{kv:κ→Value}{F:List (κ×Value)}{es:Array MapEntry}{e:MapEntry}{k:κ}{v:Value}(i:Nat)(hm:X.ro r=some (.map es ck))(hE:tJ kv F es ck)(he:e∈cG es seen)(hk:e.key=kv k)(hvl:e.val=v)
 (hj:J X (nI [i] (.tuple ⟨[kv k,v]⟩) [(it,uZ r ck (seen++[e.born]))] o))
 (hv:fG X.n (enV X.n) o=some (.pointer (some ⟨it,0,none⟩)):=by kernel_rfl)(hB:ek [i] o=some [(it,uZ r ck (seen++[e.born]))]:=by kernel_rfl):J X o:=by
 refine jS (Φ:=fun w L'=>w= .tuple ⟨[kv k,v]⟩∧L'=[(it,uZ r ck (seen++[e.born]))]) [i] _ hv hB (fun p en hf=>?_) (fun w L' qE=>?_)
 ·unfold enV at hf
  split at hf<;>try (cases hf;done)
  rename_i x ay
  refine⟨by rw[ay];simp,fun R Q E hQ=>?_⟩
  simp only[execOp,ay,Instr.entry,aa,aE hf]
  have hs:(⟨X.ro,[(it,uZ r ck (seen++[e.born]))]++R⟩:St).rw=[]++(it,uZ r ck (seen++[e.born]))::R:=rfl
  refine cA (o:=uZ r ck (seen++[e.born])) (.inr (by rw[hs];exact fP)) rfl rfl ?_
  have sD:(⟨seen++[e.born]⟩:Array Nat).back?=some e.born:=by simp[Array.back?]
  simp only[uZ,sD,aa]
  refine cA (.inl hm) rfl rfl ?_
  have hfe:es.find? (fun x=>x.born==e.born)=some e:=by
   rcases es with ⟨l⟩
   have Xt:e∈l:=(List.mem_filter.1 he).1
   have mN:(l.map (·.born)).Nodup:=hE.2.1
   simp only[List.find?_toArray]
   clear hm hE he hj hv hB hs hQ
   induction l with
   |nil=>cases Xt
   |cons y l ih=>
    simp only[List.map_cons,List.nodup_cons,List.mem_map,not_exists,not_and] at mN
    rcases List.mem_cons.1 Xt with rfl|h
    ·simp
    have:y.born≠e.born:=fun h2=>mN.1 e h h2.symm
    rw[List.find?_cons_of_neg (by simpa using this)]
    exact ih h mN.2
  simp only[bne_self_eq_false,Bool.false_eq_true,if_false,hfe,ae,aa]
  exact hQ _ _ ⟨by rw[hk,hvl],rfl⟩
 obtain⟨rfl,rfl⟩:=qE
 exact hj
end
theorem Tu{kv:κ→Value}{F:List (κ×Value)}{es:Array MapEntry}(hE:tJ kv F es ck){e x:MapEntry}(he:e∈cG es seen)(hx:x∈cG es seen):x=e∨x∈cG es (seen++[e.born]):=by
 by_cases h:x.born=e.born
 ·left
  have mN:=hE.2.1
  have h1:=(List.mem_filter.1 he).1
  have h2:=(List.mem_filter.1 hx).1
  generalize es.toList=l at mN h1 h2
  induction l with
  |nil=>cases h1
  |cons y l ih=>
   simp only[List.map_cons,List.nodup_cons,List.mem_map,not_exists,not_and] at mN
   rcases List.mem_cons.1 h1 with k1|k1
   ·rcases List.mem_cons.1 h2 with k2|k2
    ·rw[k1,k2]
    exact absurd (by rw[h,k1]) (mN.1 x k2)
   rcases List.mem_cons.1 h2 with k2|k2
   ·exact absurd (by rw[←h,k2]) (mN.1 e k1)
   exact ih mN.2 k1 k2
 exact .inr (ZC.2 ⟨hx,h⟩)
def msV(P:Program)(n:Nat)(p:Oper)(e:Env):Option (TypeId×List Value):=match p.op with
 | .makeSlice T x y=>match aW P T with
  |some ⟨.slice E,_,_,_⟩=>match aW P E with
   |some te=>match bh n e x,bh n e y with
    |some (.int .i64 a),some (.int .i64 b)=>bif (decide (a=2)&&decide (b=2))&&(Nat.beq te.size 1&&Nat.ble (tQ P E) 65536) then some (E,te.zero) else none
    |_,_=>none
   |none=>none
  |_=>none
 |_=>none
theorem jmS{E:TypeId}{z:Value}(hj:∀b,J X (nI [] (.slice (some ⟨b,0,none⟩) 2 2) [(b,.cells ⟨[z,z]⟩ E (0,0))] o))(hv:fG X.n (msV X.P X.n) o=some (E,[z]):=by kernel_rfl)(hB:ek [] o=some []:=by kernel_rfl):J X o:=by
 refine jS (Φ:=fun v L'=>∃b,v= .slice (some ⟨b,0,none⟩) 2 2∧L'=[(b,.cells ⟨[z,z]⟩ E (0,0))]) [] [] hv hB (fun p e hf=>?_) (fun v L' qE=>?_)
 ·unfold msV at hf
  split at hf<;>try (cases hf;done)
  rename_i T x y ay
  split at hf<;>try (cases hf;done)
  rename_i E' _ _ _ dZ
  split at hf<;>try (cases hf;done)
  rename_i te uw
  split at hf<;>try (cases hf;done)
  rename_i a b hx hy
  cases hc:((decide (a=2)&&decide (b=2))&&(Nat.beq te.size 1&&Nat.ble (tQ X.P E') 65536)) with
  |false=>rw[hc] at hf;cases hf
  |true=>
   rw[hc] at hf
   simp only[cond_true,Option.some.injEq,Prod.mk.injEq] at hf
   obtain⟨rfl,hz⟩:=hf
   simp only[Bool.and_eq_true,decide_eq_true_eq,Nat.beq_eq,Nat.ble_eq] at hc
   obtain⟨⟨rfl,rfl⟩,vu,hby⟩:=hc
   obtain⟨byT,tf⟩:=ar dZ
   obtain⟨bx,ku⟩:=ar uw
   obtain⟨i,hi,hi1,Ua,hi3⟩:=ku.info
   have amm:bx≤65536:=by simp only[tQ,hi] at hby;omega
   have au9:¬((bx:Int)*2>2^48):=by omega
   have w2:IntKind.i64.wrap 2=2:=kT 2 (by omega)
   have iZ:(Oh [z] te.agg).cells=⟨[z]⟩:=by rw[←hz];exact eE ku
   have He:((Array.range ((2:Int).toNat*1)).map fun x=>(⟨[z]⟩:Array Value)[x % (⟨[z]⟩:Array Value).size]!)=⟨[z,z]⟩:=by apply Array.ext';simp[Nat.mod_one,List.range,List.range.loop]
   refine⟨by rw[ay];simp,fun R Q E hQ=>?_⟩
   simp only[execOp,ay,Instr.makeSlice,aE hx,aE hy,asInt,asIntOf,aa,aX tf,ae,nU hi,Ua,w2,au9,show ¬((2:Int) <0) by omega,show ¬((2:Int)>2) by omega,decide_false,Bool.or_self,Bool.false_eq_true,if_false]
   refine sW ?_
   simp only[aa,cg ku,vu,show ¬((2:Int).toNat*1=0) by decide,if_false,kI ku,ae,hz,iZ,He,jO]
   intro b hb
   exact hQ _ _ ⟨b,rfl,rfl⟩
 obtain⟨b,rfl,rfl⟩:=qE
 exact hj b
def anh(body:Code):Option JS→Option (JS×Nat)
 |some ⟨.fin .normal,e,.b c oc:: .b b (.loop r)::w,kn⟩=>match r.state with
  | .ready=>some (⟨.code body [],e,.b c oc:: .b b (.loop {r with state:= .busy})::w,kn⟩,b)
  |_=>none
 |_=>none
theorem aBv{ro:Nat→Option Obj}(h:J (X.re bl ro Φ) (EJ (anh body o)))(h1:SH (anh body o)=some bl:=by kernel_rfl):J (X.rd bl ro Φ body) o:=by
 unfold anh at h h1
 split at h<;>try (unfold EJ at h;exact h.elim)
 rename_i e c oc b r w kn
 split at h<;>try (unfold EJ at h;exact h.elim)
 rename_i bO
 unfold SH at h1
 unfold EJ at h
 simp only[bO,Option.some.injEq] at h1
 subst h1
 intro bR
 have hw:=h bR
 simp only[JP,Cx.rd,HY,Df]
 refine⟨[(c,oc)],r,den w,by rw[iX,iX];rfl,bO,?_⟩
 simp only[JP,iX] at hw
 exact hw
theorem aBq{hm:P.follows .mixedOrders=true}{ro:Nat→Option Obj}(own:List Sg)(kn:Cells)(hk:Knows ro kn)(h:J (XM P hm f ro R) (lI P f args own kn)):Fn (CP P) P f ⟨args⟩ ⟨ro,den own⟩ R:=by
 unfold lI at h
 split at h<;>try exact h.elim
 rename_i fn hf
 split at h<;>try exact h.elim
 rename_i c hc
 cases hl:Nat.ble args.length fn.ntmps with
 |false=>rw[hl] at h;exact h.elim
 |true=>
  rw[hl] at h
  have u1:tC P f=fn:=by simp only[tC,hf]
  have:=h hk
  simp only[JP,XM,KQ,u1] at this
  refine KJ fg hf hc ?_
  have he:=lh args fn.ntmps (Nat.le_of_ble_eq_true hl)
  rw[←he] at this
  exact this
section
variable {X:Cx} {o:Option JS}
theorem aPl(hq:QM X R uI)(v:Value)(pm hs ps:List Nat)(Y:Cells)(fT:Sub pS X.ro)(hR:R (.returned v) ⟨pS,Y⟩)(h0:ek pm o=some (mk uI):=by kernel_rfl)(h1:tA (ky X.P X.n X.fn hs (C4 pm o))=some v:=by kernel_rfl)(h2:R8 (ky X.P X.n X.fn hs (C4 pm o))=R7 (ky X.P X.n X.fn hs (C4 pm o)):=by kernel_rfl)(h3:ek ps (C4 pm o)=some Y:=by kernel_rfl)(h4:CW o=true:=by kernel_rfl):J X o:=by
 obtain⟨ex,e,w,kn,rfl,hex⟩:=tE h4
 simp only[C4,ky] at h1 h2 h3
 cases hr:BX X.P X.n e (dK pm 0 w) kn.c hs (tC X.P X.fn).results.toList with
 |none=>simp only[hr,tA] at h1;cases h1
 |some x=>
  rcases x with ⟨vs,q⟩
  simp only[hr,tA,Option.some.injEq,R8,R7] at h1 h2
  intro bR
  have sC:=tW bR hr (mO h2)
  have hp:=bD h3
  have Ii:=O5 (s0:=⟨pS,Y⟩) (R:=R) hex sC h1 (dY hp fT) hR
  have ht:bL X.P (results (tC X.P X.fn) (A X.n e X.D).tmps) ⟨X.ro,den (dK pm 0 w)⟩ (fun v s'=>∃s0,s0.le s'∧R (.returned v) s0) (fun _ _=>False):=by
   rcases hex with rfl|rfl<;>exact Ii.2
  show X.Q ex (A X.n e X.D) ⟨X.ro,den w⟩
  rw[hq.q]
  have hm:∃uI rest,(A X.n e X.D).defers=uI.map eG∧(den w).Perm (mk uI++rest)∧bL X.P (results (tC X.P X.fn) (A X.n e X.D).tmps) ⟨X.ro,rest⟩ (fun v s'=>∃s0,s0.le s'∧R (.returned v) s0) (fun _ _=>False):=⟨uI,_,hq.d,bD h0,ht⟩
  rcases hex with rfl|rfl<;>exact hm
end
attribute [irreducible] mrV nmV enV uZ msV anh
end Go.L
