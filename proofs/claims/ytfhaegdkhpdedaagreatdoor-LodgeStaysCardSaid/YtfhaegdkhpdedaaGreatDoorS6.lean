/- Part 6 of the proof. -/
import Derived.Test.YtfhaegdkhpdedaaGreatDoorS5
import Derived.Lib.UnsafeStr
set_option maxRecDepth 100000
set_option maxHeartbeats 4000000
set_option linter.all false
namespace Go.L
open Go Go.Conc
variable {ro xd:Nat→Option Obj} {R:Ending→St→Prop} {Φ:Value→Cells→Prop} {f:FuncId} {κ ι α β:Type} {args z l vs ca:List Value} {todo seen Cn:List Nat} {T E t:TypeId} {n sz i dP r dep off id ck bl it:Nat} {o o1:Option JS} {e:Env} {b:ByteArray} {p:Oper} {tm:Array Value} {C:Class} {ag main:Bool} {cs:List Frame} {fn:Func} {ae bd body:Code} {bW:Option Nat} {hi:Option Int} {X1:Cx} {s':St} {fr:Cells}
def yx(P:Program)(f:FuncId):Func:=match P.funcs[f]? with
 |some fn=>fn
 |none=>default
abbrev RX(ro:Nat->Option Obj)(Φ:Value->Cells->Prop):Ending->St->Prop:=λen s'=>∃v X,en= .returned v/\s'=⟨ro,X⟩/\Φ v X
def X0(P:Program)(hm:P.follows .mixedOrders=true)(f:FuncId)(ro:Nat->Option Obj)(R:Ending->St->Prop):Cx:=⟨P,CP P,kJ,hm,f,none,(yx P f).ntmps,[],ro,zv P (yx P f) R⟩
def pJ(P:Program)(f:FuncId)(args:List Value)(own:List Sg)(kn:Cells):Option JS:=match P.funcs[f]? with
 |some fn=>match fn.body with
  |some c=>bif Nat.ble args.length fn.ntmps then some ⟨.code c [],mE 0 args,own,⟨kn,[]⟩⟩ else none
  |none=>none
 |none=>none
def bdS{P:Program}{hm:P.follows .mixedOrders=true}(own:List Sg)(kn:Cells)(hk:Knows ro kn)(h:J (X0 P hm f ro R) (pJ P f args own kn)):Fn (CP P) P f ⟨args⟩ ⟨ro,den own⟩ R:=by
 unfold pJ at h;split at h<;>try exact h.elim
 rename_i fn hf;split at h<;>try exact h.elim
 rename_i c hc;cases hl:Nat.ble args.length fn.ntmps with
 |false=>rw[hl] at h;exact h.elim
 |true=>
  rw[hl] at h;have C4:yx P f=fn:=by simp only[yx,hf]
  have:=h hk;simp only[JP,X0,KQ,C4] at this;exact abB kJ hf hc rfl hl this
def dB{P:Program}(hm:P.follows .mixedOrders=true){L:Cells}(own:List Sg)(kn:Cells)(hk:Knows ro kn)(h:J (X0 P hm f ro (RX ro Φ)) (pJ P f args own kn))(hL:den own=L:=by rfl):eT P f args ro L Φ:=by
 subst hL;exact bdS own kn hk h
def J6(P:Program)(n:Nat)(e:Env)(w:List Sg)(kn:Cells):List Nat->List ResultVar->Option (List Value×List (Nat×Nat))
 |_,[]=>some ([],[])
 |hs,.tmp t::rs=>match dv n e (.tmp t) with
  |some v=>match J6 P n e w kn hs rs with
   |some (vs,q)=>some (v::vs,q)
   |none=>none
  |none=>none
 |h::hs,.cell t T::rs=>match dv n e (.tmp t) with
  |some (.pointer (some ⟨b,off,none⟩))=>match Jd w kn h with
   |some (b',l)=>match ldv P T l off with
    |some v=>match J6 P n e w kn hs rs with
     |some (vs,q)=>some (v::vs,(b',b)::q)
     |none=>none
    |none=>none
   |none=>none
  |_=>none
 | [],.cell _ _::_=>none
def nG(P:Program)(n:Nat)(f:FuncId)(hs:List Nat):Option JS->Option (Value×List (Nat×Nat))
 |some ⟨.fin _,e,w,kn⟩=>match J6 P n e w kn.c hs (yx P f).results.toList with
  |some (vs,q)=>some (DO vs,q)
  |none=>none
 |_=>none
def yY:Option (Value×List (Nat×Nat))->Option Value
 |some (v,_)=>some v
 |none=>none
def Yx:Option (Value×List (Nat×Nat))->List Nat
 |some (_,q)=>afr q
 |none=>[0]
def Yw:Option (Value×List (Nat×Nat))->List Nat
 |some (_,q)=>ads q
 |none=>[1]
def BI{X:Cx}{w:List Sg}{kn:Cells}(ep:Knows X.ro kn):∀ {hs:List Nat} {rs:List ResultVar} {vs:List Value} {q:List (Nat×Nat)},J6 X.P X.n e w kn hs rs=some (vs,q)->(∀p∈q,p.1=p.2)->NZ X.P ⟨X.ro,den w⟩ X.n e rs vs
 |_,[],vs,q,h,_=>by simp only[J6,aB,bL] at h;obtain⟨rfl,rfl⟩:=h;exact .nil
 |hs,.tmp t::rs,vs,q,h,hq=>by
  simp only[J6] at h;split at h<;>try (cases h;done)
  rename_i v hv;split at h<;>try (cases h;done)
  rename_i wy q' hr;simp only[aB,bL] at h;obtain⟨rfl,rfl⟩:=h;exact .tmp hv (BI ep hr hq)
 | [],.cell _ _::_,vs,q,h,_=>by simp only[J6] at h;cases h
 |h0::hs,.cell t T::rs,vs,q,h,hq=>by
  simp only[J6] at h;split at h<;>try (cases h;done)
  rename_i b off hv;split at h<;>try (cases h;done)
  rename_i b' l hc;split at h<;>try (cases h;done)
  rename_i v hld;split at h<;>try (cases h;done)
  rename_i wy q' hr;simp only[aB,bL] at h;obtain⟨rfl,rfl⟩:=h;have hb:b'=b:=hq _ dQ;subst hb;obtain⟨t',fz,hh⟩:=HA (X:=X) ep hc;have ih:=BI ep hr λp hp=>hq p (cb _ hp);unfold ldv at hld;split at hld<;>try (cases hld;done)
  rename_i ti iy;obtain⟨dP,tf⟩:=bA iy;cases ha:ti.agg with
  |true=>
   rw[ha] at hld tf;simp only[cG] at hld;split at hld<;>try (cases hld;done)
   rename_i vs2 hvs;cases hld;exact .agg tf hv ⟨_,_,_,hh,hvs⟩ ih
  |false=>
   rw[ha] at hld tf;simp only[jI] at hld;exact .cell tf hv ⟨_,_,_,hh,hld⟩ ih
def Hr:Option JS->Bool
 |some ⟨.fin .ret,_,_,_⟩=>true
 |some ⟨.fin .normal,_,_,_⟩=>true
 |_=>false
theorem Bi(h:Hr o=true):∃ex e w kn,o=some ⟨.fin ex,e,w,kn⟩/\(ex= .ret\/ex= .normal):=by
 unfold Hr at h
 grind
def apt:Option JS->Bool
 |some ⟨.ops ..,_,_,_⟩=>true
 |some ⟨.code ..,_,_,_⟩=>true
 |_=>false
structure QR(X:Cx)(R:Ending->St->Prop):Prop where
 q:X.Q=zv X.P (yx X.P X.fn) R
 d:X.D=[]
def q0{P:Program}{hm:P.follows .mixedOrders=true}:QR (X0 P hm f ro R) R:=⟨rfl,rfl⟩
theorem QR.a{X:Cx}(h:QR X R):QR (X.at ro) R:=⟨h.q,h.d⟩
theorem de:Knows ro []:=λ_ h=>by grind
section
variable {X:Cx} {o:Option JS}
def cd(hq:QR X R)(v:Value)(hs ps:List Nat)(Y:Cells)(lO:Sub xd X.ro)(hR:R (.returned v) ⟨xd,Y⟩)(h1:yY (nG X.P X.n X.fn hs o)=some v:=by kernel_rfl)(h2:Yx (nG X.P X.n X.fn hs o)=Yw (nG X.P X.n X.fn hs o):=by kernel_rfl)(h3:fV ps o=some Y:=by kernel_rfl)(h4:Hr o=true:=by kernel_rfl):J X o:=by
 obtain⟨ex,e,w,kn,rfl,hex⟩:=Bi h4;simp only[nG] at h1 h2;cases hr:J6 X.P X.n e w kn.c hs (yx X.P X.fn).results.toList with
 |none=>rw[hr] at h1;cases h1
 |some x=>
  rcases x with ⟨vs,q⟩
  simp only[hr,yY,aB,Yx,Yw] at h1 h2;intro ep;have An:=BI ep hr (sE h2);have hp:=dS h3;show X.Q ex (A X.n e X.D) ⟨X.ro,den w⟩;rw[hq.q,hq.d];exact Zm (s0:=⟨xd,Y⟩) hex An h1 (gM hp lO) hR
def yE(X:Cx)(K:Act->St->Prop)(ef:ι->Env)(wf:ι->List Sg)(Inv:ι->Prop)(μ:ι->Nat)(m:Nat):Prop:=
 ∀j,Inv j->μ j <m->∀(e:Env) (s:St),qN e (ef j)->(⟨X.ro,den (wf j)⟩:St).le s->K (A X.n e X.D) s
def Gb:List Nat->List (Act->St->Prop)->Code->List KI->Option (Code×List KI)
 | [],_,c,k=>some (c,k)
 |0::p,Ks,.seq a b,k=>Gb p Ks a (.seq b::k)
 |1::p,Ks,.seq _ b,k=>Gb p Ks b k
 |2::p,K::Ks,.seq a _,k=>Gb p Ks a (.next K::k)
 |_::p,Ks,.block id c,k=>Gb p Ks c (.block id::k)
 |_::p,Ks,.scope c,k=>Gb p Ks c k
 |0::p,Ks,.cond _ a _,k=>Gb p Ks a k
 |_::p,Ks,.cond _ _ b,k=>Gb p Ks b k
 |_::p,K::Ks,.loop c,k=>Gb p Ks c (.next K::k)
 |_::p,Ks,.rangeFunc _ _ _ b,_=>Gb p Ks b []
 |_,_,_,_=>none
def Td(P:Program)(f:FuncId)(p:List Nat)(Ks:List (Act->St->Prop)):Option (Code×List KI):=match (yx P f).body with
 |some c=>Gb p Ks c []
 |none=>none
def stC(e:Env)(w:List Sg):Option (Code×List KI)->Option JS
 |some (c,k)=>some ⟨.code c k,e,w,⟨[],[]⟩⟩
 |none=>none
def stW(P:Program)(f:FuncId)(p:List Nat)(Ks:List (Act->St->Prop))(e:Env)(w:List Sg):Option JS:=stC e w (Td P f p Ks)
def Gw:Option JS->Option (Code×List KI)
 |some ⟨.code c k,_,_,_⟩=>some (c,k)
 |_=>none
def lpB(K:Act->St->Prop):Option (Code×List KI)->Option (Code×List KI)
 |some (.loop c,k)=>some (c,.next K::k)
 |_=>none
def iz(p:List Nat)(Ks:List (Act->St->Prop))(ef:ι->Env)(wf:ι->List Sg)(Inv:ι->Prop)(μ:ι->Nat)(i0:ι)(h0:Inv i0)(ps:List Nat)(hb:∀i,Inv i->∀K,yE X K ef wf Inv μ (μ i)->∀rest,J X (stW X.P X.fn p (Ks++[K]) (ef i++rest) (wf i)))
 (h1:tj (ql (ef i0)) o=some (ef i0):=by kernel_rfl)(hd:∀i,lkE (ql (ef i)) (ef i)=some (ef i):=by intro _;kernel_rfl)(h2:wT ps o=some (wf i0):=by kernel_rfl)(hp:∀K,Td X.P X.fn p (Ks++[K])=lpB K (Gw o):=by intro _;kernel_rfl):J X o:=by
 have hT:∀i,yE X (λ_ _=>True) ef wf Inv μ (μ i):=λ_ _ _ _ _ _ _ _=>trivial;have bad:∀(K:Act->St->Prop),lpB K (Gw o)=none->(∀i,yE X K ef wf Inv μ (μ i))->J X o:=λK h hK=>by
  have:=hb i0 h0 K (hK i0) [];simp only[stW,hp,h,stC] at this;exact this.elim
 cases o with
 |none=>exact bad _ rfl hT
 |some s=>
  rcases s with ⟨q,e,w,kn⟩
  cases q with
  |code c k=>
   cases c with
   |loop c=>
    intro ep;refine amk X.hC ef (λi=>⟨X.ro,den (wf i)⟩) Inv μ i0 h0 (qE (by rw[Bb] at h1;exact h1)) (qE (hd i0)) (gM (rR h2) (Sub.refl _)) λi hi rest=>?_;have:=hb i hi _ (λj hj hm e s hc hle=>awB j hj hm hc (qE (hd j)) hle) rest;simp only[stW,hp,Gw,lpB,stC] at this;exact this λ_ h=>(fF h).elim
   |_=>exact bad _ rfl hT
  |_=>exact bad _ rfl hT
def VV:Option JS->Option (Act->St->Prop)
 |some ⟨.nxt K,_,_,_⟩=>some K
 |_=>none
def dX{K:Act->St->Prop}{ef:ι->Env}{wf:ι->List Sg}{Inv:ι->Prop}{μ:ι->Nat}{m:Nat}(hK:yE X1 K ef wf Inv μ m)(j:ι)(h:Inv j)(hm:μ j <m)(ps:List Nat)(hs:Sub X1.ro X.ro)
 (h0:VV o=some K:=by kernel_rfl)(h1:tj (ql (ef j)) o=some (ef j):=by kernel_rfl)(h2:wT ps o=some (wf j):=by kernel_rfl)(hn:X1.n=X.n:=by rfl)(hD:X1.D=X.D:=by rfl):J X o:=by
 unfold VV at h0;split at h0<;>try (cases h0;done)
 rename_i K' e w kn;cases h0;intro _;rw[Bb] at h1;have:=hK j h hm e _ (qE h1) (gM (rR h2) hs);rw[hn,hD] at this;exact this
def gS:List (List Nat)->List Sg->Option (List Cells)
 | [],_=>some []
 |p::r,w=>match ZJ p w with
  |some x=>match gS r w with
   |some y=>some (den x::y)
   |none=>none
  |none=>none
def gO(ps:List (List Nat)):Option JS->Option (List Cells)
 |some s=>bif PN ps.flatten then gS ps s.rw else none
 |none=>none
def adB:List Sg->List Cells
 | []=>[]
 |x::w=>den [x]::adB w
theorem O3:∀(w:List Sg),(adB w).flatten=den w
 | []=>rfl
 | .b i o::w=>by simp[adB,O3 w];rfl
 | .l L::w=>by simp[adB,lG,O3 w];rfl
theorem ag1:∀ {a b:List Nat} {w x y:List Sg},ZJ a w=some x->ZJ b w=some y->ZJ (a++b) w=some (x++y)
 | [],b,w,x,y,h,h2=>by grind [ZJ,aB]
 |i::a,b,w,x,y,h,h2=>by
  simp only[ZJ] at h;split at h<;>try (cases h;done)
  rename_i z hz;split at h<;>try (cases h;done)
  rename_i r hr;cases h;simp only[dK,ZJ,hz,ag1 hr h2]
theorem aCk:∀ {ps:List (List Nat)} {w:List Sg} {l:List Cells},gS ps w=some l->∃z,ZJ ps.flatten w=some z/\den z=l.flatten
 | [],w,l,h=>by simp only[gS,aB] at h;subst h;exact⟨[],rfl,rfl⟩
 |p::r,w,l,h=>by
  simp only[gS] at h;split at h<;>try (cases h;done)
  rename_i x hx;split at h<;>try (cases h;done)
  rename_i y hy;cases h;obtain⟨z,h1,h2⟩:=aCk hy;exact⟨x++z,by simpa using ag1 hx h1,by simp[rH,h2]⟩
theorem B0{K:Act->St->Prop}{ef:ι->Env}{wf:ι->List Sg}{Inv:ι->Prop}{μ:ι->Nat}{m:Nat}(hK:yE X1 K ef wf Inv μ m)(j:ι)(h:Inv j)(hm:μ j <m)(ps:List (List Nat))(hs:Sub X1.ro X.ro)
 (h0:VV o=some K:=by kernel_rfl)(h1:tj (ql (ef j)) o=some (ef j):=by kernel_rfl)(h2:gO ps o=some (adB (wf j)):=by kernel_rfl)(hn:X1.n=X.n:=by rfl)(hD:X1.D=X.D:=by rfl):J X o:=by
 unfold VV at h0;split at h0<;>try (cases h0;done)
 rename_i K' e w kn;cases h0;intro _;rw[Bb] at h1;have hp:(den w).Perm (den (wf j)++den (gG ps.flatten 0 w)):=by
  grind [gO,PN,aCk,O3,E1]
 have:=hK j h hm e ⟨X.ro,den w⟩ (qE h1) (gM hp hs);rw[hn,hD] at this;exact this
def aWb:Option (Code×List KI)->Option (Code×List KI)
 |some (_,.seq y::k)=>some (y,k)
 |_=>none
def aKd(K:Act->St->Prop):Option JS->Option JS
 |some ⟨.code x (.seq _::k),e,w,kn⟩=>some ⟨.code x (.next K::k),e,w,kn⟩
 |_=>none
def Yk(p:List Nat)(Ks:List (Act->St->Prop))(ef:ι->Env)(wf:ι->List Sg)(Inv:ι->Prop)(hj:∀i,Inv i->∀rest,J X (stW X.P X.fn p Ks (ef i++rest) (wf i)))(h:∀K,yE X K ef wf Inv (λ_=>0) 1->J X (aKd K o))(hd:∀i,lkE (ql (ef i)) (ef i)=some (ef i):=by intro _;kernel_rfl)(hp:Td X.P X.fn p Ks=aWb (Gw o):=by kernel_rfl):J X o:=by
 unfold aKd at h;split at h
 .rename_i x y k e w kn;intro ep;refine h (λa s=>Wp X.C X.fn X.bW y (KQ X k) a s) (λj hI _ e s hc hle=>?_) ep;obtain⟨r,hr⟩:=lP (n:=X.n) (D:=X.D) hc (qE (hd j));rw[hr];have:=hj j hI r;simp only[stW,hp,Gw,aWb,stC] at this;exact(this λ_ h=>(fF h).elim).more X.hC hle
 exact(h (λ_ _=>True) λ_ _ _ _ _ _ _=>trivial).elim
def expand:Cells->List Sg
 | []=>[]
 |x::l=> .b x.1 x.2::expand l
def afD:Nat->List Sg->List Sg
 |_,[]=>[]
 |0,.l L::w=>expand L++w
 |0,x::w=>x::w
 |i+1,x::w=>x::afD i w
def agi{kn:Kn}{w w':List Sg}{p:Pos}(h:den w'=den w)(hj:JP X kn e w' p):JP X kn e w p:=by
 simp_all[JP]
def aUT(i:Nat):Option JS->Option JS
 |some s=>some {s with rw:=afD i s.rw}
 |none=>none
def aiu:List Sg->Cells
 | []=>[]
 | .b i o::w=>(i,o)::aiu w
 | .l _::w=>aiu w
def Fx:∀ {w:List Sg} {x:Nat×Obj},x∈aiu w->x∈den w
 | .b i o::w,x,h=>by
  rw[p7];rcases aN.1 h with rfl|h
  .exact dQ
  exact cb _ (Fx h)
 | .l L::w,x,h=>by rw[lG];exact gD _ (Fx (w:=w) h)
def ayz(ps:List Nat):Option JS->Option JS
 |some s=>match ZJ ps s.rw with
  |some w=>some {s with rw:=gG ps 0 s.rw,kn:=⟨aiu w++s.kn.c,s.kn.nd⟩}
  |none=>none
 |none=>none
theorem Nh{X:Cx}{bU:Nat->Option Obj}:∀(k:List KI),KQ (X.at bU) k=KQ X k
 | []=>rfl
 | .seq _::k=>by simp only[KQ,Nh k];rfl
 | .block _::k=>by simp only[KQ,Nh k]
 | .next _::k=>by simp only[KQ,Nh k]
def jf(ps:List Nat)(L:Cells)(h:∀bU,Sub X.ro bU->Knows bU L->J (X.at bU) (ayz ps o))(h2:fV ps o=some L:=by kernel_rfl)(hp:apt o=true:=by kernel_rfl):J X o:=by
 have hpk:∀ {s:JS},fV ps (some s)=some L->∃w,ZJ ps s.rw=some w/\den w=L:=by
  intro s hs;simp only[fV,wT] at hs;cases hk:PN ps with
  |false=>rw[hk] at hs;cases hs
  |true=>
   rw[hk] at hs;simp only[cG] at hs;split at hs<;>try (cases hs;done)
   rename_i w hw;cases hs;exact⟨w,hw,rfl⟩
 unfold apt at hp;split at hp
 .rename_i ops todo k e w kn;intro ep;obtain⟨w1,hw1,rfl⟩:=hpk h2;refine ad2 X.hC (dS h2) λbU hs hk=>?_;have:=h bU hs hk;simp only[ayz,hw1] at this;have:=this (λx hx=>(bJ.1 hx).elim (λhx=>hk x (Fx hx)) λhx=>hs _ _ (ep x hx));simp only[JP,Nh] at this;exact this
 .rename_i c k e w kn;intro ep;obtain⟨w1,hw1,rfl⟩:=hpk h2;refine aiL X.hC (dS h2) λbU hs hk=>?_;have:=h bU hs hk;simp only[ayz,hw1] at this;have:=this (λx hx=>(bJ.1 hx).elim (λhx=>hk x (Fx hx)) λhx=>hs _ _ (ep x hx));simp only[JP,Nh] at this;exact this
 cases hp
def geO:Option JS->Option JS
 |some s=>some {s with rw:= .l []::s.rw}
 |none=>none
def uI(h:J X (geO o)):J X o:=by
 cases o with
 |none=>exact h
 |some s=>exact λep=>agi (by simp[lG]) (h ep)
def sgS:Nat->List Sg->List Sg->List Sg
 |_,_,[]=>[]
 |0,l,_::w=>l++w
 |i+1,l,x::w=>x::sgS i l w
def agM{l:List Sg}:∀ {i:Nat} {w:List Sg} {x:Sg},Il w i=some x->den [x]=den l->den (sgS i l w)=den w
 |_,[],_,h,_=>by cases h
 |0,y::w,x,h,hd=>by
  simp only[Il,aB] at h;subst h;have:den (y::w)=den [y]++den w:=by rw[<-rH];rfl
  rw[this,hd,<-rH];rfl
 |i+1,y::w,x,h,hd=>by
  have:=agM (w:=w) (i:=i) h hd;cases y<;>simp[sgS,p7,lG,this]
def sgO(i:Nat)(l:List Sg):Option JS->Option JS
 |some s=>some {s with rw:=sgS i l s.rw}
 |none=>none
theorem jg(i:Nat)(l:List Sg)(h:J X (sgO i l o))(h2:fV [i] o=some (den l):=by kernel_rfl):J X o:=by
 cases o with
 |none=>exact h
 |some s=>
  have hn:∃x,Il s.rw i=some x/\den [x]=den l:=by
   grind [fV,wT,PN,dI,ZJ]
  obtain⟨x,hx,hd⟩:=hn;exact λep=>agi (agM hx hd) (h ep)
theorem jmw(i:Nat)(l:List Sg){L:Cells}(h:L=den l)(hj:J X (sgO i l o))(h2:fV [i] o=some L:=by kernel_rfl):J X o:=by
 grind [jg]
end
def Cx.wd(X:Cx)(D:List Deferred):Cx:={X with D:=D}
theorem acu{X:Cx}{D:List Deferred}:∀(k:List KI),KQ (X.wd D) k=KQ X k
 | []=>rfl
 | .seq _::k=>by simp only[KQ,acu k];rfl
 | .block _::k=>by simp only[KQ,acu k]
 | .next _::k=>by simp only[KQ,acu k]
def Ox(X:Cx)(K:Act->St->Prop)(ef:ι->Env)(wf:ι->List Sg)(df:ι->List Deferred)(Inv:ι->Prop)(μ:ι->Nat)(m:Nat):Prop:=
 ∀j,Inv j->μ j <m->∀(e:Env) (s:St),qN e (ef j)->(⟨X.ro,den (wf j)⟩:St).le s->K (A X.n e (df j)) s
section
variable {X:Cx} {o:Option JS}
def aml{fn:FuncId}{Q:Post}{env:Env}{s:St}(hC:∀main T,C main T->Closed X.P main T)(yZ:ι->Env)(sf:ι->St)(df:ι->List Deferred)(Inv:ι->Prop)(μ:ι->Nat){c:Code}(i0:ι)(h0:Inv i0)(hc:qN env (yZ i0))(hd:∀i,qN (yZ i) (yZ i))(hs:(sf i0).le s)
 (round:∀i,Inv i->∀rest,Wp C fn bW c (su (λa s=>∃j,Inv j/\μ j <μ i/\(∃e,qN e (yZ j)/\a=A n e (df j))/\(sf j).le s) Q) (A n (yZ i++rest) (df i)) (sf i)):Wp C fn bW (.loop c) Q (A n env (df i0)) s:=by
 obtain⟨r0,zi⟩:=lP (n:=n) (D:=df i0) hc (hd i0);rw[zi];intro main T hT b k cs h1 h2 h3 h4;have key:∀m i rest s,μ i=m->Inv i->(sf i).le s->T (G (dJ b (A n (yZ i++rest) (df i)) (.code c:: .inLoop c::k)) cs) s:=by
  intro m
  induction m using Nat.strongRecOn with
  |_ m ih=>
   intro i rest s hm hI hle;refine(hC main T hT).mono _ _ _ hle ?_;refine round i hI rest main T hT b (.inLoop c::k) cs h1 h2 h3 λe a' s' q=>?_;cases e with
   |normal=>
    obtain⟨j,Cb,ei,⟨e,he,rfl⟩,FW⟩:=q;obtain⟨anK,hr⟩:=lP (n:=n) (D:=df j) he (hd j);rw[hr];exact(hC main T hT).go rfl rfl (g':=G (dJ b _ (.code c:: .inLoop c::k)) cs) (λw=>by simp[G,stepG,stepG.exec,dJ]) (ih _ (hm▸ei) j anK s' rfl Cb FW)
   |exit id=>exact(h4 _ _ _ q).push rfl (by simp)
   |ret=>exact(h4 _ _ _ q).push (x:= .inLoop c) rfl (by simp)
   |panic ch=>exact(h4 _ _ _ q).push (x:= .inLoop c) rfl (by simp)
   |goto l=>exact(h4 _ _ _ q).elim
   |outgrown=>exact(h4 _ _ _ q).elim
 exact(hC main T hT).go rfl rfl (λw=>by simp[G,stepG,stepG.exec,dJ]) (key _ i0 r0 s rfl h0 hs)
def aRz(p:List Nat)(Ks:List (Act->St->Prop))(ef:ι->Env)(wf:ι->List Sg)(df:ι->List Deferred)(Inv:ι->Prop)(μ:ι->Nat)(i0:ι)(h0:Inv i0)(ps:List Nat)(hb:∀i,Inv i->∀K,Ox X K ef wf df Inv μ (μ i)->∀rest,J (X.wd (df i)) (stW X.P X.fn p (Ks++[K]) (ef i++rest) (wf i)))
 (h1:tj (ql (ef i0)) o=some (ef i0):=by kernel_rfl)(hd:∀i,lkE (ql (ef i)) (ef i)=some (ef i):=by intro _;kernel_rfl)(h2:wT ps o=some (wf i0):=by kernel_rfl)(hp:∀K,Td X.P X.fn p (Ks++[K])=lpB K (Gw o):=by intro _;kernel_rfl)(hD:X.D=df i0:=by rfl):J X o:=by
 have hT:∀i,Ox X (λ_ _=>True) ef wf df Inv μ (μ i):=λ_ _ _ _ _ _ _ _=>trivial;have bad:∀(K:Act->St->Prop),lpB K (Gw o)=none->(∀i,Ox X K ef wf df Inv μ (μ i))->J X o:=λK h hK=>by
  have:=hb i0 h0 K (hK i0) [];simp only[stW,hp,h,stC] at this;exact this.elim
 cases o with
 |none=>exact bad _ rfl hT
 |some s=>
  rcases s with ⟨q,e,w,kn⟩
  cases q with
  |code c k=>
   cases c with
   |loop c=>
    intro ep;show Wp X.C X.fn X.bW (.loop c) (KQ X k) (A X.n e X.D) ⟨X.ro,den w⟩;rw[hD];refine aml (X:=X) X.hC ef (λi=>(⟨X.ro,den (wf i)⟩:St)) df Inv μ i0 h0 (qE (by rw[Bb] at h1;exact h1)) (λi=>qE (hd i)) (gM (rR h2) (Sub.refl _)) λi hi rest=>?_;have:=hb i hi (λa s=>∃j,Inv j/\μ j <μ i/\(∃e,qN e (ef j)/\a=A X.n e (df j))/\(⟨X.ro,den (wf j)⟩:St).le s) (λj hj hm e s hc hle=>⟨j,hj,hm,⟨e,hc,rfl⟩,hle⟩) rest;simp only[stW,hp,Gw,lpB,stC] at this;have:=this λ_ h=>(fF h).elim;simp only[JP,KQ,acu] at this;exact this
   |_=>exact bad _ rfl hT
  |_=>exact bad _ rfl hT
def jnD{K:Act->St->Prop}{ef:ι->Env}{wf:ι->List Sg}{df:ι->List Deferred}{Inv:ι->Prop}{μ:ι->Nat}{m:Nat}(hK:Ox X1 K ef wf df Inv μ m)(j:ι)(h:Inv j)(hm:μ j <m)(ps:List (List Nat))(hs:Sub X1.ro X.ro)
 (h0:VV o=some K:=by kernel_rfl)(h1:tj (ql (ef j)) o=some (ef j):=by kernel_rfl)(h2:gO ps o=some (adB (wf j)):=by kernel_rfl)(hn:X1.n=X.n:=by rfl)(hD:X.D=df j:=by rfl):J X o:=by
 have hK':yE (X1.wd (df j)) K ef wf (λi=>i=j) μ m:=λi hi hm e s hc hle=>by subst hi;exact hK _ h hm e s hc hle
 exact B0 hK' j rfl hm ps hs h0 h1 h2 hn hD.symm
end
attribute [irreducible] gO geO yx pJ aKd stW Gw Td aUT ayz sgO Hr apt nG Yx Yw yY VV
section
variable {X:Cx} {o:Option JS}
def S6(n:Nat)(p:Oper)(e:Env):Option (BinOp×TypeId×Value×Value):=match p.op with
 | .binOp op T x y _=>match dv n e x with
  |some v=>match dv n e y with
   |some w=>some (op,T,v,w)
   |none=>none
  |none=>none
 |_=>none
theorem zw{op:BinOp}{v w:Value}(h:S6 n p e=some (op,T,v,w)):∃x y T',p.op= .binOp op T x y T'/\dv n e x=some v/\dv n e y=some w:=by
 grind [S6]
def jsa{a:ByteArray}(T:TypeId)(hb:(a.size:Int)+b.size<=9223372036854775807)(hj:J X (lX (.string (a++b)) o))(hv:fp X.n (S6 X.n) o=some (.add,T,.string a,.string b):=by kernel_rfl):J X o:=by
 refine SK hv (λs p e _ hf=>?_) hj;obtain⟨x,y,T',aX,hx,hy⟩:=zw hf;rcases p with ⟨dst,op,ty,pos,gf,g⟩
 subst aX;exact λs0 ops i vJ rest hw s' hs todo Q hk=>aFv X.hC vJ hw (cO hx) (cO hy) hb hk
def jrm{k:IntKind}{a b:Int}(T:TypeId)(hb:b≠0)(hj:J X (lX (.int k (a.tmod b)) o))(hv:fp X.n (S6 X.n) o=some (.rem,T,.int k a,.int k b):=by kernel_rfl):J X o:=by
 refine SK hv (λs p e _ hf=>?_) hj;obtain⟨x,y,T',aX,hx,hy⟩:=zw hf;rcases p with ⟨dst,op,ty,pos,gf,g⟩
 subst aX;exact λs0 ops i vJ rest hw s' hs todo Q hk=>aPN X.hC vJ hw (cO hx) (cO hy) hb hk
def jsr{k k':IntKind}{a b:Int}(T:TypeId)(hb:0<=b)(hj:J X (lX (.int k (mY k a b)) o))(hv:fp X.n (S6 X.n) o=some (.shr,T,.int k a,.int k' b):=by kernel_rfl):J X o:=by
 refine SK hv (λs p e _ hf=>?_) hj;obtain⟨x,y,T',aX,hx,hy⟩:=zw hf;rcases p with ⟨dst,op,ty,pos,gf,g⟩
 subst aX;exact λs0 ops i vJ rest hw s' hs todo Q hk=>aPL X.hC vJ hw (cO hx) (cO hy) hb hk
def jsh{k k':IntKind}{a b:Int}(T:TypeId)(hb:0<=b)(hj:J X (lX (.int k (iU k a b)) o))(hv:fp X.n (S6 X.n) o=some (.shl,T,.int k a,.int k' b):=by kernel_rfl):J X o:=by
 refine SK hv (λs p e _ hf=>?_) hj;obtain⟨x,y,T',aX,hx,hy⟩:=zw hf;rcases p with ⟨dst,op,ty,pos,gf,g⟩
 subst aX;exact λs0 ops i vJ rest hw s' hs todo Q hk=>aPM X.hC vJ hw (cO hx) (cO hy) hb hk
def jeq{m:List Value}{r:Bool}(hg:Cs X.P T)(he:EqV X.P T (.agg ⟨l⟩) (.agg ⟨m⟩) r)(hj:J X (lX (.bool r) o))(hv:fp X.n (S6 X.n) o=some (.eql,T,.agg ⟨l⟩,.agg ⟨m⟩):=by kernel_rfl):J X o:=by
 refine SK hv (λs p e _ hf=>?_) hj;obtain⟨x,y,T',aX,hx,hy⟩:=zw hf;rcases p with ⟨dst,op,ty,pos,gf,g⟩
 subst aX;exact λs0 ops i vJ rest hw s' hs todo Q hk=>awt X.hC vJ hw (cO hx) (cO hy) hg he hk
def jne{m:List Value}{r:Bool}(hg:Cs X.P T)(he:EqV X.P T (.agg ⟨l⟩) (.agg ⟨m⟩) r)(hj:J X (lX (.bool !r) o))(hv:fp X.n (S6 X.n) o=some (.neq,T,.agg ⟨l⟩,.agg ⟨m⟩):=by kernel_rfl):J X o:=by
 refine SK hv (λs p e _ hf=>?_) hj;obtain⟨x,y,T',aX,hx,hy⟩:=zw hf;rcases p with ⟨dst,op,ty,pos,gf,g⟩
 subst aX;exact λs0 ops i vJ rest hw s' hs todo Q hk=>aoO X.hC vJ hw (cO hx) (cO hy) hg he hk
def Qd(P:Program)(T:TypeId):Bool:=match c9 P T with
 |some ⟨.slice _,_,_,_⟩=>true
 |_=>false
theorem Qc{P:Program}(h:Qd P T=true):∃E sz dP z ag,TF P T (.slice E) sz dP z ag:=by
 grind [Qd,bA]
def jsn{a:Option Addr}{l c:Nat}(T:TypeId)(hj:J X (lX (.bool a.isNone) o))(hv:fp X.n (S6 X.n) o=some (.eql,T,.slice a l c,.slice none 0 0):=by kernel_rfl)(hT:Qd X.P T=true:=by kernel_rfl):J X o:=by
 refine SK hv (λs p e _ hf=>?_) hj;obtain⟨x,y,T',aX,hx,hy⟩:=zw hf;obtain⟨E,sz,dP,z,ag,tf⟩:=Qc hT;rcases p with ⟨dst,op,ty,pos,gf,g⟩
 subst aX;exact λs0 ops i vJ rest hw s' hs todo Q hk=>awo X.hC vJ hw tf (cO hx) (cO hy) hk
def FP(n:Nat)(e:Env):Option Operand->Option (Option Int)
 |none=>some none
 |some x=>match dv n e x with
  |some (.int _ a)=>some (some a)
  |_=>none
def ang(P:Program)(n:Nat)(p:Oper)(e:Env):Option (ByteArray×Option Int×Option Int):=match p.op with
 | .slice T x y z none=>match c9 P T with
  |some ⟨.string,_,_,_⟩=>match dv n e x with
   |some (.string b)=>match FP n e y with
    |some lo=>match FP n e z with
     |some hi=>some (b,lo,hi)
     |none=>none
    |none=>none
   |_=>none
  |_=>none
 |_=>none
def adx(P:Program)(n:Nat)(p:Oper)(e:Env):Option (Value×Option Int×Option Int×Nat):=match p.op with
 | .slice T x y z none=>match c9 P T with
  |some ⟨.slice E,_,_,_⟩=>match c9 P E with
   |some te=>match dv n e x with
    |some v=>match FP n e y with
     |some lo=>match FP n e z with
      |some hi=>some (v,lo,hi,te.size)
      |none=>none
     |none=>none
    |none=>none
   |none=>none
  |_=>none
 |_=>none
theorem lN{x:Option Operand}{a:Int}(h:FP n e x=some (some a)):∃y k,x=some y/\dv n e y=some (.int k a):=by
 unfold FP at h
 grind
theorem A5{x:Option Operand}(h:FP n e x=some none):x=none:=by
 unfold FP at h
 grind
theorem Vq{P:Program}{lo:Option Int}(h:ang P n p e=some (b,lo,hi)):∃T x y z sz dP zz ag,p.op= .slice T x y z none/\TF P T .string sz dP zz ag/\dv n e x=some (.string b)/\FP n e y=some lo/\FP n e z=some hi:=by
 unfold ang at h;split at h<;>try (cases h;done)
 grind [bA]
def H3{P:Program}{v:Value}{lo:Option Int}{k:Nat}(h:adx P n p e=some (v,lo,hi,k)):∃T x y z E sz dP zz ag d Db z2 ag2,p.op= .slice T x y z none/\TF P T (.slice E) sz dP zz ag/\TF P E d k Db z2 ag2/\dv n e x=some v/\FP n e y=some lo/\FP n e z=some hi:=by
 unfold adx at h;split at h<;>try (cases h;done)
 rename_i aX;split at h<;>try (cases h;done)
 rename_i iy;obtain⟨dP,tf⟩:=bA iy;split at h<;>try (cases h;done)
 rename_i te wH;obtain⟨Db,tT⟩:=bA wH;split at h<;>try (cases h;done)
 rename_i hx;split at h<;>try (cases h;done)
 rename_i hy;split at h<;>try (cases h;done)
 rename_i hz;cases h;exact⟨_,_,_,_,_,_,_,_,_,_,_,_,_,aX,tf,tT,hx,hy,hz⟩
def jtH{hi:Int}(hl:0<=hi/\hi<=b.size)(hj:J X (lX (.string (b.extract 0 hi.toNat)) o))(hv:fp X.n (ang X.P X.n) o=some (b,none,some hi):=by kernel_rfl):J X o:=by
 refine SK hv (λs p e _ hf=>?_) hj;obtain⟨T,x,y,z,sz,dP,zz,ag,aX,tf,hx,hy,hz⟩:=Vq hf;have hy:=A5 hy;subst hy;obtain⟨z,k',rfl,Wn⟩:=lN hz;rcases p with ⟨dst,op,ty,pos,gf,g⟩
 dsimp only at aX;subst aX;exact λs0 ops i vJ rest hw s' hs todo Q hk=>Z5 X.hC vJ hw tf (cO hx) (cO Wn) hl hk
def jtL{lo:Int}(hl:0<=lo/\lo<=b.size)(hj:J X (lX (.string (b.extract lo.toNat b.size)) o))(hv:fp X.n (ang X.P X.n) o=some (b,some lo,none):=by kernel_rfl):J X o:=by
 refine SK hv (λs p e _ hf=>?_) hj;obtain⟨T,x,y,z,sz,dP,zz,ag,aX,tf,hx,hy,hz⟩:=Vq hf;have hz:=A5 hz;subst hz;obtain⟨y,k,rfl,ML⟩:=lN hy;rcases p with ⟨dst,op,ty,pos,gf,g⟩
 dsimp only at aX;subst aX;exact λs0 ops i vJ rest hw s' hs todo Q hk=>Z3 X.hC vJ hw tf (cO hx) (cO ML) hl hk
theorem jcH{α:Type}{v:Value}{sz:Nat}{enc:α->List Value}{ps:List α}{hi:Int}(hs:dk X.ro v sz enc ps)(hl:0<=hi/\hi<=ps.length)(hj:∀v',dk X.ro v' sz enc (ps.take hi.toNat)->J X (lX v' o))(hv:fp X.n (adx X.P X.n) o=some (v,none,some hi,sz):=by kernel_rfl):J X o:=by
 obtain⟨a,b,off,cap,rfl,h2,h3,h4⟩:=id hs;have hp:=dk.part hs (l:=0) (h:=hi.toNat) (by omega) (by omega);rw[List.drop_zero] at hp;refine SK hv (λs p e _ hf=>?_) (hj _ hp);obtain⟨T,x,y,z,E,s1,dP,zz,ag,d,Db,z2,ag2,aX,tf,tT,hx,hy,hz⟩:=H3 hf;have hy:=A5 hy;subst hy;obtain⟨z,k',rfl,Wn⟩:=lN hz;rcases p with ⟨dst,op,ty,pos,gf,g⟩
 dsimp only at aX;subst aX;intro s0 ops i vJ rest hw s' pg todo Q hk;refine eF X.hC vJ hw (by simp) ?_;have hb:0<=hi/\hi<=(cap:Int):=by omega
 have kV:(0:Int)<=0/\(0:Int)<=(hi.toNat:Int):=by omega
 rw[<-dH] at hk;simp only[execOp,Option.map_some,Option.map_none,Instr.sliceAt,Instr.slice,cg (cO (rest:=rest) hx),cg (cO (rest:=rest) Wn),aI,db tf,Instr.sliceBounds,Instr.sliceBound,asIntOf,aQ,hb,kV,and_self,if_true,eE tT];exact hk
theorem jcB{α:Type}{v:Value}{sz:Nat}{enc:α->List Value}{ps:List α}{lo hi:Int}(hs:dk X.ro v sz enc ps)(hl:0<=lo/\lo<=hi/\hi<=ps.length)(hj:∀v',dk X.ro v' sz enc ((ps.take hi.toNat).drop lo.toNat)->J X (lX v' o))(hv:fp X.n (adx X.P X.n) o=some (v,some lo,some hi,sz):=by kernel_rfl):J X o:=by
 obtain⟨a,b,off,cap,rfl,h2,h3,h4⟩:=id hs;have hp:=dk.part hs (l:=lo.toNat) (h:=hi.toNat) (by omega) (by omega);refine SK hv (λs p e _ hf=>?_) (hj _ hp);obtain⟨T,x,y,z,E,s1,dP,zz,ag,d,Db,z2,ag2,aX,tf,tT,hx,hy,hz⟩:=H3 hf;obtain⟨y,k,rfl,ML⟩:=lN hy;obtain⟨z,k',rfl,Wn⟩:=lN hz;rcases p with ⟨dst,op,ty,pos,gf,g⟩
 dsimp only at aX;subst aX;intro s0 ops i vJ rest hw s' pg todo Q hk;refine eF X.hC vJ hw (by simp) ?_;have hb:0<=hi/\hi<=(cap:Int):=by omega
 have kV:0<=lo/\lo<=(hi.toNat:Int):=by omega
 rw[<-dH] at hk;simp only[execOp,Option.map_some,Option.map_none,Instr.sliceAt,Instr.slice,cg (cO (rest:=rest) hx),cg (cO (rest:=rest) ML),cg (cO (rest:=rest) Wn),aI,db tf,Instr.sliceBounds,Instr.sliceBound,asIntOf,aQ,hb,kV,and_self,if_true,eE tT];exact hk
def lnV(P:Program)(n:Nat)(p:Oper)(e:Env):Option Value:=match p.op with
 | .call ⟨.builtin .len,⟨[x]⟩,⟨[T]⟩⟩=>bif Qd P T then dv n e x else none
 |_=>none
def jol{v:Value}{T2:TypeId}{enc:α->List Value}{ps:List α}{L:Cells}(kS:bI v sz T2 enc ps L)(hj:J X (lX (.int .i64 ps.length) o))(hv:fp X.n (lnV X.P X.n) o=some v:=by kernel_rfl):J X o:=by
 refine SK hv (λs p e _ hf=>?_) hj;unfold lnV at hf;split at hf<;>try (cases hf;done)
 rename_i x T aX;cases hT:Qd X.P T with
 |false=>rw[hT] at hf;cases hf
 |true=>
  rw[hT] at hf;simp only[cG] at hf;obtain⟨E,s1,dP,z,ag,tf⟩:=Qc hT;rcases p with ⟨dst,op,ty,pos,gf,g⟩
  dsimp only at aX;subst aX;exact λs0 ops i vJ rest hw s' hs todo Q hk=>aoP X.hC vJ hw tf (cO hf) kS hk
def SE(ps:List Nat)(v:Value)(L':Cells):Option JS->Option JS:=r8 ps v L'
theorem ahb{ops:Array Oper}{k:List KI}{w:List Sg}{kn:Kn}{ps:List Nat}{v:Value}{L':Cells}(ho:ops[i]?=some p):SE ps v L' (some ⟨.ops ops (i::todo) k,e,w,kn⟩)=some ⟨.ops ops todo k,upd p.dst v e,.l L'::gG ps 0 w,kn⟩:=by
 simp_all[SE,tF]
def avw(P:Program)(n:Nat)(p:Oper)(e:Env):Option (Addr×List Value×Nat):=match p.op with
 | .store T x y=>match c9 P T with
  |some ti=>match dv n e x with
   |some (.pointer (some a))=>match dv n e y with
    |some v=>some (a,iQ v,ti.size)
    |none=>none
   |_=>none
  |none=>none
 |_=>none
def agI{P:Program}{a:Addr}(h:avw P n p e=some (a,l,sz)):∃T x y d dP z ag v,p.op= .store T x y/\TF P T d sz dP z ag/\dv n e x=some (.pointer (some a))/\dv n e y=some v/\v.cells=⟨l⟩:=by
 unfold avw at h;split at h<;>try (cases h;done)
 rename_i aX;split at h<;>try (cases h;done)
 rename_i ti iy;obtain⟨dP,tf⟩:=bA iy;split at h<;>try (cases h;done)
 rename_i hx;split at h<;>try (cases h;done)
 rename_i hy;cases h;exact⟨_,_,_,_,_,_,_,_,aX,tf,hx,hy,by rw[sI]⟩
def jso{v:Value}{enc:α->List Value}{ps:List α}{L:Cells}{b k:Nat}{a:α}(i f:Nat)(c:List Value)(e:α)(kS:bI v sz E enc ps L)(hb:Ta v b)(hk:ps[k]?=some a) (he:enc e=gZ (enc a) f c) (h1:c.all single=true) (hf:f+c.length<=sz) (hj:∀L',bI v sz E enc (ps.set k e) L'->J X (SE [i] undef L' o)) (hv:iJ X.n (avw X.P X.n) o=some (⟨b,k*sz+f,none⟩,c,c.length):=by kernel_rfl) (h2:fV [i] o=some L:=by kernel_rfl):J X o:=by
 obtain⟨ops,i0,todo,kk,ev,w,kn,p,rfl,ho,hw,hc⟩:=gK hv;obtain⟨T,x,y,d,dP,z,ag,u,aX,tf,hx,hy,hu⟩:=agI hc;intro ep;rcases p with ⟨dst,op,ty,pos,gf,g⟩
 dsimp only at aX;subst aX;refine DR X.hC (dS h2)<|aPH X.hC ho hw tf hx hy hu rfl (List.all_eq_true.1 h1) kS hb hk he hf λL' hL'=>?_;have:=hj L' hL';rw[ahb ho] at this;have:=this ep;simp only[JP,lG] at this;exact this
def apV(P:Program)(n:Nat)(p:Oper)(e:Env):Option (Value×Value×TypeId×Nat):=match p.op with
 | .call ⟨.builtin .append,⟨[x,y]⟩,⟨[T,U]⟩⟩=>match c9 P T with
  |some ⟨.slice E,_,_,_⟩=>bif Qd P U then (match c9 P E with
   |some te=>match P.info? E with
    |some ie=>bif Nat.beq te.zero.length te.size&&Nat.ble ie.bytes 65536 then (match dv n e x with
     |some v=>match dv n e y with
      |some w=>some (v,w,E,te.size)
      |none=>none
     |none=>none) else none
    |none=>none
   |none=>none) else none
  |_=>none
 |_=>none
def aKC{P:Program}{v w:Value}(h:apV P n p e=some (v,w,E,sz)):∃x y T U s1 b1 z1 a1 E2 s2 b2 z2 a2 d dP z ag,p.op= .call ⟨.builtin .append,#[x,y],#[T,U]⟩/\TF P T (.slice E) s1 b1 z1 a1/\TF P U (.slice E2) s2 b2 z2 a2/\TF P E d sz dP z ag/\z.length=sz/\dP<=65536/\dv n e x=some v/\dv n e y=some w:=by
 unfold apV at h;split at h<;>try (cases h;done)
 rename_i x y T U aX;split at h<;>try (cases h;done)
 rename_i E' _ _ _ iy;obtain⟨b1,tf1⟩:=bA iy;cases hU:Qd P U with
 |false=>rw[hU] at h;cases h
 |true=>
  rw[hU] at h;simp only[cG] at h;obtain⟨E2,s2,b2,z2,a2,tT⟩:=Qc hU;split at h<;>try (cases h;done)
  rename_i te wH;obtain⟨b3,tf3⟩:=bA wH;split at h<;>try (cases h;done)
  rename_i ie hie;cases hb:(Nat.beq te.zero.length te.size&&Nat.ble ie.bytes 65536) with
  |false=>rw[hb] at h;cases h
  |true=>
   rw[hb] at h;simp only[cG] at h;split at h<;>try (cases h;done)
   rename_i hx;split at h<;>try (cases h;done)
   rename_i hy;simp only[aB,bL] at h;obtain⟨rfl,rfl,rfl,rfl⟩:=h;simp only[av,si] at hb;obtain⟨i2,g1,_,g3,_⟩:=tf3.info;rw[hie] at g1;cases g1;exact⟨x,y,T,U,_,b1,_,_,E2,s2,b2,z2,a2,_,b3,_,_,aX,tf1,tT,tf3,dW hb.1,by omega,hx,hy⟩
def gB{v w:Value}{enc:α->List Value}{ps qs:List α}{L:Cells}(is lp:List Nat)(B:Cells)(kS:bI v sz E enc ps L)(Bx:∀s:St,Ext ⟨X.ro,[]⟩ s->(∀x∈B,s.has x.1 x.2)->Sl s w sz enc qs)(hq:∀p∈qs,∀c∈enc p,single c=true)(hb:ps.length+qs.length<=1048576)(hj:∀v' L',bI v' sz E enc (ps++qs) L'->J X (SE is v' L' o))
 (hv:iJ X.n (apV X.P X.n) o=some (v,w,E,sz):=by kernel_rfl)(h2:fV is o=some L:=by kernel_rfl)(h3:fV lp o=some B:=by kernel_rfl):J X o:=by
 obtain⟨ops,i0,todo,kk,ev,w0,kn,p,rfl,ho,hw,hc⟩:=gK hv;obtain⟨x,y,T,U,s1,b1,z1,a1,E2,s2,b2,z2,a2,d,dP,z,ag,aX,tf1,tT,tf3,hz,hby,hx,hy⟩:=aKC hc;intro ep;rcases p with ⟨dst,op,ty,pos,gf,g⟩
 dsimp only at aX;subst aX;have hp:=dS h2;refine DR X.hC hp<|oap X.hC ho hw tf1 tT tf3 hz hx hy kS (Bx _ Xl λu hu=>?_) hq ⟨hb,hby⟩ λv' L' hL'=>?_
 .rcases abS (X:=X) h3 u hu with h|h
  .exact .inl h
  exact .inr (hp.mem_iff.1 h)
 have:=hj v' L' hL';rw[ahb ho] at this;have:=this ep;simp only[JP,lG] at this;exact this
end
attribute [irreducible] SE
section
variable {X:Cx} {o:Option JS}
def nxV(n:Nat)(p:Oper)(e:Env):Option Nat:=match p.op with
 | .next x true=>match dv n e x with
  |some (.pointer (some ⟨r,0,none⟩))=>some r
  |_=>none
 |_=>none
theorem aoV(h:nxV n p e=some r):∃x,p.op= .next x true/\dv n e x=some (.pointer (some ⟨r,0,none⟩)):=by
 grind [nxV]
def adA(i:Nat)(v:Value)(b:Nat)(ob:Obj):Option JS->Option JS
 |some ⟨.ops ops (j::todo) k,e,w,kn⟩=>match ops[j]? with
  |some p=>some ⟨.ops ops todo k,upd p.dst v e,.b b ob::gG [i] 0 w,kn⟩
  |none=>none
 |_=>none
def jnA{p:Nat}{c:UInt8}(r i:Nat)(hp:b.data.toList[p]?=some c) (ha:c.toNat <128) (hj:J X (adA i (.tuple ⟨[.bool true,.int .i64 p,.int .i32 c.toNat]⟩) r (.stringIter b (p+1)) o))
 (hv:iJ X.n (nxV X.n) o=some r:=by kernel_rfl) (hB:fV [i] o=some [(r,.stringIter b p)]:=by kernel_rfl):J X o:=by
 obtain⟨ops,i0,todo,kk,ev,w0,kn,q,rfl,ho,hw,hc⟩:=gK hv;obtain⟨x,aX,hx⟩:=aoV hc;intro ep;rcases q with ⟨dst,op,ty,pos,gf,g⟩
 dsimp only at aX;subst aX;refine DR X.hC (dS hB) (aws X.hC ho hw hx hp ha ?_);simp only[adA,ho] at hj;have:=hj ep;simp only[JP,p7] at this;exact this
def jnZ{p:Nat}(r i:Nat)(hp:b.data.toList[p]?=none) (hj:J X (adA i (.tuple ⟨[.bool false]⟩) r (.stringIter b p) o))
 (hv:iJ X.n (nxV X.n) o=some r:=by kernel_rfl) (hB:fV [i] o=some [(r,.stringIter b p)]:=by kernel_rfl):J X o:=by
 obtain⟨ops,i0,todo,kk,ev,w0,kn,q,rfl,ho,hw,hc⟩:=gK hv;obtain⟨x,aX,hx⟩:=aoV hc;intro ep;rcases q with ⟨dst,op,ty,pos,gf,g⟩
 dsimp only at aX;subst aX;refine DR X.hC (dS hB) (awr X.hC ho hw hx hp ?_);simp only[adA,ho] at hj;have:=hj ep;simp only[JP,p7] at this;exact this
def jcG{own:Cells}{Φ:Value->(Nat->Option Obj)->Cells->Prop}(ps:List Nat)(hf:FnG X.P f vs X.ro own Φ)(hj:∀v bU Y,Sub X.ro bU->Φ v bU Y->J (X.at bU) (r8 ps v Y o))(h1:iJ X.n (zt X.P X.n) o=some (f,vs):=by kernel_rfl)(h2:fV ps o=some own:=by kernel_rfl):J X o:=by
 obtain⟨ops,i,todo,k,e,w,kn,p,rfl,ho,hw,hc⟩:=gK h1;obtain⟨ff,x,xs,at_,fi,ca,ws,aX,hx,xP,rfl⟩:=we hc;intro ep;rcases p with ⟨dst,op,ty,pos,gf,g⟩
 dsimp only at aX;subst aX;have hp:=dS h2;refine zd (fi:=⟨fi⟩) (ca:=⟨ca⟩) (ws:=fi++ws++ca) X.hC ho hw hx ff xP (XN fi ws ca) (Fn.weaken X.hC (FnG.use (s:=⟨X.ro,den w⟩) hp hf)) (λv' s' hr=>?_) (λch s' hr=>by obtain⟨_,_,_,e,_⟩:=hr;cases e) (λs' hr=>by obtain⟨_,_,_,e,_⟩:=hr;cases e);obtain⟨v,bU,Y,hv,hs,uK,hle⟩:=hr;cases hv;have:=hj _ bU Y hs uK;rw[tF ho] at this;have:=this (ep.up hs);simp only[JP,lG,Nh] at this;exact this.more X.hC hle
def asR(n:Nat)(p:Oper)(e:Env):Option (FuncId×List Value):=match p.op with
 | .call ⟨.value (.func f),xs,_⟩=>match F5 n e xs.toList with
  |some vs=>some (f,vs)
  |none=>none
 |_=>none
theorem Xm(h:asR n p e=some (f,vs)):∃xs at_,p.op= .call ⟨.value (.func f),xs,at_⟩/\F5 n e xs.toList=some vs:=by
 grind [asR]
def jib{a:ByteArray}{b:Int}(ef:EF X.P f Extern.BytealgIndexByte.indexByte)(hj:J X (lX (.int .i64 (ixb a b.toNat.toUInt8)) o))(hv:fp X.n (asR X.n) o=some (f,[.string a,.int .u8 b]):=by kernel_rfl):J X o:=by
 refine jGS hv (λs p e _ hf=>?_) hj;obtain⟨xs,at_,aX,hx⟩:=Xm hf;rcases p with ⟨dst,op,ty,pos,gf,g⟩
 subst aX;exact⟨λops i vJ rest hw s' hs todo Q hk=>aoQ X.hC vJ hw ef (Ft hx) hk,λhk=>by cases hk⟩
def bdU{v:Value}(ef:EF X.P f Extern.AbiNoEscape.same)(hj:J X (lX v o))(hv:fp X.n (asR X.n) o=some (f,[v]):=by kernel_rfl):J X o:=by
 refine jGS hv (λs p e _ hf=>?_) hj;obtain⟨xs,at_,aX,hx⟩:=Xm hf;rcases p with ⟨dst,op,ty,pos,gf,g⟩
 subst aX;exact⟨λops i vJ rest hw s' hs todo Q hk=>awq X.hC vJ hw ef (Ft hx) hk,λhk=>by cases hk⟩
def mmV(n:Nat)(p:Oper)(e:Env):Option (Bool×Value×Value):=match p.op with
 | .call ⟨.builtin .min,⟨[x,y]⟩,⟨[_,_]⟩⟩=>match dv n e x with
  |some v=>match dv n e y with
   |some w=>some (true,v,w)
   |none=>none
  |none=>none
 | .call ⟨.builtin .max,⟨[x,y]⟩,⟨[_,_]⟩⟩=>match dv n e x with
  |some v=>match dv n e y with
   |some w=>some (false,v,w)
   |none=>none
  |none=>none
 |_=>none
def jmn{k:IntKind}{a b:Int}(hj:J X (lX (.int k (min a b)) o))(hv:fp X.n (mmV X.n) o=some (true,.int k a,.int k b):=by kernel_rfl):J X o:=by
 refine SK hv (λs p e _ hf=>?_) hj;unfold mmV at hf;split at hf<;>try (cases hf;done)
 .rename_i aX;split at hf<;>try (cases hf;done)
  rename_i hx;split at hf<;>try (cases hf;done)
  rename_i hy;cases hf;rcases p with ⟨dst,op,ty,pos,gf,g⟩
  dsimp only at aX;subst aX;exact λs0 ops i vJ rest hw s' hs todo Q hk=>aFy X.hC vJ hw (cO hx) (cO hy) hk
 split at hf<;>try (cases hf;done)
 split at hf<;>cases hf
def jmx{k:IntKind}{a b:Int}(hj:J X (lX (.int k (max a b)) o))(hv:fp X.n (mmV X.n) o=some (false,.int k a,.int k b):=by kernel_rfl):J X o:=by
 refine SK hv (λs p e _ hf=>?_) hj;unfold mmV at hf;split at hf<;>try (cases hf;done)
 .split at hf<;>try (cases hf;done)
  split at hf<;>cases hf
 rename_i aX;split at hf<;>try (cases hf;done)
 rename_i hx;split at hf<;>try (cases hf;done)
 rename_i hy;cases hf;rcases p with ⟨dst,op,ty,pos,gf,g⟩
 dsimp only at aX;subst aX;exact λs0 ops i vJ rest hw s' hs todo Q hk=>aFz X.hC vJ hw (cO hx) (cO hy) hk
def jsx(i b off:Nat)(c l:List Value)(t:TypeId)(h1:∀v∈l,single v=true)(hb:Nat.ble (off+l.length) c.length=true)(hj:J X (adA i undef b (.cells ⟨gZ c off l⟩ t (0,0)) o))(hv:iJ X.n (avw X.P X.n) o=some (⟨b,off,none⟩,l,l.length):=by kernel_rfl)(h2:fV [i] o=some [(b,.cells ⟨c⟩ t (0,0))]:=by kernel_rfl):J X o:=by
 obtain⟨ops,i0,todo,kk,ev,w,kn,p,rfl,ho,hw,hc⟩:=gK hv;obtain⟨T,x,y,d,dP,z,ag,u,aX,tf,hx,hy,hu⟩:=agI hc;intro ep;rcases p with ⟨dst,op,ty,pos,gf,g⟩
 dsimp only at aX;subst aX;refine DR X.hC (dS h2)<|ost X.hC ho hw tf hx hy hu rfl h1 (Nat.le_of_ble_eq_true hb) ?_;simp only[adA,ho] at hj;have:=hj ep;simp only[JP,p7] at this;exact this
def w5(m:Nat)(e:Env):Option JS->Option JS
 |some ⟨.ops ops todo k,_,w,kn⟩=>some ⟨.ops ops (todo.drop m) k,e,w,kn⟩
 |_=>none
def jj(m:Nat)(e:Env)(hj:∀rest,J X (w5 m (e++rest) o))(h:(∀o',w5 0 [] o'=w5 m [] o->tj (ql e) o'=some e->J X o')->J X o)(hd:lkE (ql e) e=some e:=by kernel_rfl):J X o:=by
 refine h λo' h1 h2=>?_;cases o' with
 |none=>simp[tj] at h2
 |some s'=>
  rcases s' with ⟨p',e',w',kn'⟩
  cases o with
  |none=>exact(hj []).elim
  |some s=>
   rcases s with ⟨p,e0,w,kn⟩
   cases p' with
   |ops bpY amN k'=>
    cases p with
    |ops ops todo k=>
     obtain⟨⟨rfl,rfl,rfl⟩,rfl,rfl⟩:=h1;rw[Bb] at h2;obtain⟨r,hr⟩:=lP (n:=X.n) (D:=X.D) (qE h2) (qE hd);intro ep;have:=hj r ep;show aR _ _ _ _ _ _ (A X.n e' X.D) _;rw[hr];exact this
    |_=>simp[w5] at h1
   |_=>cases p<;>simp[w5] at h1<;>exact(hj []).elim
end
attribute [irreducible] w5 adA
section
variable {X:Cx} {o:Option JS}
def ajL(i:Nat)(rest:Env)(todo:List Nat):Option JS->Option JS
 |some ⟨.Lr ops base Pl _ k,_,w,kn⟩=>some ⟨.ops ops (i::todo) k,fg ops base i Pl++rest,w,kn⟩
 |_=>none
def LK(X:Cx)(i:Nat)(o:Option JS)(rest:Env)(todo:List Nat):Prop:=match o with
 |some ⟨.Lr ops base Pl Sl k,_,w,kn⟩=>∀v s',(∀j u,(j,u)∈pending ops i Sl->zb ops X.n base Pl j=false->(∀B,(j,B)∈kn.nd->Ext ⟨X.ro,[]⟩ s'->(∀x∈B,s'.has x.1 x.2)->ky X.C X.fn X.bW ops X.n X.D j u (fg ops base j Pl) s')->ky X.C X.fn X.bW ops X.n X.D j u (fg ops base j Pl) ⟨X.ro,den w⟩->ky X.C X.fn X.bW ops X.n X.D j u (fg ops base j Pl) s')->
  (PF X kn.nd ops base ((i,v)::Pl) (pending ops i Sl)->Bw X.C X.fn X.bW ops X.n X.D base ((i,v)::Pl) (pending ops i Sl) (KQ X k) s')->aR X.C X.fn X.bW ops todo (KQ X k) (A X.n (upd (di ops i) v (fg ops base i Pl++rest)) X.D) s'
 |_=>True
def aau(is:List Nat):Option JS->Bool
 |some ⟨.Lr ops _ Pl Sl _,_,_,_⟩=>kI ops&&((is.all λi=>Nat.blt i ops.size&& !dI i (bu Pl))&&(nodupB (bu Pl)&&(wF ops (bu Pl)&&(kK (bu Sl) (bu Pl)&&(aoI ops (bu Pl) is&& !is.isEmpty)))))
 |_=>false
def aud(X:Cx)(o:Option JS):List Nat->Prop
 | []=>True
 |i::is=>(∀rest todo,LK X i o rest todo->J X (ajL i rest todo o))/\aud X o is
theorem vg(is:List Nat)(h:aud X o is)(hb:aau is o=true:=by kernel_rfl):J X o:=by
 unfold aau at hb;split at hb<;>try (cases hb;done)
 rename_i ops base Pl Sl k e w kn;simp only[Bool.and_eq_true,Bool.not_eq_true'] at hb;obtain⟨h1,h2,h3,h4,h5,h6,h7⟩:=hb;intro ep hpf;refine ak8 is h1 h2 h3 h4 h5 h6 ?_ h7;clear h6 h7
 induction is with
 |nil=>trivial
 |cons i is ih=>
  simp only[List.all_cons,Bool.and_eq_true,Bool.not_eq_true'] at h2;refine⟨λrest todo hk=>h.1 rest todo (λv s' hp ha=>?_) ep,ih h.2 h2.2⟩;have jA:∀x,x∈pending ops i Sl->x∈Sl:=λx hx=>(List.mem_filter.1 hx).1;refine hk v s' (λj u KP dt=>?_) (ha ⟨λj u KP hpb s0=>?_,λj u B KP hB s0 HJ Fh=>?_⟩)
  .cases hpb:zb ops X.n base Pl j with
   |true=>exact hpf.1 j u (jA _ KP) hpb s'
   |false=>exact hp j u KP hpb (λB hB hx hb=>hpf.2 j u B (jA _ KP) hB s' hx hb) dt
  .have JE:j∈bu Sl:=cT.2 ⟨u,jA _ KP⟩;have yU:i∉dM ops j:=λhd=>by
    have h8:=eQ.1 h5 j JE;have h9:=eQ.1 (List.all_eq_true.1 h4 j h8) i hd;rw[cF.2 h9] at h2;exact absurd h2.1.2 (by simp)
   rw[gI yU];exact hpf.1 j u (jA _ KP) (by simp only[zb,gI yU] at hpb;exact hpb) s0
  .have JE:j∈bu Sl:=cT.2 ⟨u,jA _ KP⟩;have yU:i∉dM ops j:=λhd=>by
    have h8:=eQ.1 h5 j JE;have h9:=eQ.1 (List.all_eq_true.1 h4 j h8) i hd;rw[cF.2 h9] at h2;exact absurd h2.1.2 (by simp)
   rw[gI yU];exact hpf.2 j u B (jA _ KP) hB s0 HJ Fh
def bX(i:Nat)(h:∀rest todo,LK X i o rest todo->J X (ajL i rest todo o))(hb:aau [i] o=true:=by kernel_rfl):J X o:=vg [i] ⟨h,trivial⟩ hb
def af4(i:Nat):Option JS->Option JS->Option JS
 |some ⟨.Lr ops base Pl Sl k,e,_,kn⟩,some ⟨.ops _ _ _,e',w',kn'⟩=>some ⟨.Lr ops base ((i,match di ops i with
  |some d=>(mP e' d).getD undef
  |none=>undef)::Pl) (pending ops i Sl) k,e,w',⟨kn'.c,kn.nd⟩⟩
 |_,_=>none
def bkL(i:Nat)(rest:Env)(todo:List Nat):Option JS->Option JS->Option JS
 |some ⟨.Lr ops base Pl _ k,_,_,_⟩,some ⟨_,e',w',kn'⟩=>some ⟨.ops ops todo k,upd (di ops i) (match di ops i with
  |some d=>(mP e' d).getD undef
  |none=>undef) (fg ops base i Pl++rest),w',kn'⟩
 |_,_=>none
theorem afY{rest:Env}(h:bkL i rest todo o o1=o1)(h1:o1≠none):∃ops base Pl Sl k e w kn v w' kn',o=some ⟨.Lr ops base Pl Sl k,e,w,kn⟩/\o1=some ⟨.ops ops todo k,upd (di ops i) v (fg ops base i Pl++rest),w',kn'⟩:=by
 unfold bkL at h
 grind
def rwO:Option JS->List Sg
 |some s=>s.rw
 |none=>[]
def eH{rest:Env}(hK:LK X i o rest todo)(is:List Nat)(hj:J X (af4 i o o1))(hc:bkL i rest todo o o1=o1:=by kernel_rfl)(h2:wT is o1=some (rwO o):=by kernel_rfl):J X o1:=by
 by_cases eA:o1=none
 .subst eA;cases o with
  |none=>exact hj
  |some s=>rcases s with ⟨p,e,w,kn⟩;cases p<;>exact hj
 obtain⟨A6,base,Pl,Sl,k,e,w,kn,v,w',kn',rfl,rfl⟩:=afY hc eA;intro ep;have hp:=rR h2;have hv:(match di A6 i with
  |some d=>(mP (upd (di A6 i) v (fg A6 base i Pl++rest)) d).getD undef
  |none=>undef)=v\/di A6 i=none:=by
  cases hd:di A6 i with
  |none=>exact .inr rfl
  |some d=>left;simp[upd,mP]
 have hj:=hj ep;simp only[af4,JP] at hj;have key:=hK _ ⟨X.ro,den w'⟩ (λj u _ _ _ hs=>hs.ext λb ob hb=>?_) hj
 .show aR _ _ _ _ _ _ _ _;rcases hv with hv|hv
  .rw[hv] at key;exact key
  rw[hv] at key ⊢;exact key
 rcases hb with hb|hb
 .exact .inl hb
 exact .inr (hp.mem_iff.2 (cZ _ hb))
def aou(i:Nat):Option JS->Bool
 |some ⟨.Lr ops _ _ Sl _,_,_,_⟩=>(pending ops i Sl).isEmpty
 |_=>false
def kA{rest:Env}(hK:LK X i o rest todo)(hj:J X (af4 i o o1))(hc:bkL i rest todo o o1=o1:=by kernel_rfl)(h2:aou i o=true:=by kernel_rfl):J X o1:=by
 by_cases eA:o1=none
 .subst eA;cases o with
  |none=>exact hj
  |some s=>rcases s with ⟨p,e,w,kn⟩;cases p<;>exact hj
 obtain⟨A6,base,Pl,Sl,k,e,w,kn,v,w',kn',rfl,rfl⟩:=afY hc eA;intro ep;have hv:(match di A6 i with
  |some d=>(mP (upd (di A6 i) v (fg A6 base i Pl++rest)) d).getD undef
  |none=>undef)=v\/di A6 i=none:=by
  cases hd:di A6 i with
  |none=>exact .inr rfl
  |some d=>left;simp[upd,mP]
 have hj:=hj ep;simp only[af4,JP] at hj;have Bd:pending A6 i Sl=[]:=by simpa [aou] using h2
 have key:=hK _ ⟨X.ro,den w'⟩ (λj u KP=>by rw[Bd] at KP;cases KP) hj;show aR _ _ _ _ _ _ _ _;rcases hv with hv|hv
 .rw[hv] at key;exact key
 rw[hv] at key ⊢;exact key
def ndG:List (Nat×Cells)->Nat->Option Cells
 | [],_=>none
 | (i,B)::l,j=>bif Nat.beq i j then some B else ndG l j
def ahc{j:Nat}{B:Cells}:∀ {l:List (Nat×Cells)},ndG l j=some B->(j,B)∈l
 | (i,C)::l,h=>by
  simp only[ndG] at h;cases hb:Nat.beq i j with
  |true=>
   simp_all
  |false=>rw[hb] at h;exact cb _ (ahc h)
structure Rk where
 a:List Value
 b:List Value
 c:List (Option Cells)
 d:List (Option Cells)
def aVw(ps:List Nat)(w:List Sg):Option Cells:=bif PN ps then (match ZJ ps w with
 |some x=>some (den x)
 |none=>none) else none
def rkL(P:Program)(n:Nat)(ops:Array Oper)(base:Env)(Pl:List (Nat×Value))(nd:List (Nat×Cells))(w:List Sg)(kn:Cells):List (List Nat)->List (Nat×Value)->Option Rk
 |_,[]=>some ⟨[],[],[],[]⟩
 |hs,(j,u)::r=>bif zb ops n base Pl j then rkL P n ops base Pl nd w kn hs r else (match hs with
  |h::hs=>match ndG nd j with
   |some B=>match rkL P n ops base Pl nd w kn hs r with
    |some ⟨a,b,c,d⟩=>some ⟨a,b,aVw h w::c,some B::d⟩
    |none=>none
   |none=>match ops[j]? with
    |some p=>match Ei ops n (fg ops base j Pl) p.guard with
     |some true=>match p.op with
      | .load T x=>match dv n (fg ops base j Pl) x with
       |some (.pointer (some ⟨b,off,none⟩))=>match Jd w kn (h.headD 0) with
        |some (b',l)=>match ldv P T l off with
         |some v=>match rkL P n ops base Pl nd w kn hs r with
          |some ⟨a1,b1,c,d⟩=>some ⟨v:: .int .i64 b'::a1,u:: .int .i64 b::b1,c,d⟩
          |none=>none
         |none=>none
        |none=>none
       |_=>none
      |_=>none
     |_=>none
    |none=>none
  | []=>none)
def Vz{ops:Array Oper}{base:Env}{Pl:List (Nat×Value)}{nd:List (Nat×Cells)}{w:List Sg}{kn:Cells}(ep:Knows X.ro kn):∀ {l:List (Nat×Value)} {hs:List (List Nat)} {k:Rk},rkL X.P X.n ops base Pl nd w kn hs l=some k->k.a=k.b->k.c=k.d->∀j u,(j,u)∈l->zb ops X.n base Pl j=false->
 (∀B,(j,B)∈nd->Ext ⟨X.ro,[]⟩ ⟨X.ro,den w⟩->(∀x∈B,(⟨X.ro,den w⟩:St).has x.1 x.2)->ky X.C X.fn X.bW ops X.n X.D j u (fg ops base j Pl) ⟨X.ro,den w⟩)->ky X.C X.fn X.bW ops X.n X.D j u (fg ops base j Pl) ⟨X.ro,den w⟩
 | [],_,_,_,_,_,j,u,h,_,_=>by cases h
 | (j0,u0)::r,hs,k,h,IM,hcd,j,u,hm,hpj,kT=>by
  simp only[rkL] at h;cases hpb:zb ops X.n base Pl j0 with
  |true=>
   rw[hpb] at h;simp only[cG] at h;rcases aN.1 hm with h1|h1
   .cases h1;rw[hpb] at hpj;cases hpj
   exact Vz ep h IM hcd j u h1 hpj kT
  |false=>
   rw[hpb] at h;simp only[jI] at h;split at h<;>try (cases h;done)
   rename_i h0 fq;split at h
   .rename_i B hB;split at h<;>try (cases h;done)
    rename_i a b c d hr;cases h;simp only[iH] at hcd;rcases aN.1 hm with h1|h1
    .cases h1;refine kT B (ahc hB) Xl λx hx=> .inr ?_;have hw:=hcd.1;unfold aVw at hw;cases ho:PN h0 with
     |false=>rw[ho] at hw;cases hw
     |true=>
      rw[ho] at hw;simp only[cG] at hw;split at hw<;>try (cases hw;done)
      rename_i y hy;simp only[aB] at hw;subst hw;exact(E1 hy ho).mem_iff.2 (cZ _ hx)
    exact Vz ep hr IM hcd.2 j u h1 hpj kT
   split at h<;>try (cases h;done)
   rename_i p hp;have NJ:di ops j0=p.dst:=by simp only[di,hp,oR]
   split at h<;>try (cases h;done)
   rename_i hg;split at h<;>try (cases h;done)
   rename_i T x aX;split at h<;>try (cases h;done)
   rename_i b0 off hx;split at h<;>try (cases h;done)
   rename_i b' l hc;split at h<;>try (cases h;done)
   rename_i v hv;split at h<;>try (cases h;done)
   rename_i a1 b1 c d hr;cases h;simp only[iH,Value.int.injEq,true_and] at IM;obtain⟨rfl,hb,IM⟩:=IM;have hb:b'=b0:=by omega
   subst hb;rcases aN.1 hm with h1|h1
   .cases h1;obtain⟨t,fz,hh⟩:=HA (X:=X) ep hc;intro s1 hx1 rest todo Q hk;rw[NJ] at hk;exact qk X.hC hp rest (uP hg rest) (by rw[aX];rfl) (aer aX hx hh hv) hx1 hk
   exact Vz ep hr IM hcd j u h1 hpj kT
def rkO(P:Program)(n i:Nat)(hs:List (List Nat)):Option JS->Option JS->Option Rk
 |some ⟨.Lr ops base Pl Sl _,_,_,kn⟩,some s1=>rkL P n ops base Pl kn.nd s1.rw s1.kn.c hs (pending ops i Sl)
 |_,_=>none
def rkA:Option Rk->Option (List Value×List (Option Cells))
 |some k=>some (k.a,k.c)
 |none=>some ([],[])
def rkB:Option Rk->Option (List Value×List (Option Cells))
 |some k=>some (k.b,k.d)
 |none=>none
def ee{rest:Env}(hK:LK X i o rest todo)(hs:List (List Nat))(hj:J X (af4 i o o1))(hc:bkL i rest todo o o1=o1:=by kernel_rfl)(h2:rkA (rkO X.P X.n i hs o o1)=rkB (rkO X.P X.n i hs o o1):=by kernel_rfl):J X o1:=by
 by_cases eA:o1=none
 .subst eA;cases o with
  |none=>exact hj
  |some s=>rcases s with ⟨p,e,w,kn⟩;cases p<;>exact hj
 obtain⟨A6,base,Pl,Sl,k,e,w,kn,v,w',kn',rfl,rfl⟩:=afY hc eA;intro ep;have hv:(match di A6 i with
  |some d=>(mP (upd (di A6 i) v (fg A6 base i Pl++rest)) d).getD undef
  |none=>undef)=v\/di A6 i=none:=by
  cases hd:di A6 i with
  |none=>exact .inr rfl
  |some d=>left;simp[upd,mP]
 have hj:=hj ep;simp only[af4,JP] at hj;have dt:=by
  simp only[rkO] at h2;cases hr:rkL X.P X.n A6 base Pl kn.nd w' kn'.c hs (pending A6 i Sl) with
  |none=>rw[hr] at h2;cases h2
  |some x=>
   rw[hr] at h2;simp only[rkA,rkB,aB,bL] at h2;exact Vz ep hr h2.1 h2.2
 have key:=hK _ ⟨X.ro,den w'⟩ (λj u KP hpb hn _=>dt j u KP hpb hn) hj;show aR _ _ _ _ _ _ _ _;rcases hv with hv|hv
 .rw[hv] at key;exact key
 rw[hv] at key ⊢;exact key
end
attribute [irreducible] rkO rkA rkB ajL aau af4 bkL rwO aou
abbrev RY(ro:Nat->Option Obj)(Φ:Value->Cells->Prop):Ending->St->Prop:=λen s'=>∃v X,en= .returned v/\(⟨ro,X⟩:St).le s'/\Φ v X
def Round.mono{l:Nat}{s:St}{R':Ending->St->Prop}(h:Round C l f tm ae bd s R)(hr:∀e s,R e s->R' e s):Round C l f tm ae bd s R':=
 λmain T hT c cs k1 k2=>h _ T hT c cs (λv s' hv=>k1 v s' (hr _ _ hv)) (λch s' hv=>k2 ch s' (hr _ _ hv))
def Round.weaken{C':Class}(hc:∀main T,C' main T->C main T){l:Nat}{s:St}(h:Round C l f tm ae bd s R):Round C' l f tm ae bd s R:=
 λmain T hT=>h _ T (hc _ T hT)
theorem Round.frame{P:Program}{l:Nat}{s1 s:St}{B:Cells}(hf:Round (CP P) l f tm ae bd s1 R)(hB:∀x∈B,x∈fr)(hc:alq fr B ro s1 s):
 Round (CP P) l f tm ae bd s (λen s'=>∃GJ,R en GJ/\alq fr B ro GJ s'):=
 λmain T hT c cs k1 k2=>hf _ _ (IT hT hB ro) c cs (λv GJ hv _ s' By=>k1 v s' ⟨GJ,hv,By⟩) (λch GJ hv _ s' By=>k2 ch s' ⟨GJ,hv,By⟩) rfl s hc
def amf(r:Loop)(vs:List Value):Array Value:=(r.params.zip ⟨vs⟩).foldl (λtmps (x:Tmp×Value)=>tmps.setIfInBounds x.1 x.2) r.tmps
def YX(P:Program)(bl:Nat)(vs:List Value)(ro:Nat->Option Obj)(own:Cells)(Φ:Value->Cells->Prop):Prop:=
 ∃r,(bl,.loop r)∈own/\vs.length=r.params.size/\Round (CP P) bl r.fn (amf r vs) r.assign r.body ⟨ro,own⟩ (RY ro Φ)
def YX.use{P:Program}{bl:Nat}{vs:List Value}{ro:Nat->Option Obj}{own fr:Cells}{Φ:Value->Cells->Prop}{s:St}(hy:YX P bl vs ro own Φ)(hs:Sub ro s.ro)(hp:s.rw.Perm (own++fr)){Q:Next->St->Prop}{E:Halt->St->Prop}
 (h:∀l f tm ae bd,Round (CP P) l f tm ae bd s (λen s'=>∃v X,en= .returned v/\Φ v X/\(⟨s.ro,X++fr⟩:St).le s')->Q (.round l f tm ae bd) s):eN P (Instr.yield bl ⟨vs⟩) s Q E:=by
 obtain⟨r,h1,h2,h3⟩:=hy;simp only[Instr.yield,Instr.getLoop,aI];refine fL (o:= .loop r) (.inr (hp.mem_iff.2 (cZ _ h1))) rfl rfl ?_;have sO:¬(⟨vs⟩:Array Value).size≠r.params.size:=by simpa using h2
 simp only[aQ,cy sO];refine h _ _ _ _ _ (Round.mono (Round.frame (fr:=fr) (B:=[]) (ro:=s.ro) (s:=s) h3 (λ_ h=>(by cases h)) ⟨hp,λb o hb=> .inl (hs b o hb),Sub.refl _⟩) λen s' vK=>?_);obtain⟨GJ,⟨v,X,rfl,⟨R,hR1,hR2⟩,uK⟩,hc⟩:=vK;refine⟨v,X,rfl,uK,R,?_,λb o hb=> .inl (hc.keep b o hb)⟩;refine hc.rw.trans ((hR1.append_right fr).trans ?_);simp only[bx];exact AB _ iB
section
variable {X:Cx} {o:Option JS}
def aDo(n:Nat)(p:Oper)(e:Env):Option (Nat×List Value):=match p.op with
 | .call ⟨.value x,xs,_⟩=>match dv n e x with
  |some (.func (.yield bl) ⟨[]⟩ ⟨[]⟩)=>match F5 n e xs.toList with
   |some vs=>some (bl,vs)
   |none=>none
  |_=>none
 |_=>none
def jyc{bl:Nat}{vs:List Value}{xd:Nat->Option Obj}{own:Cells}{Φ:Value->Cells->Prop}(ps:List Nat)(hy:YX X.P bl vs xd own Φ)(lO:Sub xd X.ro)(hj:∀v Y,Φ v Y->J X (r8 ps v Y o))(h1:iJ X.n (aDo X.n) o=some (bl,vs):=by kernel_rfl)(h2:fV ps o=some own:=by kernel_rfl):J X o:=by
 obtain⟨ops,i,todo,k,e,w,kn,p,rfl,ho,hw,hc⟩:=gK h1;intro ep;unfold aDo at hc;split at hc<;>try (cases hc;done)
 rename_i x xs at_ aX;split at hc<;>try (cases hc;done)
 rename_i bl' hx;split at hc<;>try (cases hc;done)
 rename_i wy hvs;cases hc;rcases p with ⟨dst,op,ty,pos,gf,g⟩
 dsimp only at aX;subst aX;have hp:=dS h2;refine eF X.hC ho hw (by simp) ?_;have WB:xs.map (ev X.n e)=⟨vs⟩:=yy hvs;simp only[execOp,resolve,cg hx,Deferred.ofValue,aQ,WB];have hiv:(invoke (.fn (.yield bl) ⟨[]⟩) (⟨[]⟩++⟨vs⟩):Sem Next)=Instr.yield bl ⟨vs⟩:=by simp[invoke]
 rw[hiv];refine YX.use hy lO hp λl f tm ae bd hR=>?_;show Round X.C l f tm ae bd _ _;refine Round.mono (Round.weaken X.hC hR) λen s' vK=>?_;obtain⟨v,Y,rfl,uK,hle⟩:=vK;have:=hj v Y uK;rw[tF ho] at this;have:=this ep;simp only[JP,lG] at this;have:=this.more X.hC hle;show aR _ _ _ _ _ _ _ _;rw[dH];exact this
end
attribute [irreducible] aDo
def mk:List Nat->Cells
 | []=>[]
 |b::r=>(b,.deferred (some []))::mk r
def api(P:Program)(fn:Func)(R:Ending->St->Prop):Post
 | .normal,a,s| .ret,a,s=>∃Cn rest,a.defers=Cn.map jP/\s.rw.Perm (mk Cn++rest)/\eN P (results fn a.tmps) ⟨s.ro,rest⟩ (λv s'=>∃s0,s0.le s'/\R (.returned v) s0) (λ_ _=>False)
 |_,_,_=>False
section
variable {P:Program} {C:Class}
def HX(hC:∀main T,C main T->Closed P main T){T:Goroutine->St->Prop}(hT:C main T){rest:Cells}:∀(Cn:List Nat) (fr:Frame) (s:St),fr.mode= .returning->fr.defers=Cn.map jP->s.rw.Perm (mk Cn++rest)->T (G {fr with defers:=[]} cs) ⟨s.ro,rest⟩->T (G fr cs) s
 | [],fr,s,_,hd,hp,h=>by
  have:fr={fr with defers:=[]}:=by rcases fr with ⟨a,b,c,d,e,f,g⟩;simp only[lR] at hd;subst hd;rfl
  rw[this];exact(hC main T hT).mono _ ⟨s.ro,rest⟩ _ ⟨[],by simpa [mk] using hp,λb o hb=> .inl hb⟩ h
 |b::r,fr,s,hm,hd,hp,h=>by
  obtain⟨L,Rr,hs⟩:=FJ (hp.mem_iff.2 (cZ _ dQ));refine unwind_mark hC hT (.inl hm) (ds:=r.map jP) (by simpa using hd) hs ?_;have hp2:(L++Rr).Perm (mk r++rest):=by
   rw[hs] at hp;exact(jB.symm.trans hp).cons_inv
  refine(hC main T hT).mono _ ⟨s.ro,L++Rr⟩ _ ⟨[(b,.deferred none)],?_,λb o hb=> .inl hb⟩ (HX hC hT r _ _ hm rfl hp2 h);exact jB.trans (List.perm_append_singleton _ _).symm
theorem Uz(hC:∀main T,C main T->Closed P main T){c:Code}{args:Array Value}{s:St}
 (hf:P.funcs[f]?=some fn) (hb:fn.body=some c) (h:Wp C f none c (api P fn R) ⟨args++Array.replicate (fn.ntmps-args.size) undef,[]⟩ s):Fn C P f args s R:=by
 intro main T hT cl cs k1 k2
 let b:Frame:={(default:Frame) with fn:=f,kind:= .normal,roundOf:=none}
 have oL:Frame.enter P f args .normal=dJ b ⟨args++Array.replicate (fn.ntmps-args.size) undef,[]⟩ [.code c]:=by
  simp[Frame.enter,dJ,hf,hb,b]
 rw[oL];refine h main T hT b [] (cl::cs) rfl (by simp[b]) rfl λe a' s' q=>?_;have An:∀(todo:List Item),(∃Cn rest,a'.defers=Cn.map jP/\s'.rw.Perm (mk Cn++rest)/\eN P (results fn a'.tmps) ⟨s'.ro,rest⟩ (λv s'=>∃s0,s0.le s'/\R (.returned v) s0) (λ_ _=>False))->T (G {dJ b a' todo with mode:= .returning} (cl::cs)) s':=by
  intro todo ⟨Cn,rest,hd,hp,hr⟩;exact HX hC hT Cn _ _ rfl hd hp (xU hC hT hf rfl rfl rfl rfl hr k1)
 cases e with
 |normal=>
  exact(hC main T hT).go rfl rfl (g':=G {dJ b a' [] with mode:= .returning} (cl::cs)) (λw=>by simp[G,stepG,stepG.exec,dJ,b]) (An _ q)
 |ret=>
  exact λtodo=>(hC main T hT).go rfl rfl (g':=G {dJ b a' (.code .ret::todo) with mode:= .returning} (cl::cs)) (λw=>by simp[G,stepG,stepG.exec,dJ,b]) (An _ q)
 |panic ch=>exact q.elim
 |exit id=>exact q.elim
 |goto l=>exact q.elim
 |outgrown=>exact q.elim
end
def XM(P:Program)(hm:P.follows .mixedOrders=true)(f:FuncId)(ro:Nat->Option Obj)(R:Ending->St->Prop):Cx:=⟨P,CP P,kJ,hm,f,none,(yx P f).ntmps,[],ro,api P (yx P f) R⟩
def aew{P:Program}(hm:P.follows .mixedOrders=true){L:Cells}(own:List Sg)(kn:Cells)(hk:Knows ro kn)(h:J (XM P hm f ro (RX ro Φ)) (pJ P f args own kn))(hL:den own=L:=by rfl):eT P f args ro L Φ:=by
 subst hL;unfold pJ at h;split at h<;>try exact h.elim
 rename_i fn hf;split at h<;>try exact h.elim
 rename_i c hc;cases hl:Nat.ble args.length fn.ntmps with
 |false=>rw[hl] at h;exact h.elim
 |true=>
  rw[hl] at h;have C4:yx P f=fn:=by simp only[yx,hf]
  have:=h hk;simp only[JP,XM,KQ,C4] at this;refine Uz kJ hf hc ?_;have he:=rG args fn.ntmps (cP hl);rw[<-he] at this;exact this
structure QM(X:Cx)(R:Ending->St->Prop)(Cn:List Nat):Prop where
 q:X.Q=api X.P (yx X.P X.fn) R
 d:X.D=Cn.map jP
def Cx.dm(X:Cx)(bd:Nat):Cx:={X with D:=jP bd::X.D}
def qm0{P:Program}{hm:P.follows .mixedOrders=true}:QM (XM P hm f ro R) R []:=⟨rfl,rfl⟩
theorem QM.a{X:Cx}(h:QM X R Cn):QM (X.at ro) R Cn:=⟨h.q,h.d⟩
theorem QM.m{X:Cx}{bd:Nat}(h:QM X R Cn):QM (X.dm bd) R (bd::Cn):=⟨h.q,by simp[Cx.dm,h.d]⟩
theorem QM.w{X:Cx}{aVJ:List Nat}(h:QM X R Cn):QM (X.wd (aVJ.map jP)) R aVJ:=⟨h.q,rfl⟩
def Q9(pm:List Nat):Option JS->Option JS
 |some ⟨p,e,w,kn⟩=>some ⟨p,e,gG pm 0 w,kn⟩
 |none=>none
section
variable {X:Cx} {o:Option JS}
def jrM(hq:QM X (RX xd Φ) Cn)(v:Value)(pm hs ps:List Nat)(Y:Cells)(lO:Sub xd X.ro)(hR:Φ v Y)(h0:fV pm o=some (mk Cn):=by kernel_rfl)(h1:yY (nG X.P X.n X.fn hs (Q9 pm o))=some v:=by kernel_rfl)(h2:Yx (nG X.P X.n X.fn hs (Q9 pm o))=Yw (nG X.P X.n X.fn hs (Q9 pm o)):=by kernel_rfl)(h3:fV ps (Q9 pm o)=some Y:=by kernel_rfl)(h4:Hr o=true:=by kernel_rfl):J X o:=by
 obtain⟨ex,e,w,kn,rfl,hex⟩:=Bi h4;simp only[Q9,nG] at h1 h2 h3;cases hr:J6 X.P X.n e (gG pm 0 w) kn.c hs (yx X.P X.fn).results.toList with
 |none=>simp only[hr,yY] at h1;cases h1
 |some x=>
  rcases x with ⟨vs,q⟩
  simp only[hr,yY,aB,Yx,Yw] at h1 h2;intro ep;have An:=BI ep hr (sE h2);have hp:=dS h3;have Qi:=Zm (s0:=⟨xd,Y⟩) (R:=RX xd Φ) hex An h1 (gM hp lO) ⟨v,Y,rfl,rfl,hR⟩;have ht:eN X.P (results (yx X.P X.fn) (A X.n e X.D).tmps) ⟨X.ro,den (gG pm 0 w)⟩ (λv s'=>∃s0,s0.le s'/\RX xd Φ (.returned v) s0) (λ_ _=>False):=by
   rcases hex with rfl|rfl<;>exact Qi.2
  show X.Q ex (A X.n e X.D) ⟨X.ro,den w⟩;rw[hq.q];have hm:∃Cn rest,(A X.n e X.D).defers=Cn.map jP/\(den w).Perm (mk Cn++rest)/\eN X.P (results (yx X.P X.fn) (A X.n e X.D).tmps) ⟨X.ro,rest⟩ _ (λ_ _=>False):=⟨Cn,_,hq.d,dS h0,ht⟩;rcases hex with rfl|rfl<;>exact hm
end
attribute [irreducible] Q9
def upQ(Q:Post):Post:=λe a s=>∃s0,s0.le s/\Q e a s0
def After.more{P:Program}{T:Goroutine->St->Prop}(hT:Closed P main T){b:Frame}{k:List Item}{s:St}(hl:s.le s'):∀ {e:Exit} {a:Act},After T b k cs e a s->After T b k cs e a s'
 | .normal,_,h=>hT.mono _ _ _ hl h
 | .exit id,a,h=>by
  simp only[After] at h ⊢;cases hk:exitTo id k with
  |some k'=>rw[hk] at h;exact hT.mono _ _ _ hl h
  |none=>rw[hk] at h;exact λtodo ht=>hT.mono _ _ _ hl (h _ ht)
 | .ret,_,h=>λtodo=>hT.mono _ _ _ hl (h _)
 | .panic _,_,h=>λtodo=>hT.mono _ _ _ hl (h _)
 | .goto _,_,h=>h.elim
 | .outgrown,_,h=>h.elim
def aM5{P:Program}(hC:∀main T,C main T->Closed P main T){fn:FuncId}{c:Code}{Q:Post}{a:Act}{s:St}(h:Wp C fn bW c (upQ Q) a s):Wp C fn bW c Q a s:=
 λmain T hT b k cs h1 h2 h3 h4=>h _ T hT b k cs h1 h2 h3 λ_ _ _ ⟨_,hl,hq⟩=>After.more (hC _ _ hT) hl (h4 _ _ _ hq)
def ItX(P:Program)(g:FuncId)(fi ca:List Value)(ro:Nat->Option Obj)(own:Cells)(N:Nat)(El:(Nat->Option Obj)->Nat->List Value->Cells->Prop)(Ψ:Cells->Prop):Prop:=
 ∀(bl:Nat) (cK:Nat->Option Obj) (Inv:Nat->Cells->Prop) (Stop:Cells->Prop),Sub ro cK->
  (∀k vs LL B AE,k <N->El AE k vs LL->Inv k B->Sub cK AE->YX P bl vs AE (LL++B) (λr B'=>(r= .bool true/\Inv (k+1) B')\/(r= .bool false/\Stop B')))->
  ∀B,Inv 0 B->eT P g (fi++[.func (.yield bl) #[] #[]]++ca) cK (own++B) (λ_ Y=>∃Z B',Y=Z++B'/\Ψ Z/\(Inv N B'\/Stop B'))
def Round.more{P:Program}(hC:∀main T,C main T->Closed P main T){l:Nat}{s:St}(hl:s.le s')(h:Round C l f tm ae bd s R):Round C l f tm ae bd s' R:=
 λmain T hT c cs k1 k2=>(hC _ _ hT).mono _ _ _ hl (h _ T hT c cs k1 k2)
def rfV(P:Program)(n:Nat):Option JS->Option (FuncId×List Value×List Value×Nat)
 |some ⟨.code (.rangeFunc x ps _ _) _,e,_,_⟩=>match dv n e x with
  |some (.func (.func g) ⟨fi⟩ ⟨ca⟩)=>bif HM P g then some (g,fi,ca,ps.size) else none
  |_=>none
 |_=>none
def lpO(X:Cx)(bd:Nat):Option JS->Loop
 |some ⟨.code (.rangeFunc _ ps a b) _,e,_,_⟩=>nO X.fn (A X.n e X.D).tmps ps a b bd
 |_=>nO X.fn #[] #[] .ret .ret bd
def aVG:Option JS->Code
 |some ⟨.code (.rangeFunc _ _ _ b) _,_,_,_⟩=>b
 |_=> .ret
def Zh:List Tmp->List Value->Env->Env
 |t::ts,v::vs,e=>Zh ts vs (upd (some t) v e)
 |_,_,e=>e
theorem Zg{D:List Deferred}:∀(ts:List Tmp) (vs:List Value) (e:Env),(ts.zip vs).foldl (λ(tm:Array Value) (x:Tmp×Value)=>tm.setIfInBounds x.1 x.2) (A n e D).tmps=(A n (Zh ts vs e) D).tmps
 | [],_,_=>rfl
 |_::_,[],_=>rfl
 |t::ts,v::vs,e=>by
  have:=dH n e D (some t) v;simp only[Act.put] at this;simp only[List.zip_cons_cons,lS,Zh];rw[<-Zg ts vs,<-this]
def rdO(X:Cx)(bl bd:Nat)(vs:List Value)(w:List Sg)(o:Option JS):Option JS:=match o with
 |some ⟨.code (.rangeFunc _ ps a _) _,e,_,kn⟩=>some ⟨.code a [],Zh ps.toList vs e,.b bl (.loop (lpO X bd o))::w,⟨kn.c,[]⟩⟩
 |_=>none
def afO(jump:Option Code)(bd:Nat)(Z:Cells)(wi:List Sg)(is:List Nat):Option JS->Option JS
 |some ⟨.code _ k,e,w,kn⟩=>match jump with
  |none=>some ⟨ZH k,e,.b bd (.deferred (some [])):: .l Z::(wi++gG is 0 w),⟨kn.c,[]⟩⟩
  |some .ret=>some ⟨.fin .ret,e,.b bd (.deferred (some [])):: .l Z::(wi++gG is 0 w),⟨kn.c,[]⟩⟩
  |some (.exit id)=>match I0 id k with
   |some p=>some ⟨p,e,.b bd (.deferred (some [])):: .l Z::(wi++gG is 0 w),⟨kn.c,[]⟩⟩
   |none=>none
  |_=>none
 |_=>none
def aDp(bl:Nat)(Lp:Loop)(wf:ι->List Sg)(Inv:Nat->ι->Prop)(Sp:Code->ι->Prop)(k:Nat):Value->Cells->Prop:=λr B=>
 (r= .bool true/\∃j,Inv (k+1) j/\B=(bl,.loop Lp)::den (wf j))\/(r= .bool false/\∃jump j,Sp jump j/\B=(bl,.loop {Lp with state:= .done,pending:=some jump})::den (wf j))
def Cx.rd(X:Cx)(bl:Nat)(ro:Nat->Option Obj)(Φ:Value->Cells->Prop)(body:Code):Cx:=⟨X.P,CP X.P,kJ,X.hm,X.fn,some bl,X.n,[],ro,af2 (CP X.P) (RY ro Φ) bl X.fn body⟩
def Cx.re(X:Cx)(bl:Nat)(ro:Nat->Option Obj)(Φ:Value->Cells->Prop):Cx:=⟨X.P,CP X.P,kJ,X.hm,X.fn,some bl,X.n,[],ro,J5 (RY ro Φ) bl⟩
theorem U1{X:Cx}{bd:Nat}:∀(k:List KI),KQ (X.dm bd) k=KQ X k
 | []=>rfl
 | .seq _::k=>by simp only[KQ,U1 k];rfl
 | .block _::k=>by simp only[KQ,U1 k]
 | .next _::k=>by simp only[KQ,U1 k]
theorem TD(Z W R:List α)(x y:α):((Z++x::W)++y::R).Perm (x::y::(Z++(W++R))):=by
 refine jB.trans ?_
 grind [bx,jB]
section
variable {X:Cx} {o:Option JS}
def jrf{ι:Type}{g:FuncId}{fi ca:List Value}{N np:Nat}{El:(Nat->Option Obj)->Nat->List Value->Cells->Prop}{Ψ:Cells->Prop}(ow:List Sg)(hit:ItX X.P g fi ca X.ro (den ow) N El Ψ)(hel:∀ro k vs LL,El ro k vs LL->vs.length=np)
 (wf:ι->List Sg)(Inv:Nat->ι->Prop)(Sp:Code->ι->Prop)(i0:ι)(h0:Inv 0 i0)(is:List Nat)
 (hb:∀bl bd k vs LL i AE,k <N->El AE k vs LL->Inv k i->Sub X.ro AE->J (X.rd bl AE (aDp bl (lpO X bd o) wf Inv Sp k) (aVG o)) (rdO X bl bd vs (wf i++[.l LL]) o))
 (hN:∀bd i Z,Inv N i->Ψ Z->J (X.dm bd) (afO none bd Z (wf i) is o))(hS:∀bd i Z jump,Sp jump i->Ψ Z->J (X.dm bd) (afO (some jump) bd Z (wf i) is o))
 (h1:rfV X.P X.n o=some (g,fi,ca,np):=by kernel_rfl)(h2:wT is o=some (ow++wf i0):=by kernel_rfl)(hf:(X.P.funcs[X.fn]?).isSome=true:=by kernel_rfl) (hr:X.bW=none:=by rfl):J X o:=by
 unfold rfV at h1;split at h1<;>try (cases h1;done)
 rename_i x params assign body k e w kn;split at h1<;>try (cases h1;done)
 rename_i g' fi' Jf hx;cases JF:HM X.P g' with
 |false=>rw[JF] at h1;cases h1
 |true=>
  rw[JF] at h1;simp only[cG,aB,bL] at h1;obtain⟨rfl,rfl,rfl,hnp⟩:=h1;have ff:=n5 JF;intro ep;have hp:=rR h2;rw[rH] at hp;obtain⟨fn',C4⟩:=Option.isSome_iff_exists.1 hf;show Wp X.C X.fn X.bW (.rangeFunc x params assign body) (KQ X k) (A X.n e X.D) ⟨X.ro,den w⟩;rw[hr];refine aM5 X.hC (HR X.hC (fi:=⟨fi'⟩) (ca:=⟨Jf⟩) (by rw[mf];exact cg hx) ff λbd bl _ _=>?_);rw[XN];have hy:=hit bl X.ro (λk B=>∃i,Inv k i/\B=(bl,.loop (nO X.fn (A X.n e X.D).tmps params assign body bd))::den (wf i))
   (λB=>∃jump i,Sp jump i/\B=(bl,.loop {nO X.fn (A X.n e X.D).tmps params assign body bd with state:= .done,pending:=some jump})::den (wf i)) (Sub.refl _) (λk vs LL B AE hk hv hi hs=>?_) _ ⟨i0,h0,rfl⟩
  rotate_left
  .obtain⟨i,hi,rfl⟩:=hi;refine⟨nO X.fn (A X.n e X.D).tmps params assign body bd,gD _ dQ,(hel _ _ _ _ hv).trans hnp.symm,Round.more kJ (s:=⟨AE,((bl,.loop (nO X.fn (A X.n e X.D).tmps params assign body bd))::den (wf i))++LL⟩) ⟨[],by rw[e9];exact iB,λb o hb=> .inl hb⟩ (Mx kJ C4 ?_)⟩;have:=hb bl bd k vs LL i AE hk hv hi hs λy hy=>hs _ _ (ep y hy);have SY:den (.b bl (.loop (nO X.fn (A X.n e X.D).tmps params assign body bd))::(wf i++[.l LL]))=((bl,.loop (nO X.fn (A X.n e X.D).tmps params assign body bd))::den (wf i))++LL:=by rw[p7,rH];rfl
   rw[<-SY];have hyt:amf (nO X.fn (A X.n e X.D).tmps params assign body bd) vs=(A X.n (Zh params.toList vs e) X.D).tmps:=by
    rw[<-Zg];simp only[amf,nO];rw[<-Array.foldl_toList,Array.toList_zip]
   rw[hyt];exact this
  .refine Fn.weaken X.hC (Fn.mono (Fn.frame (fr:=(bd,.deferred (some []))::den (gG is 0 w)) (B:=[]) (ro:=X.ro) hy (λ_ h=>(by cases h)) ⟨?_,λb o hb=> .inl hb,Sub.refl _⟩) λen s' vK=>?_)
   .refine List.Perm.trans (.cons _ (.cons _ ?_)) (TD _ _ _ _ _).symm;rw[<-bx];exact hp
   .obtain⟨GJ,⟨v,Y,rfl,rfl,Z,B',rfl,hΨ,hI⟩,hc⟩:=vK;have hc1:s'.rw.Perm ((Z++B')++(bd,.deferred (some []))::den (gG is 0 w)):=hc.rw;have key:∀(r0:Loop) (i:ι),B'=(bl,.loop r0)::den (wf i)->∃L Rr,s'.rw=L++(bl,.loop r0)::Rr/\∀r1,(⟨X.ro,den (.b bd (.deferred (some [])):: .l Z::(wf i++gG is 0 w))⟩:St).le ⟨s'.ro,L++(bl,.loop r1)::Rr⟩:=by
     intro r0 i hB;subst hB;have hc2:=hc1.trans (TD _ _ _ _ _);obtain⟨L,Rr,hs⟩:=FJ (hc2.mem_iff.2 dQ);refine⟨L,Rr,hs,λr1=>gM (J:=[(bl,.loop r1)]) ?_ hc.keep⟩;rw[hs] at hc2;have hc3:=(jB.symm.trans hc2).cons_inv;rw[p7,lG,rH];exact jB.trans ((List.Perm.cons _ hc3).trans (List.perm_append_singleton _ _).symm)
    rcases hI with ⟨i,hi,hB⟩| ⟨jump,i,hi,hB⟩
    .obtain⟨L,Rr,hs,hle⟩:=key _ i hB;refine⟨L,_,Rr,hs,by simp[nO],?_⟩;refine⟨_,hle _,?_⟩;have:=hN bd i Z hi hΨ ep;rw[<-U1 (bd:=bd)];exact BN (X:=X.dm bd) (kn:=⟨kn.c,[]⟩) this
    .obtain⟨L,Rr,hs,hle⟩:=key _ i hB;refine⟨L,_,Rr,hs,by simp,?_⟩;have:=hS bd i Z jump hi hΨ;cases jump with
     |ret=>
      refine⟨_,hle _,?_⟩;rw[<-U1 (bd:=bd)];exact H7 (X:=X.dm bd) (this ep) k
     |exit id=>
      simp only[afO] at this;cases hk:I0 id k with
      |none=>rw[hk] at this;exact this.elim
      |some p=>
       rw[hk] at this;refine⟨_,hle _,?_⟩;rw[<-U1 (bd:=bd)];exact Es (X:=X.dm bd) (kn:=⟨kn.c,[]⟩) hk (this ep)
     |_=>exact this.elim
end
def aQB{X:Cx}{bd:Nat}:(lpO X bd o).state= .ready/\(lpO X bd o).pending=none:=by
 unfold lpO;split<;>exact⟨rfl,rfl⟩
attribute [irreducible] rfV lpO aVG rdO afO
def bgO(body:Code):Option JS->Option (JS×Nat)
 |some ⟨.fin .normal,e,.b b (.loop r)::w,kn⟩=>match r.state with
  | .ready=>some (⟨.code body [],e,.b b (.loop {r with state:= .busy})::w,kn⟩,b)
  |_=>none
 |_=>none
def NO:Option (JS×Nat)->Option JS
 |some (s,_)=>some s
 |none=>none
def adt:Option (JS×Nat)->Option Nat
 |some (_,b)=>some b
 |none=>none
def aaD:Option JS->Option (Option Code)
 |some ⟨.fin .normal,_,_,_⟩=>some none
 |some ⟨.fin .ret,_,_,_⟩=>some (some .ret)
 |some ⟨.fin (.exit id),_,_,_⟩=>some (some (.exit id))
 |_=>none
structure QY(X:Cx)(bl:Nat)(ro:Nat->Option Obj)(Φ:Value->Cells->Prop):Prop where
 q:X.Q=J5 (RY ro Φ) bl
def qy0{X:Cx}:QY (X.re bl ro Φ) bl ro Φ:=⟨rfl⟩
section
variable {X:Cx} {o:Option JS} {bl:Nat} {ro:Nat->Option Obj}
def jbg(h:J (X.re bl ro Φ) (NO (bgO body o)))(h1:adt (bgO body o)=some bl:=by kernel_rfl):J (X.rd bl ro Φ body) o:=by
 unfold bgO at h h1;split at h<;>try exact h.elim
 rename_i e b r w kn;split at h<;>try exact h.elim
 rename_i dt;simp only[dt,adt,aB] at h1;subst h1;simp only[NO] at h;intro ep;have hw:=h ep;refine⟨[],r,den w,by rw[p7];rfl,dt,?_⟩;simp only[JP,p7] at hw;exact hw
def jyR{Lp:Loop}{jump:Option Code}{Y:Cells}(hq:QY X bl ro Φ)(lO:Sub ro X.ro)(ps:List Nat)(uK:Φ (.bool jump.isNone) ((bl,.loop {Lp with state:=if jump.isNone then .ready else .done,pending:=jump})::Y))(h1:fV ps o=some ((bl,.loop {Lp with state:= .busy})::Y):=by kernel_rfl)(h2:aaD o=some jump:=by kernel_rfl):J X o:=by
 have main:∀s w kn e,o=some ⟨s,e,w,kn⟩->afI (RY ro Φ) bl jump ⟨X.ro,den w⟩:=by
  intro s w kn e ho;subst ho;have hp:=dS h1;obtain⟨L,Rr,hs⟩:=FJ (hp.mem_iff.2 (cZ _ dQ));refine⟨L,_,Rr,hs,_,_,rfl,?_,uK⟩;have pg:den w=L++(bl,.loop {Lp with state:= .busy})::Rr:=hs;have pU:(den w).Perm (((bl,.loop {Lp with state:= .busy})::Y)++den (gG ps 0 w)):=hp;rw[pg] at pU;have hp2:=(jB.symm.trans pU).cons_inv;exact gM (J:=den (gG ps 0 w)) (jB.trans (.cons _ hp2)) lO
 unfold aaD at h2;split at h2<;>try (cases h2;done)
 .rename_i e w kn;cases h2;intro _;show X.Q .normal _ _;rw[hq.q];exact main _ _ _ _ rfl
 .rename_i e w kn;cases h2;intro _;show X.Q .ret _ _;rw[hq.q];exact main _ _ _ _ rfl
 rename_i id e w kn;cases h2;intro _;show X.Q (.exit id) _ _;rw[hq.q];exact main _ _ _ _ rfl
theorem jyn{Lp:Loop}{wf:ι->List Sg}{Inv:Nat->ι->Prop}{Sp:Code->ι->Prop}{k:Nat}(hq:QY X bl ro (aDp bl Lp wf Inv Sp k))(lO:Sub ro X.ro)(j:ι)(h:Inv (k+1) j)(ps:List Nat)(hl:Lp.state= .ready/\Lp.pending=none:=by exact aQB)(h1:fV ps o=some ((bl,.loop {Lp with state:= .busy})::den (wf j)):=by kernel_rfl)(h2:aaD o=some none:=by kernel_rfl):J X o:=
 jyR hq lO ps (.inl ⟨rfl,j,h,by rcases Lp with ⟨a,b,c,d,e,f,g,i⟩;grind⟩) h1 h2
def jys{Lp:Loop}{wf:ι->List Sg}{Inv:Nat->ι->Prop}{Sp:Code->ι->Prop}{k:Nat}(hq:QY X bl ro (aDp bl Lp wf Inv Sp k))(lO:Sub ro X.ro)(jump:Code)(j:ι)(h:Sp jump j)(ps:List Nat)(h1:fV ps o=some ((bl,.loop {Lp with state:= .busy})::den (wf j)):=by kernel_rfl)(h2:aaD o=some (some jump):=by kernel_rfl):J X o:=
 jyR hq lO ps (.inr ⟨rfl,jump,j,h,rfl⟩) h1 h2
end
attribute [irreducible] bgO NO adt aaD
def ub[DecidableEq κ](k:κ):List (κ×Value)->Nat->Option (Nat×Value)
 | [],_=>none
 |x::l,i=>if k=x.1 then some (i,x.2) else ub k l (i+1)
def lkM[DecidableEq κ](k:κ)(F:List (κ×Value)):Option Value:=(ub k F 0).map (·.2)
def xb(k:κ)(v:Value):List (κ×Value)->Nat->List (κ×Value)
 | [],_=>[]
 |_::l,0=>(k,v)::l
 |x::l,i+1=>x::xb k v l i
def iS[DecidableEq κ](k:κ)(v:Value)(F:List (κ×Value)):List (κ×Value):=match ub k F 0 with
 |some (i,_)=>xb k v F i
 |none=>F++[(k,v)]
structure X4(P:Program)(T:TypeId){κ:Type}[DecidableEq κ](kv:κ->Value):Prop where
 chk:∀(b:Bool) (k:κ) {α:Type} {K:Unit->Sem α} {s:St} {Q:α->St->Prop} {E:Halt->St->Prop},eN P (K ()) s Q E->eN P (Instr.checkKey b 10000 T (kv k) >>= K) s Q E
 find:∀(k:κ) (es:List MapEntry) (F:List (κ×Value)),es.map (λe=>(e.key,e.val))=F.map (λx=>(kv x.1,x.2))->∀ {α:Type} {K:Option (Nat×Value)->Sem α} {s:St} {Q:α->St->Prop} {E:Halt->St->Prop},eN P (K (ub k F 0)) s Q E->eN P (Instr.findKey T (kv k) es >>= K) s Q E
 stay:∀k,Instr.sameBits 10000 (kv k) (kv k)=true
theorem tC[DecidableEq κ]{k:κ}:∀ {F:List (κ×Value)} {i j:Nat} {v:Value},ub k F i=some (j,v)->i<=j/\F[j-i]?=some (k,v)
 | [],_,_,_,h=>by cases h
 |x::l,i,j,v,h=>by
  simp only[ub] at h;split at h
  .rename_i hk;cases h;exact⟨bk _,by simp[hk]⟩
  obtain⟨h1,h2⟩:=tC h
  grind
theorem XI(a b:ByteArray):(a==b)=decide (a=b):=by
 have h:(a==b)=(a.data==b.data):=by rfl
 rw[h,GD];cases a;cases b;simp
theorem MZ(a:ByteArray):∀(es:List MapEntry) (F:List (ByteArray×Value)) (i:Nat),es.map (λe=>(e.key,e.val))=F.map (λx=>(Value.string x.1,x.2))->Instr.findNow .string (.string a) es i=some (ub a F i)
 | [],[],_,_=>rfl
 | [],_::_,_,h=>by simp at h
 |_::_,[],_,h=>by simp at h
 |e::es,x::F,i,h=>by
  simp_all;obtain⟨⟨h1,h2⟩,h3⟩:=h;simp only[Instr.findNow,h1,Instr.sameNow,ub,XI];by_cases hk:a=x.1
  .simp[hk,h2]
  simp only[hk,decide_false,cJ];exact MZ a es F (i+1) h3
def CkD(P:Program)(dep:Nat)(T:TypeId)(v:Value):Prop:=∀(b:Bool) {α:Type} {K:Unit->Sem α} {s:St} {Q:α->St->Prop} {E:Halt->St->Prop},eN P (Instr.checkKey b dep T v >>= K) s Q E=eN P (K ()) s Q E
theorem aVA{P:Program}(tf:TF P T .string sz dP z ag)(a:ByteArray):CkD P (dep+1) T (.string a):=by
 intro b α K s Q E
 grind [Instr.checkKey,aI,db,aQ]
theorem aGc{P:Program}(tf:TF P T .string sz dP z ag):X4 P T (λ(a:ByteArray)=>Value.string a) where
 chk b k α K s Q E h:=by rw[aVA tf k b];exact h
 find k es F he α K s Q E h:=by
  grind [Instr.findKey,aI,db,MZ,aQ]
 stay k:=by simp[Instr.sameBits,XI]
def apT(P:Program)(T:TypeId):Bool:=match c9 P T with
 |some ⟨.string,_,_,_⟩=>true
 |_=>false
theorem ahq{P:Program}(h:apT P T=true):X4 P T (λ(a:ByteArray)=>Value.string a):=by
 grind [apT,bA,aGc]
def ItX.up{P:Program}{g:FuncId}{fi:List Value}{bU:Nat->Option Obj}{own:Cells}{N:Nat}{El:(Nat->Option Obj)->Nat->List Value->Cells->Prop}{Ψ:Cells->Prop}(h:ItX P g fi ca ro own N El Ψ)(hs:Sub ro bU):ItX P g fi ca bU own N El Ψ:=
 λbl cK Inv Stop h1=>h bl cK Inv _ (hs.trans h1)
def YOK(P:Program)(bl:Nat)(ro:Nat->Option Obj)(N:Nat)(El:(Nat->Option Obj)->Nat->List Value->Cells->Prop)(Inv:Nat->Cells->Prop)(Stop:Cells->Prop):Prop:=
 ∀k vs LL B AE,k <N->El AE k vs LL->Inv k B->Sub ro AE->YX P bl vs AE (LL++B) (λr B'=>(r= .bool true/\Inv (k+1) B')\/(r= .bool false/\Stop B'))
def YOK.up{P:Program}{bU:Nat->Option Obj}{N:Nat}{El:(Nat->Option Obj)->Nat->List Value->Cells->Prop}{Inv:Nat->Cells->Prop}{Stop:Cells->Prop}(h:YOK P bl ro N El Inv Stop)(hs:Sub ro bU):YOK P bl bU N El Inv Stop:=
 λk vs LL B AE h1 h2 h3 h4=>h k vs LL B AE h1 h2 h3 (hs.trans h4)
def Part(L:List α)(p:Nat)(m:List α):Prop:=∃a b,L=a++m++b/\a.length=p
theorem Part.get{L m:List α}{p:Nat}{x:α}(h:Part L p m)(hx:m[i]?=some x):p+i <L.length/\L[p+i]?=some x:=by
 obtain⟨a,b,rfl,rfl⟩:=h
 grind
def Part.flat{L:List β}{p:Nat}{G:α->List β}{l a b:List α}{s:α}(h:Part L p (l.flatMap G))(hl:l=a++[s]++b):Part L (p+(a.flatMap G).length) (G s):=by
 obtain⟨u,v,rfl,rfl⟩:=h;subst hl;exact⟨u++a.flatMap G,b.flatMap G++v,by simp,by simp⟩
def Y3{P:Program}[DecidableEq κ]{kv:κ->Value}(he:∀a b,EqD P 10000 T (kv a) (kv b) (decide (a=b)))(k:κ):∀(es:List MapEntry) (F:List (κ×Value)) (i:Nat),es.map (λe=>(e.key,e.val))=F.map (λx=>(kv x.1,x.2))->∀ {α:Type} {K:Option (Nat×Value)->Sem α} {s:St} {Q:α->St->Prop} {E:Halt->St->Prop},eN P (K (ub k F i)) s Q E->eN P (Instr.findAsking T (kv k) es i >>= K) s Q E
 | [],[],_,_,_,_,_,_,_,h=>h
 | [],_::_,_,h,_,_,_,_,_,_=>by simp at h
 |_::_,[],_,h,_,_,_,_,_,_=>by simp at h
 |e::es,x::F,i,h,α,K,s,Q,E,hK=>by
  simp only[bR,iH,bL] at h;obtain⟨⟨h1,h2⟩,h3⟩:=h;simp only[Instr.findAsking,aI,h1,Op.equal];rw[show Op.maxDepth=10000 from rfl,he k x.1];simp only[ub] at hK;by_cases hk:k=x.1
  .rw[dN hk] at hK;simp only[hk,decide_true,dF,aQ,h2];exact hK
  rw[cy hk] at hK;simp only[hk,decide_false,aW,cJ];exact Y3 he k es F (i+1) h3 hK
theorem M6{P:Program}{k:IntKind}(tf:TF P T (.int k) sz dP z ag)(a:Int):CkD P (dep+1) T (.int k a):=by
 intro b α K s Q E
 grind [Instr.checkKey,aI,db,aQ]
inductive Ju(P:Program)(dep:Nat)(l:List Value):List Field->Prop
 |nil:Ju P dep l []
 |cons {f:Field} {fs:List Field} {v:Value} (hn:f.name≠ "_") (hv:RE P f.type l f.offset v) (he:CkD P dep f.type v) (ht:Ju P dep l fs):Ju P dep l (f::fs)
def ab1{P:Program}{fields:Array Field}(tf:TF P T (.struct fields) sz dP z true)(hf:Ju P dep l fields.toList):CkD P (dep+1) T (.agg ⟨l⟩):=by
 intro b α K s Q E;simp only[Instr.checkKey,aI,db tf];rw[<-Array.forIn_toList];generalize fields.toList=fl at hf;clear tf
 induction hf with
 |nil=>simp only[List.forIn_nil,aQ,aI]
 | @cons f fs v hn hv he ht ih=>
  simp only[List.forIn_cons,hn,ne_eq,not_false_eq_true,dF,aI];rw[hv];simp only[aI];rw[he];simp only[aQ];exact ih
def apO{P:Program}[DecidableEq κ]{kv:κ->Value}{d:TypeDesc}(tf:TF P T d sz dP z ag)(hl:∀k,∃l,kv k= .agg l)(hc:∀k,CkD P 10000 T (kv k))(he:∀a b,EqD P 10000 T (kv a) (kv b) (decide (a=b)))(hs:∀k,Instr.sameBits 10000 (kv k) (kv k)=true):X4 P T kv where
 chk b k α K s Q E h:=by rw[hc k b];exact h
 find k es F hm α K s Q E h:=by
  simp only[Instr.findKey,aI,db tf];cases es with
  |nil=>
   cases F with
   |nil=>exact h
   |cons x F=>simp at hm
  |cons e es=>
   have:Instr.findNow d (kv k) (e::es) 0=none:=by
    cases F with
    |nil=>simp at hm
    |cons x F=>
     simp only[bR,iH,bL] at hm;obtain⟨l,hl1⟩:=hl k;obtain⟨l2,ID⟩:=hl x.1;simp only[Instr.findNow,hm.1.1,hl1,ID];cases d<;>rfl
   rw[this];exact Y3 he k _ F 0 hm h
 stay:=hs
def wN(kv:κ->Value)(F:List (κ×Value))(es:Array MapEntry)(ck:Nat):Prop:=
 es.toList.map (λe=>(e.key,e.val))=F.map (λx=>(kv x.1,x.2))/\(es.toList.map (·.born)).Nodup/\∀e∈es.toList,e.born <ck
def g9(r:Nat)(kv:κ->Value)(F:List (κ×Value))(L:Cells):Prop:=∃es ck,L=[(r,.map es ck)]/\wN kv F es ck
def aui(s:St)(r:Nat)(kv:κ->Value)(F:List (κ×Value)):Prop:=∃es ck,s.has r (.map es ck)/\wN kv F es ck
theorem g9.has{kv:κ->Value}{F:List (κ×Value)}{L:Cells}(h:g9 r kv F L){s:St}(hs:∀x∈L,s.has x.1 x.2):aui s r kv F:=by
 obtain⟨es,ck,rfl,hm⟩:=h;exact⟨es,ck,hs _ dQ,hm⟩
def aui.ext{kv:κ->Value}{F:List (κ×Value)}{s:St}(h:aui s r kv F)(hs:Ext s s'):aui s' r kv F:=by
 obtain⟨es,ck,h1,h2⟩:=h;exact⟨es,ck,hs _ _ h1,h2⟩
theorem g9.nil(r:Nat)(kv:κ->Value):g9 r kv [] [(r,.map #[] 0)]:=⟨#[],0,rfl,rfl,FI,λ_ h=>(by grind)⟩
section
variable {X:Cx} {o:Option JS}
def R5[DecidableEq κ](z:Value)(ok:Bool)(k:κ)(F:List (κ×Value)):Value:=match lkM k F with
 |some v=>bif ok then .tuple ⟨[v,.bool true]⟩ else v
 |none=>bif ok then .tuple ⟨[z,.bool false]⟩ else z
def luV(P:Program)(n:Nat)(p:Oper)(e:Env):Option (TypeId×Value×Value×Value×Bool):=match p.op with
 | .lookup T x y ok=>match c9 P T with
  |some ⟨.map K E,_,_,_⟩=>match c9 P E with
   |some te=>match dv n e x with
    |some m=>match dv n e y with
     |some k=>some (K,m,k,Sq te.zero te.agg,ok)
     |none=>none
    |none=>none
   |none=>none
  |_=>none
 |_=>none
def jlu[DecidableEq κ]{kv:κ->Value}{F:List (κ×Value)}{K:TypeId}(k:κ)(z:Value)(ok:Bool)(ps:List Nat)(B:Cells)(hk:X4 X.P K kv)(hm:∀s:St,Ext ⟨X.ro,[]⟩ s->(∀x∈B,s.has x.1 x.2)->aui s r kv F)(hj:J X (Kj B (R5 z ok k F) o))
 (hv:fp X.n (luV X.P X.n) o=some (K,.map (some r),kv k,z,ok):=by kernel_rfl)(hB:fV ps o=some B:=by kernel_rfl):J X o:=by
 refine jGN hv hB (λs p e ho hh hf=>?_) hj;subst ho;unfold luV at hf;split at hf<;>try (cases hf;done)
 rename_i T x y ok' aX;split at hf<;>try (cases hf;done)
 rename_i K' E' _ _ _ iy;split at hf<;>try (cases hf;done)
 rename_i te wH;split at hf<;>try (cases hf;done)
 rename_i m hx;split at hf<;>try (cases hf;done)
 rename_i k' hy;simp only[aB,bL] at hf;obtain⟨rfl,rfl,rfl,rfl,rfl⟩:=hf;obtain⟨dP,tf⟩:=bA iy;obtain⟨Db,tT⟩:=bA wH;refine⟨by rw[aX];rfl,λs0 HJ Fh ops i ho rest hwt s' hs todo Q mA=>qk X.hC ho rest hwt (by rw[aX];rfl) ?_ hs mA⟩;intro s1 fq f hf K2 E2 hK;obtain⟨es,ck,pq,KL⟩:=(hm s0 HJ Fh).ext fq;simp only[execOp,aX,hf _ _ hx,hf _ _ hy,Instr.lookup,aI,db tf];refine fL pq rfl rfl ?_;simp only[aQ,aI];refine hk.chk _ _ ?_;simp only[aI];refine hk.find k _ F KL.1 ?_;simp only[R5,lkM] at hK;cases FX:ub k F 0 with
 |none=>
  rw[FX] at hK;simp only[aI,oE tT,aQ];cases ok'<;>exact hK
 |some u=>
  obtain⟨i,v⟩:=u;rw[FX] at hK;simp only[aQ];cases ok'<;>exact hK
def aFO(p:Oper):Option Unit:=match p.op with
 | .makeMap _ none=>some ()
 |_=>none
def jmk(kv:κ->Value)(hj:∀r L,g9 r kv [] L->J X (r8 [] (.map (some r)) L o))(hv:iJ X.n (λp _=>aFO p) o=some ():=by kernel_rfl):J X o:=by
 obtain⟨ops,i,todo,k,e,w,kn,p,rfl,ho,hw,hc⟩:=gK hv;intro ep;unfold aFO at hc;split at hc<;>try (cases hc;done)
 rename_i T aX;rcases p with ⟨dst,op,ty,pos,gf,g⟩
 dsimp only at aX;subst aX;refine eF X.hC ho hw (by simp) ?_;simp only[execOp,Instr.makeMap,Option.map_none,aI,vx,aQ];refine⟨rfl,?_⟩;intro b hb;have:=hj b _ (g9.nil b kv);rw[tF ho] at this;have:=this ep;simp only[JP,lG,Fu] at this;show aR _ _ _ _ _ _ _ _;rw[dH];exact this
def muV(P:Program)(n:Nat)(p:Oper)(e:Env):Option (TypeId×Value×Value×Value):=match p.op with
 | .mapUpdate T x y z| .insert T x y z=>match c9 P T with
  |some ⟨.map K _,_,_,_⟩=>match dv n e x with
   |some m=>match dv n e y with
    |some k=>match dv n e z with
     |some v=>some (K,m,k,v)
     |none=>none
    |none=>none
   |none=>none
  |_=>none
 |_=>none
theorem H5(k:κ)(v:Value):∀(F:List (κ×Value)) (i:Nat),xb k v F i=F.set i (k,v)
 | [],_=>rfl
 |_::_,0=>rfl
 |x::l,i+1=>by simp only[xb,H5 k v l i,HH]
theorem P0{kv:κ->Value}{k:κ}{v:Value}:∀(es:List MapEntry) (F:List (κ×Value)) (i:Nat),es.map (λe=>(e.key,e.val))=F.map (λx=>(kv x.1,x.2))->(es.modify i λe=>{e with key:=kv k,val:=v}).map (λe=>(e.key,e.val))=(xb k v F i).map (λx=>(kv x.1,x.2))
 | [],[],_,_=>by simp[xb]
 | [],_::_,_,h=>by simp at h
 |_::_,[],_,h=>by simp at h
 |e::es,x::F,0,h=>by
  grind [xb]
 |e::es,x::F,i+1,h=>by
  simp_all;simp[xb,h.1,P0 es F i h.2]
theorem EG{kx v:Value}:∀(es:List MapEntry) (i:Nat),(es.modify i λe=>{e with key:=kx,val:=v}).map (·.born)=es.map (·.born)
 | [],i=>by simp
 |e::es,0=>by rfl
 |e::es,i+1=>by simp[EG es i]
def We[DecidableEq κ]{kv:κ->Value}{F:List (κ×Value)}{K:TypeId}{L:Cells}(i:Nat)(k:κ)(v:Value)(hk:X4 X.P K kv)(hm:g9 r kv F L)(hj:∀L',g9 r kv (iS k v F) L'->J X (r8 [i] undef L' o))
 (hv:iJ X.n (muV X.P X.n) o=some (K,.map (some r),kv k,v):=by kernel_rfl)(hB:fV [i] o=some L:=by kernel_rfl):J X o:=by
 obtain⟨ops,i0,todo,kk,e,w,kn,p,rfl,ho,hw,hc⟩:=gK hv;intro ep;rcases p with ⟨dst,op,ty,pos,gf,g⟩
 have main:∀T x y z,(op= .mapUpdate T x y z\/op= .insert T x y z)->muV X.P X.n ⟨dst,.mapUpdate T x y z,ty,pos,gf,g⟩ e=some (K,.map (some r),kv k,v)->aR X.C X.fn X.bW ops (i0::todo) (KQ X kk) (A X.n e X.D) ⟨X.ro,den w⟩:=by
  intro T x y z heq hc;simp only[muV] at hc;split at hc<;>try (cases hc;done)
  rename_i K' E' _ _ _ iy;split at hc<;>try (cases hc;done)
  rename_i m hx;split at hc<;>try (cases hc;done)
  rename_i k' hy;split at hc<;>try (cases hc;done)
  rename_i v' hz;simp only[aB,bL] at hc;obtain⟨rfl,rfl,rfl,rfl⟩:=hc;obtain⟨dP,tf⟩:=bA iy;have hp:=dS hB;obtain⟨es,ck,rfl,KL⟩:=hm;obtain⟨L1,R1,fq⟩:=FJ (hp.mem_iff.2 (cZ _ dQ));have hle:∀L',g9 r kv (iS k v' F) [(r,L')]->aR X.C X.fn X.bW ops todo (KQ X kk) (A X.n (upd dst undef e) X.D) ⟨X.ro,L1++(r,L')::R1⟩:=by
   intro L' hL;have:=hj _ hL;rw[tF ho] at this;have:=this ep;simp only[JP,lG] at this;refine this.more X.hC (gM (J:=[]) ?_ (Sub.refl _));have pU:(den w).Perm ([(r,.map es ck)]++den (gG [i] 0 w)):=hp;have beS:den w=L1++(r,.map es ck)::R1:=fq;rw[beS] at pU;have hp2:=(jB.symm.trans pU).cons_inv;rw[e9];exact jB.trans (List.Perm.cons _ hp2)
  have pq:(⟨X.ro,den w⟩:St).has r (.map es ck):= .inr (by show _∈den w;rw[show den w=_ from fq];exact jF);refine eF X.hC ho hw (by rcases heq with rfl|rfl<;>simp) ?_;have hex:∀f:Operand->Value,execOp f ⟨dst,op,ty,pos,gf,g⟩=(do Instr.mapUpdate T (f x) (f y) (f z);pure .skip:Sem Next):=by
   intro f;rcases heq with rfl|rfl<;>simp only[execOp]
  rw[hex,cg hx,cg hy,cg hz];simp only[Instr.mapUpdate,aI,db tf];refine fL pq rfl rfl ?_;simp only[aI];refine hk.chk _ _ ?_;simp only[aI];refine hk.find k _ F KL.1 ?_;have fin:∀ob,g9 r kv (iS k v' F) [(r,ob)]->upon X.C X.P X.bW dst (A X.n e X.D) (λa' s'=>aR X.C X.fn X.bW ops todo (KQ X kk) a' s') (KQ X kk) .skip ⟨X.ro,L1++(r,ob)::R1⟩:=by
   intro ob hL;show aR _ _ _ _ _ _ _ _;have:=hle ob hL;rw[<-dH] at this;exact this
  cases FX:ub k F 0 with
  |some u=>
   obtain⟨j,u⟩:=u;have WA:=tC FX;simp only[acA] at WA;have bfZ:((es[j]?).map (·.key)).getD (kv k)=kv k:=by
    have h1:(es.toList.map (λe=>(e.key,e.val)))[j]?=some (kv k,u):=by rw[KL.1];simp[WA.2]
    simp only[gi,Array.getElem?_toList] at h1;cases he:es[j]? with
    |none=>rfl
    |some e1=>rw[he] at h1;simp at h1;simp[h1.1]
   simp only[aI,Instr.keyThatStays,bfZ,hk.stay,dF,aQ];refine jh rfl fq rfl<|fin _ ⟨_,_,rfl,?_,?_,?_⟩
   .simp only[Array.toList_modify,iS,FX];exact P0 _ _ _ KL.1
   .simp only[Array.toList_modify,EG];exact KL.2.1
   intro e1 h1;have:e1.born∈((es.toList.modify j λe=>{e with key:=kv k,val:=v'}).map (·.born)):=cY (by simpa using h1);rw[EG] at this;obtain⟨e2,h3,h4⟩:=a8.1 this;rw[<-h4];exact KL.2.2 e2 h3
  |none=>
   refine jh rfl fq rfl<|fin _ ⟨_,_,rfl,?_,?_,?_⟩
   .simp only[Array.toList_push,cw,iS,FX,KL.1];rfl
   .simp only[Array.toList_push,cw,bR,lR];refine eo.2 ⟨KL.2.1,by simp,?_⟩;intro a ha b hb;obtain⟨e2,h3,rfl⟩:=a8.1 ha;have:=KL.2.2 e2 h3;simp only[aU] at hb;omega
   intro e1 h1;simp only[Array.toList_push,bJ,aU] at h1;rcases h1 with h1|rfl
   .have:=KL.2.2 e1 h1;omega
   exact nQ _
 have hc2:=hc;unfold muV at hc;split at hc<;>try (cases hc;done)
 .rename_i T x y z aX;dsimp only at aX;exact main T x y z (.inl aX) (by rw[<-hc2,aX])
 rename_i T x y z aX;dsimp only at aX;refine main T x y z (.inr aX) ?_;rw[<-hc2,aX];rfl
end
attribute [irreducible] luV aFO muV
section
variable {X:Cx} {o:Option JS}
def UU(P:Program)(n:Nat)(p:Oper)(e:Env):Option (FuncId×List Value):=match p.op with
 | .call ⟨.invoke x name,xs,_⟩=>match dv n e x with
  |some (.iface t v)=>match eg P (method (P.types.size+Made.depth) t v name) with
   |some (f,r)=>match F5 n e xs.toList with
    |some vs=>bif HM P f then some (f,r::vs) else none
    |none=>none
   |none=>none
  |_=>none
 |_=>none
def jS{f:Oper->Env->Option β}{r:β}(ps:List Nat)(B:Cells)(hv:iJ X.n f o=some r)(hB:fV ps o=some B)
 (hy:∀p e,f p e=some r->(∀c,p.op≠ .defer c)/\∀(R:Cells) (Q:Next->St->Prop) (E:Halt->St->Prop),(∀v L',Φ v L'->Q (.value v) ⟨X.ro,L'++R⟩)->eN X.P (execOp (ev X.n e) p) ⟨X.ro,B++R⟩ Q E)
 (hj:∀v L',Φ v L'->J X (r8 ps v L' o)):J X o:=by
 obtain⟨ops,i,todo,k,e,w,kn,p,rfl,ho,hw,hc⟩:=gK hv;intro ep;have hp:=dS hB;obtain⟨hd,ht⟩:=hy p e hc;have:aR X.C X.fn X.bW ops (i::todo) (KQ X k) (A X.n e X.D) ⟨X.ro,B++den (gG ps 0 w)⟩:=by
  refine eF X.hC ho hw hd<|ht _ _ _ λv L' uK=>?_;have:=hj v L' uK;rw[tF ho] at this;have:=this ep;simp only[JP,lG] at this;show aR _ _ _ _ _ _ _ _;rw[dH];exact this
 have hle:(⟨X.ro,B++den (gG ps 0 w)⟩:St).le ⟨X.ro,den w⟩:=⟨[],by rw[e9];exact hp,λb o hb=> .inl hb⟩;exact this.more X.hC hle
end
attribute [irreducible] UU
section
variable {X:Cx} {o:Option JS}
def iaA(P:Program)(n:Nat)(p:Oper)(e:Env):Option (Nat×Nat×Int×Nat×Nat):=match p.op with
 | .indexAddr T x y=>match c9 P T with
  |some ⟨.array len E,_,_,_⟩=>match c9 P E with
   |some te=>match dv n e x with
    |some (.pointer (some ⟨b,off,none⟩))=>match dv n e y with
     |some (.int _ ix)=>some (b,off,ix,len,te.size)
     |_=>none
    |_=>none
   |none=>none
  |_=>none
 |_=>none
def Dk{b len:Nat}(ix:Int)(hi:0<=ix/\ix <len)(hj:J X (lX (.pointer (some ⟨b,off+ix.toNat*sz,none⟩)) o))(hv:fp X.n (iaA X.P X.n) o=some (b,off,ix,len,sz):=by kernel_rfl):J X o:=by
 refine jG hv (λs p e ho hh hf=>?_) hj;unfold iaA at hf;split at hf<;>try (cases hf;done)
 rename_i T x y aX;split at hf<;>try (cases hf;done)
 rename_i ajQ E _ _ _ iy;split at hf<;>try (cases hf;done)
 rename_i te wH;split at hf<;>try (cases hf;done)
 rename_i b' aoM hx;split at hf<;>try (cases hf;done)
 rename_i ik ix' hy;simp only[aB,bL] at hf;obtain⟨rfl,rfl,rfl,rfl,rfl⟩:=hf;obtain⟨dP,tf⟩:=bA iy;obtain⟨Db,tT⟩:=bA wH;have key:∀s,Yields X.P X.n e p s (.pointer (some ⟨b',aoM+ix'.toNat*te.size,none⟩)):=by
  intro s s' pg f hf K E hK;simp only[execOp,aX,Instr.indexAt,Instr.sureAddr,hf _ _ hx,hf _ _ hy,asIntOf,aI,aQ,db tf,hi,Tb,dF,eE tT,ir];exact hK
 exact⟨by rw[aX];rfl,λ_=>key _,λ_=>key⟩
def saV(P:Program)(n:Nat)(p:Oper)(e:Env):Option (Nat×Nat×Int×Nat):=match p.op with
 | .slice T x none (some z) none=>match c9 P T with
  |some ⟨.array len E,_,_,_⟩=>match c9 P E with
   |some _=>match dv n e x with
    |some (.pointer (some ⟨b,off,none⟩))=>match dv n e z with
     |some (.int _ ix)=>some (b,off,ix,len)
     |_=>none
    |_=>none
   |none=>none
  |_=>none
 |_=>none
def jah{b len:Nat}(hi:Int)(hl:0<=hi/\hi<=len)(hj:J X (lX (.slice (some ⟨b,off,none⟩) hi.toNat len) o))(hv:fp X.n (saV X.P X.n) o=some (b,off,hi,len):=by kernel_rfl):J X o:=by
 refine jG hv (λs p e ho hh hf=>?_) hj;unfold saV at hf;split at hf<;>try (cases hf;done)
 rename_i T x z aX;split at hf<;>try (cases hf;done)
 rename_i ajQ E _ _ _ iy;split at hf<;>try (cases hf;done)
 rename_i te wH;split at hf<;>try (cases hf;done)
 rename_i b' aoM hx;split at hf<;>try (cases hf;done)
 rename_i ik ix' hy;simp only[aB,bL] at hf;obtain⟨rfl,rfl,rfl,rfl⟩:=hf;obtain⟨dP,tf⟩:=bA iy;obtain⟨Db,tT⟩:=bA wH;have key:∀s,Yields X.P X.n e p s (.slice (some ⟨b',aoM,none⟩) ix'.toNat ajQ):=by
  intro s s' pg f hf K E hK;simp only[execOp,aX,dD,lQ,Instr.sliceAt,Instr.sliceBounds,Instr.sliceBound,Instr.sureAddr,hf _ _ hx,hf _ _ hy,asIntOf,aI,aQ,db tf,Option.isSome_none,aW,cJ,hl,Tb,dF,eE tT,Nat.zero_mul,ir,ug,ite_self,acA];exact hK
 exact⟨by rw[aX];rfl,λ_=>key _,λ_=>key⟩
end
theorem jR{s:St}{b:Nat}{fz:Nat×Nat}{v:Value}(h:s.has b (.cells ⟨l⟩ t fz))(hv:nth l off=some v):eW s b off 1 [v]:=
 ⟨_,_,_,h,by grind [yd,oz,aA,gN]⟩
theorem Zq{s:St}{b o m:Nat}{v:Value}(h:eW s b o m l)(hv:nth l off=some v):eW s b (o+off) 1 [v]:=
 h.part off 1 (by grind [yd,oz,aA,gN])
open Go.ConcR (KK wgBlock WgAt stA smA rd wr)
def TT(T:Goroutine->St->Prop)(b:Frame)(FQ:List Item)(cs:List Frame)(n:Nat)(D:List Deferred)(ro:Nat->Option Obj)(o:Option JS):Prop:=
 ∀e w kn,o=some ⟨.fin .normal,e,w,kn⟩->Knows ro kn.c->T (G (dJ b (A n e D) FQ) cs) ⟨ro,den w⟩
def CT{P:Program}(hm:P.follows .mixedOrders=true){main:Bool}{T:Goroutine->St->Prop}(hT:Closed P main T)(b:Frame)(FQ:List Item)(cs:List Frame)(n:Nat)(D:List Deferred)(ro:Nat->Option Obj):Cx:=
 ⟨P,λm T'=>m=main/\T'=T,by rintro _ _ ⟨rfl,rfl⟩;exact hT,hm,b.fn,none,n,D,ro,After T b FQ cs⟩
def afy:Option JS->Bool
 |some ⟨.fin .normal,_,_,_⟩=>true
 |_=>false
def opO(ops:Array Oper)(todo:List Nat):Option JS->Option JS
 |some ⟨.fin .normal,e,w,kn⟩=>some ⟨.ops ops todo [],e,w,⟨kn.c,[]⟩⟩
 |_=>none
def cdO(c:Code):Option JS->Option JS
 |some ⟨.fin .normal,e,w,kn⟩=>some ⟨.code c [],e,w,⟨kn.c,[]⟩⟩
 |_=>none
def stO(dst:Option Tmp)(v:Value):Option JS->Option JS
 |some ⟨p,e,w,kn⟩=>some ⟨p,upd dst v e,w,kn⟩
 |none=>none
def nwO(dst:Option Tmp)(v:Value)(q:Nat)(ob:Obj):Option JS->Option JS
 |some ⟨p,e,w,kn⟩=>some ⟨p,upd dst v e,.b q ob::w,kn⟩
 |none=>none
def evO(n:Nat)(x:Operand):Option JS->Option Value
 |some ⟨_,e,_,_⟩=>dv n e x
 |none=>none
def aUU(n:Nat)(xs:List Operand):Option JS->Option (List Value)
 |some ⟨_,e,_,_⟩=>F5 n e xs
 |none=>none
def vaO(P:Program)(n:Nat)(a:Oper):Option JS->Option Value
 |some ⟨_,e,_,_⟩=>amB P n e a
 |none=>none
theorem akG(h:afy o=true):∃e w kn,o=some ⟨.fin .normal,e,w,kn⟩:=by
 unfold afy at h
 grind
def Xc(f:FuncId)(k:CallKind):Frame:={(default:Frame) with fn:=f,kind:=k,roundOf:=none}
section
variable {P:Program} {main:Bool} {T:Goroutine->St->Prop} {b:Frame} {FQ:List Item} {cs:List Frame} {n:Nat} {D:List Deferred} {ro:Nat->Option Obj} {o:Option JS} {ops:Array Oper}
def am5{X:Cx}(h:TT T b FQ cs n D ro o)(hQ:X.Q=After T b FQ cs)(hn:X.n=n)(hD:X.D=D)(qX:X.ro=ro)(h1:afy o=true):J X o:=by
 subst hn hD qX;obtain⟨e,w,kn,rfl⟩:=akG h1;intro ep;show X.Q _ _ _;rw[hQ];exact h _ _ _ rfl ep
def BG{hm:P.follows .mixedOrders=true}{hT:Closed P main T}(h:TT T b FQ cs n D ro o)(h1:afy o=true:=by kernel_rfl):J (CT hm hT b FQ cs n D ro) o:=am5 h rfl rfl rfl rfl h1
def aOc{hm:P.follows .mixedOrders=true}{hT:Closed P main T}{xd:Nat->Option Obj}(h:TT T b FQ cs n D ro o)(h1:afy o=true:=by kernel_rfl):J ((CT hm hT b FQ cs n D xd).at ro) o:=am5 h rfl rfl rfl rfl h1
def DC(hm:P.follows .mixedOrders=true)(hT:Closed P main T)(hj:J (CT hm hT b FQ cs n D ro) (opO ops todo o))(hk:b.kind≠ .early:=by decide)(hr:b.roundOf=none:=by rfl):TT T b (.inRegion ops todo::FQ) cs n D ro o:=by
 rintro e w kn rfl ep;exact hj ep _ T ⟨rfl,rfl⟩ b FQ cs rfl hk hr λe a s q=>q
def am7(hm:P.follows .mixedOrders=true)(hT:Closed P main T){c:Code}(hj:J (CT hm hT b FQ cs n D ro) (cdO c o))(hk:b.kind≠ .early:=by decide)(hr:b.roundOf=none:=by rfl):TT T b (.code c::FQ) cs n D ro o:=by
 rintro e w kn rfl ep;exact hj ep _ T ⟨rfl,rfl⟩ b FQ cs rfl hk hr λe a s q=>q
def tSt(hT:Closed P main T)(ef:Env)(wf:List Sg)(ps:List Nat)(h:∀rest,TT T b FQ cs n D ro (some ⟨.fin .normal,ef++rest,wf,⟨[],[]⟩⟩))(h1:tj (ql ef) o=some ef:=by kernel_rfl)(h2:wT ps o=some wf:=by kernel_rfl)(h3:lkE (ql ef) ef=some ef:=by kernel_rfl):TT T b FQ cs n D ro o:=by
 rintro e w kn rfl ep;obtain⟨rest,he⟩:=lP (qE (by rw[Bb] at h1;omega)) (qE h3);rw[he];exact hT.mono _ _ _ (gM (rR h2) (Sub.refl _)) (h rest _ _ _ rfl λ_ h=>(by cases h))
section
variable {k:List Item} {rest l:List Code} (hT:Closed P main T)
include hT
def tV(hl:nZ l= .region id ops false::rest)(h:∀l',nZ l'=rest->TT T b (.inRegion ops (List.range ops.size)::(l'.map .code++k)) cs n D ro o):TT T b (l.map .code++k) cs n D ro o:=
 λe w kn ho ep=>Km hT hl λl' KO=>h l' KO e w kn ho ep
def Mr{c:Operand}{x y:Code}{t q:Bool}(hl:nZ l= .cond c x y::rest)(hq:q=t)(h:∀l',nZ l'=rest->TT T b (.code (if t then x else y)::(l'.map .code++k)) cs n D ro o)(hc:evO n c o=some (.bool q):=by kernel_rfl):TT T b (l.map .code++k) cs n D ro o:=by
 subst hq;rintro e w kn rfl ep;exact awn hT hl (by rw[mf];exact cg hc) λl' KO=>h l' KO e w kn rfl ep
def Vp{c:Code}(hl:nZ l= .block id c::rest)(h:∀l',nZ l'=rest->TT T b ([c].map .code++(.inBlock id::(l'.map .code++k))) cs n D ro o):TT T b (l.map .code++k) cs n D ro o:=
 λe w kn ho ep=>aoK hT hl λl' KO=>h l' KO e w kn ho ep
def aAA{c:Code}(hl:nZ l= .loop c::rest)(h:∀l',nZ l'=rest->TT T b ([c].map .code++(.inLoop c::(l'.map .code++k))) cs n D ro o):TT T b (l.map .code++k) cs n D ro o:=
 λe w kn ho ep=>awm hT hl λl' KO=>h l' KO e w kn ho ep
def Y6{c:Code}(hl:nZ l=c::rest)(h:∀l',nZ l'=rest->TT T b (.code c::(l'.map .code++k)) cs n D ro o):TT T b (l.map .code++k) cs n D ro o:=
 λe w kn ho ep=>xQ hT hl λl' KO=>h l' KO e w kn ho ep
def agD(h:TT T b k cs n D ro o):TT T b (.code .skip::k) cs n D ro o:=λe w kn ho ep=>ayT hT (h e w kn ho ep)
def aAB{k':List Item}(hk:exitTo id k=some k')(h:TT T b k' cs n D ro o):TT T b (.code (.exit id)::k) cs n D ro o:=λe w kn ho ep=>ayU hT hk (h e w kn ho ep)
def aAC(h:TT T b k cs n D ro o):TT T b (.inBlock id::k) cs n D ro o:=λe w kn ho ep=>akJ hT (h e w kn ho ep)
def Tj(h:TT T b k cs n D ro o):TT T b (.inRegion ops []::k) cs n D ro o:=λe w kn ho ep=>rY hT (h e w kn ho ep)
def am8{c:Code}(h:TT T b ([c].map .code++(.inLoop c::k)) cs n D ro o):TT T b (.inLoop c::k) cs n D ro o:=λe w kn ho ep=>af9 hT (h e w kn ho ep)
def aN8{a:Oper}{f:Nat->Value}{ob:Obj}(ho:ops[i]?=some a) (hg:a.guard=none) (Bf:∀e q,ad8 P (execOp (ev n e) a) q=some (ob,f q)) (hk:b.kind≠ .early) (hr:b.roundOf=none)
 (h:∀q,TT T b (.inRegion ops todo::k) cs n D ro (nwO a.dst (f q) q ob o)):TT T b (.inRegion ops (i::todo)::k) cs n D ro o:=by
 rintro e w kn rfl ep;refine DU hT ho (jM _ _ hg) hk hr ?_;rw[mf];refine ao4 (f:=f) (λq _=>⟨_,rfl,?_⟩) _ (Bf e);rw[dH];have:=h q _ _ _ rfl ep;exact this
def adi{a:Oper}(v:Value)(ho:ops[i]?=some a) (hg:a.guard=none) (hk:b.kind≠ .early) (hr:b.roundOf=none) (h:TT T b (.inRegion ops todo::k) cs n D ro (stO a.dst v o)) (hv:vaO P n a o=some v:=by kernel_rfl):TT T b (.inRegion ops (i::todo)::k) cs n D ro o:=by
 rintro e w kn rfl ep;refine DU hT ho (jM _ _ hg) hk hr ?_;rw[mf];refine HV hv _ (Ext.refl _) _ (λ_ _ h=>cg h) _ _ ⟨v,rfl,?_⟩;rw[dH];exact h _ _ _ rfl ep
theorem tLd{q:Nat}{a:Oper}{x:Operand}{U:TypeId}(v:Value)(ho:ops[i]?=some a) (hg:a.guard=none) (aX:a.op= .load U x) (ht:(c9 P U).map (·.agg)=some false) (hk:b.kind≠ .early) (hr:b.roundOf=none) {fz:Nat×Nat} (hb:∀e w kn,o=some ⟨.fin .normal,e,w,kn⟩->(⟨ro,den w⟩:St).has q (.cells ⟨[v]⟩ t fz))
 (h:TT T b (.inRegion ops todo::k) cs n D ro (stO a.dst v o)) (hx:evO n x o=some (.pointer (some ⟨q,0,none⟩)):=by kernel_rfl):TT T b (.inRegion ops (i::todo)::k) cs n D ro o:=by
 rintro e w kn rfl ep;refine DU hT ho (jM _ _ hg) hk hr ?_;rw[mf];cases iy:c9 P U with
 |none=>grind
 |some z=>
 rw[iy] at ht;simp only[dD,aB] at ht;obtain⟨dP,tf⟩:=bA iy;rw[ht] at tf;simp only[execOp,aX,Instr.loadAt,cg hx,Instr.sureAddr,loadVar,aI,aQ,pQ tf,aW,cJ];refine Dz ⟨[v],t,fz,hb _ _ _ rfl,rfl⟩ ⟨v,rfl,?_⟩;rw[dH];exact h _ _ _ rfl ep
end
def am6(hT:Closed P main T){a:Oper}{xs:Array Operand}{ats:Array TypeId}{k:List Item}(ho:ops[i]?=some a) (hg:a.guard=none) (aX:a.op= .defer ⟨.value (.func f),xs,ats⟩) (hk:b.kind≠ .early) (hr:b.roundOf=none)
 (h:TT T b k cs n ({target:= .fn (.func f) ⟨[]⟩,args:=⟨vs⟩}::D) ro (stO a.dst undef o)) (hx:aUU n xs.toList o=some vs:=by kernel_rfl):TT T b (.inRegion ops [i]::k) cs n D ro o:=by
 rintro e w kn rfl ep;have hC:∀m T',(λm T'=>m=main/\T'=T:Class) m T'->Closed P m T':=by rintro _ _ ⟨rfl,rfl⟩;exact hT
 have key:aR (λm T'=>m=main/\T'=T) b.fn none ops [i] (After T b k cs) (A n e D) ⟨ro,den w⟩:=by
  refine VQ (P:=P) hC ho (jM _ _ hg) (.inl rfl) ?_;rw[mf];have e1:ev n e (.func f)= .func (.func f) #[] #[]:=rfl;have e2:xs.map (ev n e)=⟨vs⟩:=yy hx;simp only[execOp,aX,resolve,e1,Deferred.ofValue,aQ,e2];refine⟨rfl,?_⟩;have hA:({A n e D with defers:={target:= .fn (.func f) ⟨[]⟩,args:=⟨vs⟩}::(A n e D).defers}:Act).put a.dst undef=A n (upd a.dst undef e) ({target:= .fn (.func f) ⟨[]⟩,args:=⟨vs⟩}::D):=by
   rw[<-dH];rfl
  have he:(⟨[]⟩:Array Value)++(⟨vs⟩:Array Value)=⟨vs⟩:=by simp
  rw[he];have:=h _ _ _ rfl ep;rw[<-hA] at this;exact λm T' hc b' k' Si h1 h2 h3 h4=>by
   obtain⟨rfl,rfl⟩:=hc;exact rY hT (h4 .normal _ _ this)
 exact key main T ⟨rfl,rfl⟩ b k cs rfl hk hr λe a s q=>q
end
attribute [irreducible] afy opO cdO
def bkO(L:Cells):Option JS->Option JS
 |some ⟨p,e,w,_⟩=>some ⟨p,e,.l L::w,⟨[],[]⟩⟩
 |none=>none
def avH(ps:List Nat):Option JS->Option Cells
 |some ⟨_,_,w,_⟩=>some (den (gG ps 0 w))
 |none=>none
def aaw:Option JS->Option JS
 |some ⟨p,e,_,kn⟩=>some ⟨p,e,[],⟨kn.c,[]⟩⟩
 |none=>none
theorem UI:∀(w:List Sg) (k:Nat),gG [] k w=w
 | [],_=>rfl
 |x::w,k=>by
  simp only[gG];rw[UI w];rfl
def aOd{P:Program}{S:Goroutine->St->Prop}{c:Code}(hf:P.funcs[f]?=some fn) (hb:fn.body=some c) (hn:fn.ntmps=n) (ff:HM P f=true) (hle:Nat.ble ca.length n=true)
 (h:TT (gx P false S) (Xc f .deferred) ([c].map .code++[]) [iq P] n [] ro (some ⟨.fin .normal,mE 0 ca,[],⟨[],[]⟩⟩)):gx P false S (born P {target:= .fn (.func f) ⟨ca⟩,args:= #[]}) ⟨ro,[]⟩:=by
 have hT:=fJ P false S;refine ni (C:=CA P) (λ_ _ h=>h) hT (fr:={(default:Frame) with fn:=P.funcs.size,defers:=[{target:= .fn (.func f) ⟨ca⟩,args:= #[]}],mode:= .panicking [goexitEntry]}) (.inr ⟨_,rfl⟩) (n5 ff) rfl ?_;show gx P false S (G (Frame.enter P f (#[]++⟨ca⟩) .deferred) [iq P]) ⟨ro,[]⟩;have oL:Frame.enter P f (#[]++⟨ca⟩) .deferred=dJ (Xc f .deferred) (A n (mE 0 ca) []) [.code c]:=by
  rw[<-rG ca n (cP hle)];simp[Frame.enter,dJ,hf,hb,hn,Xc]
 rw[oL];exact h _ _ _ rfl λx hx=>(by cases hx)
def bgI(body:Code)(i:Nat):Option JS->Option (JS×Nat)
 |some ⟨.fin .normal,e,w,kn⟩=>match Il w i with
  |some (.b b (.loop r))=>match r.state with
   | .ready=>some (⟨.code body [],e,ady w i (.b b (.loop {r with state:= .busy})),kn⟩,b)
   |_=>none
  |_=>none
 |_=>none
def anJ:Option JS->Option JS
 |some ⟨.fin .normal,e,w,kn⟩=>some ⟨.fin .ret,e,w,kn⟩
 |_=>none
theorem Vo{P:Program}{T:Goroutine->St->Prop}{c:Code}{L:Cells}(hf:P.funcs[f]?=some fn) (hb:fn.body=some c) (hn:fn.ntmps=n) (hle:Nat.ble args.length n=true)
 (h:TT T (Xc f .normal) ([c].map .code++[]) cs n [] ro (some ⟨.fin .normal,mE 0 args,[.l L],⟨[],[]⟩⟩)):T (G (Frame.enter P f ⟨args⟩ .normal) cs) ⟨ro,L⟩:=by
 have oL:Frame.enter P f ⟨args⟩ .normal=dJ (Xc f .normal) (A n (mE 0 args) []) [.code c]:=by
  grind [rG,cP,Frame.enter,dJ,Xc]
 rw[oL];exact h _ _ _ rfl λx hx=>(by grind)
def aN7{P:Program}(hm:P.follows .mixedOrders=true){T:Goroutine->St->Prop}(hT:Closed P main T){FQ:List Item}{cl:Frame}{NT:List Frame}(v:Value)(hs ps:List Nat)(Y:Cells)(hf:P.funcs[f]?=some fn)
 (hk:T (G (cl.finish v) NT) ⟨ro,Y⟩) (h1:yY (nG P n f hs (anJ o))=some v:=by kernel_rfl) (h2:Yx (nG P n f hs (anJ o))=Yw (nG P n f hs (anJ o)):=by kernel_rfl) (h3:fV ps o=some Y:=by kernel_rfl):TT T (Xc f .normal) (.code .ret::FQ) (cl::NT) n [] ro o:=by
 rintro e w kn rfl ep;simp only[anJ] at h1 h2;simp only[nG] at h1 h2;cases hr:J6 P n e w kn.c hs (yx P f).results.toList with
 |none=>simp only[hr,yY] at h1;cases h1
 |some x=>
  rcases x with ⟨vs,q⟩
  simp only[hr,yY,aB,Yx,Yw] at h1 h2;have An:=BI (X:=⟨P,λm T'=>m=main/\T'=T,by rintro _ _ ⟨rfl,rfl⟩;exact hT,hm,f,none,n,[],ro,λ_ _ _=>True⟩) ep hr (sE h2);have hp:=dS h3;have C4:yx P f=fn:=by simp only[yx,hf]
  have Qi:=Zm (s0:=⟨ro,Y⟩) (R:=λen s'=>∃v,en= .returned v/\T (G (cl.finish v) NT) s') (.inl rfl) An h1 (gM hp (Sub.refl _)) ⟨v,rfl,hk⟩;rw[C4] at Qi;refine hT.go rfl rfl (g':=G {dJ (Xc f .normal) (A n e []) (.code .ret::FQ) with mode:= .returning} (cl::NT)) (λw=>by simp[G,stepG,stepG.exec,dJ,Xc])<|xU (C:=CA P) (λ_ _ h=>h) (T:=T) hT hf rfl rfl rfl rfl (R:=λen s'=>∃v,en= .returned v/\T (G (cl.finish v) NT) s') Qi.2 (λv s' hv=>?_);obtain⟨v',hv',ht⟩:=hv;cases hv';exact ht
def ab7(L:Cells)(p:Pos)(e:Env)(w:List Sg)(kn:Kn):bkO L (some ⟨p,e,w,kn⟩)=some ⟨p,e,.l L::w,⟨[],[]⟩⟩:=rfl
theorem G3(p:Pos)(e:Env)(w:List Sg)(kn:Kn):aaw (some ⟨p,e,w,kn⟩)=some ⟨p,e,[],⟨kn.c,[]⟩⟩:=rfl
theorem Tq(ps:List Nat)(p:Pos)(e:Env)(w:List Sg)(kn:Kn):avH ps (some ⟨p,e,w,kn⟩)=some (den (gG ps 0 w)):=rfl
attribute [irreducible] aaw bkO bgI avH anJ
def Sm(P:Program)(f:FuncId)(args:List Value)(ro:Nat->Option Obj)(own:Cells)(Φ:Value->Cells->Prop):Prop:=
 ∀fr,Fn (C0L P) P f ⟨args⟩ ⟨ro,own++fr⟩ (λen s'=>∃v Y,en= .returned v/\(⟨ro,Y++fr⟩:St).le s'/\Φ v Y)
def Sm.mono{P:Program}{own:Cells}{Φ':Value->Cells->Prop}(h:Sm P f args ro own Φ)(hk:∀v X,Φ v X->Φ' v X):Sm P f args ro own Φ':=
 λfr=>Fn.mono (h fr) λ_ _ ⟨v,X,h1,h2,h3⟩=>⟨v,X,h1,h2,hk v X h3⟩
abbrev RC(ro:Nat->Option Obj)(fr:Cells)(Φ:Value->Cells->Prop):Ending->St->Prop:=λen s'=>∃v Y,en= .returned v/\(⟨ro,Y++fr⟩:St).le s'/\Φ v Y
def XC(P:Program)(hm:P.follows .mixedOrders=true)(f:FuncId)(ro:Nat->Option Obj)(R:Ending->St->Prop):Cx:=⟨P,C0L P,Ck,hm,f,none,(yx P f).ntmps,[],ro,zv P (yx P f) R⟩
def qC{P:Program}{hm:P.follows .mixedOrders=true}:QR (XC P hm f ro R) R:=⟨rfl,rfl⟩
theorem Uy{P:Program}(hC:∀main T,C main T->Closed P main T){c:Code}{s:St}(hf:P.funcs[f]?=some fn) (hb:fn.body=some c) (hl:Nat.ble args.length fn.ntmps=true) (h:Wp C f none c (zv P fn R) (A fn.ntmps (mE 0 args) []) s):Fn C P f ⟨args⟩ s R:=by
 grind [abC,rG,cP]
def Qa{P:Program}(hm:P.follows .mixedOrders=true){L:Cells}(own:List Sg)(kn:Cells)(hk:Knows ro kn)(h:∀fr,J (XC P hm f ro (RC ro fr Φ)) (pJ P f args (own++[.l fr]) kn))(hL:den own=L:=by rfl):Sm P f args ro L Φ:=by
 subst hL;intro fr;have h:=h fr;unfold pJ at h;split at h<;>try exact h.elim
 rename_i fn hf;split at h<;>try exact h.elim
 rename_i c hc;cases hl:Nat.ble args.length fn.ntmps with
 |false=>rw[hl] at h;exact h.elim
 |true=>
  rw[hl] at h;have C4:yx P f=fn:=by simp only[yx,hf]
  have:=h hk;simp only[JP,XC,KQ,C4] at this;have hd:den (own++[.l fr])=den own++fr:=by rw[rH];rfl
  rw[hd] at this;exact Uy Ck hf hc hl this
section
variable {X:Cx} {o:Option JS}
def jcC{own:Cells}(ps:List Nat)(hC:∀main T,X.C main T->C0L X.P main T)(hf:Sm X.P f vs X.ro own Φ)(hj:∀v Y,Φ v Y->J X (r8 ps v Y o))(h1:iJ X.n (zt X.P X.n) o=some (f,vs):=by kernel_rfl)(h2:fV ps o=some own:=by kernel_rfl):J X o:=by
 obtain⟨ops,i,todo,k,e,w,kn,p,rfl,ho,hw,hc⟩:=gK h1;obtain⟨ff,x,xs,at_,fi,ca,ws,aX,hx,xP,rfl⟩:=we hc;intro ep;rcases p with ⟨dst,op,ty,pos,gf,g⟩
 dsimp only at aX;subst aX;have hp:=dS h2;have C4:Fn X.C X.P f ⟨fi++ws++ca⟩ ⟨X.ro,den w⟩ (λen s'=>∃v Y,en= .returned v/\(⟨X.ro,Y++den (gG ps 0 w)⟩:St).le s'/\Φ v Y):=λmain T hT c cs k1 k2=>
  (X.hC main T hT).mono _ ⟨X.ro,own++den (gG ps 0 w)⟩ _ (gM (J:=[]) (by rw[e9];exact hp) (Sub.refl _)) (Fn.weaken hC (hf _) main T hT c cs k1 k2)
 refine zd (fi:=⟨fi⟩) (ca:=⟨ca⟩) (ws:=fi++ws++ca) X.hC ho hw hx ff xP (XN fi ws ca) C4 (λv' s' hr=>?_) (λch s' hr=>by obtain⟨_,_,e,_⟩:=hr;cases e) (λs' hr=>by obtain⟨_,_,e,_⟩:=hr;cases e);obtain⟨v,Y,hv,hle,uK⟩:=hr;cases hv;have:=hj _ Y uK;rw[tF ho] at this;have:=this ep;simp only[JP,lG] at this;exact this.more X.hC hle
def jrC(hq:QR X (RC xd fr Φ))(v:Value)(ps:List Nat)(Y:Cells)(lO:Sub xd X.ro)(hR:Φ v Y)(h1:yY (nG X.P X.n X.fn [] o)=some v:=by kernel_rfl)(h2:Yx (nG X.P X.n X.fn [] o)=Yw (nG X.P X.n X.fn [] o):=by kernel_rfl)(h3:fV ps o=some (Y++fr):=by kernel_rfl)(h4:Hr o=true:=by kernel_rfl):J X o:=
 cd hq v [] ps _ lO ⟨v,Y,rfl,St.le_refl _,hR⟩ h1 h2 h3 h4
end
def dfV(n:Nat)(p:Oper)(e:Env):Option (FuncId×List Value):=match p.op with
 | .defer ⟨.value x,⟨[]⟩,⟨[]⟩⟩=>match dv n e x with
  |some (.func (.func f) ⟨[]⟩ ⟨ca⟩)=>some (f,ca)
  |_=>none
 |_=>none
def skO:Option JS->Option JS
 |some ⟨.ops ops (i::todo) k,e,w,kn⟩=>match ops[i]? with
  |some p=>some ⟨.ops ops todo k,upd p.dst undef e,w,kn⟩
  |none=>none
 |_=>none
def aaH(t:Tmp)(rest:Code)(ca:List Value):Option JS->Option JS
 |some ⟨.fin _,_,w,kn⟩=>some ⟨.code rest [],upd (some t) .nilIface (mE 0 ca),w,⟨kn.c,[]⟩⟩
 |_=>none
def rwS:Option JS->Option (List Sg)
 |some s=>some s.rw
 |none=>none
attribute [irreducible] skO aaH rwS dfV
def vi(r ck:Nat)(seen:List Nat):Obj:= .mapIter (some r) ck ⟨seen⟩ ck
def gq(es:Array MapEntry)(seen:List Nat):List MapEntry:=es.toList.filter λe=> !seen.contains e.born
theorem E8(es:Array MapEntry):gq es []=es.toList:=by simp[gq]
theorem ajR{es:Array MapEntry}{b:Nat}{e:MapEntry}:e∈gq es (seen++[b])↔e∈gq es seen/\e.born≠b:=by
 simp only[gq,cQ,az,List.contains_eq_mem,bJ,aU,ar,not_or,and_assoc]
theorem Bc{es:Array MapEntry}{e:MapEntry}(h:e∈gq es seen):(gq es (seen++[e.born])).length <(gq es seen).length:=by
 have:gq es (seen++[e.born])=(gq es seen).filter λx=> !decide (x.born=e.born):=by
  grind [gq,List.filter_filter]
 rw[this];exact List.length_filter_lt_length_iff_exists.2 ⟨e,h,by simp⟩
def mrV(P:Program)(n:Nat)(p:Oper)(e:Env):Option Value:=match p.op with
 | .range T x=>match c9 P T with
  |some ⟨.map _ _,_,_,_⟩=>dv n e x
  |_=>none
 |_=>none
def nmV(n:Nat)(p:Oper)(e:Env):Option Value:=match p.op with
 | .next x false=>dv n e x
 |_=>none
def enV(n:Nat)(p:Oper)(e:Env):Option Value:=match p.op with
 | .entry x=>dv n e x
 |_=>none
def Tg{P:Program}{s:St}{Q:β->St->Prop}{E:Halt->St->Prop}{k:Nat->Sem β}(hn:0 <n)(h:∀j,j <n->eN P (k j) s Q E):eN P (choose (.mapNext n) >>= k) s Q E:=by
 show (if (Question.mapNext n).forced=true then _ else _);split
 .exact h 0 hn
 exact λq=>h _ (Nat.mod_lt _ hn)
section
variable {X:Cx} {o:Option JS}
def jmR{es:Array MapEntry}(hm:X.ro r=some (.map es ck))(hj:∀b,J X (r8 [] (.pointer (some ⟨b,0,none⟩)) [(b,vi r ck [])] o))(hv:iJ X.n (mrV X.P X.n) o=some (.map (some r)):=by kernel_rfl)(hB:fV [] o=some []:=by kernel_rfl):J X o:=by
 refine jS (Φ:=λv L'=>∃b,v= .pointer (some ⟨b,0,none⟩)/\L'=[(b,vi r ck [])]) [] [] hv hB (λp e hf=>?_) (λv L' uK=>?_)
 .unfold mrV at hf;split at hf<;>try (cases hf;done)
  rename_i T x aX;split at hf<;>try (cases hf;done)
  rename_i iy;obtain⟨dP,tf⟩:=bA iy;refine⟨by rw[aX];simp,λR Q E hQ=>?_⟩;simp only[execOp,aX,Instr.range,aI,db tf,cg hf];refine fL (.inl hm) rfl rfl ?_;simp only[aI,aQ,vx];refine⟨rfl,?_⟩;intro b hb;exact hQ _ _ ⟨b,rfl,rfl⟩
 obtain⟨b,rfl,rfl⟩:=uK;exact hj b
def jmN{kv:κ->Value}{F:List (κ×Value)}{es:Array MapEntry}(i:Nat)(hm:X.ro r=some (.map es ck))(hE:wN kv F es ck)
 (hT:∀k v e,(k,v)∈F->e∈gq es seen->e.key=kv k->e.val=v->J X (r8 [i] (.tuple ⟨[.bool true,kv k,v]⟩) [(it,vi r ck (seen++[e.born]))] o))
 (hF:gq es seen=[]->J X (r8 [i] (.tuple ⟨[.bool false]⟩) [(it,vi r ck seen)] o))
 (hv:iJ X.n (nmV X.n) o=some (.pointer (some ⟨it,0,none⟩)):=by kernel_rfl)(hB:fV [i] o=some [(it,vi r ck seen)]:=by kernel_rfl):J X o:=by
 refine jS (Φ:=λv L'=>(∃e,e∈gq es seen/\v= .tuple ⟨[.bool true,e.key,e.val]⟩/\L'=[(it,vi r ck (seen++[e.born]))])\/(gq es seen=[]/\v= .tuple ⟨[.bool false]⟩/\L'=[(it,vi r ck seen)])) [i] _ hv hB (λp e hf=>?_) (λv L' uK=>?_)
 .unfold nmV at hf;split at hf<;>try (cases hf;done)
  rename_i x aX;refine⟨by rw[aX];simp,λR Q E hQ=>?_⟩;simp only[execOp,aX,Instr.next,aI,cg hf];have hs:(⟨X.ro,[(it,vi r ck seen)]++R⟩:St).rw=[]++(it,vi r ck seen)::R:=rfl;refine fL (o:=vi r ck seen) (.inr (by rw[hs];exact jF)) rfl rfl ?_;simp only[vi,aI];refine fL (.inl hm) rfl rfl ?_;simp only[aI];have hb:=hE.2.2;have dt:¬((!(⟨seen⟩:Array Nat).isEmpty&& !es.isEmpty&&es.all (·.born>=ck))=true):=by
   intro h;simp only[av,az,Array.all_eq_true,aC] at h;obtain⟨⟨_,h1⟩,h2⟩:=h;have sO:0 <es.size:=by
    rcases FH es.size with h0|h0
    .simp[Array.isEmpty,h0] at h1
    exact h0
   have:=h2 0 sO;have:=hb es[0] (by simp);omega
  rw[cy dt];have zk:(es.filter λe=> !(⟨seen⟩:Array Nat).contains e.born)=⟨gq es seen⟩:=by
   rcases es with ⟨l⟩
   simp[gq]
  have hold:((⟨gq es seen⟩:Array MapEntry).filter λe=>decide (e.born <ck))=⟨gq es seen⟩:=by
   have:(gq es seen).filter (λe=>decide (e.born <ck))=gq es seen:=List.filter_eq_self.2 λe he=>cN (hb e (cQ.1 he).1);simp[this]
  have Bf:((⟨gq es seen⟩:Array MapEntry).filter λe=>decide (e.born>=ck))=⟨[]⟩:=by
   have:(gq es seen).filter (λe=>decide (e.born>=ck))=[]:=List.filter_eq_nil_iff.2 λe he=>by
    have:=hb e (cQ.1 he).1;simp only[aC];omega
   simp[this]
  simp only[zk,hold,Bf];cases hl:gq es seen with
  |nil=>
   simp only[List.isEmpty_toArray,List.isEmpty_nil,dF];refine Tg (by simp) λj hj=>?_;have hc:(#[(none:Option MapEntry)]++((⟨[]⟩:Array MapEntry)++⟨[]⟩).map some)[j]?=some none:=by
    simp at hj;subst hj;simp
   show eN X.P ((match (#[(none:Option MapEntry)]++((⟨[]⟩:Array MapEntry)++⟨[]⟩).map some)[j]? with|some (some e)=>_|some none=>_|none=>_) >>= λv=>pure (Next.value v)) _ _ _;rw[hc];exact hQ _ _ (.inr ⟨hl,rfl,rfl⟩)
  |cons e0 l=>
   have hem:(⟨e0::l⟩:Array MapEntry).isEmpty=false:=by simp
   simp only[hem,aW,cJ];have KV:(#[]++((⟨e0::l⟩:Array MapEntry)++⟨[]⟩).map some:Array (Option MapEntry))=⟨(e0::l).map some⟩:=by simp
   rw[KV];refine Tg (by simp) λk ei=>?_;have ei:k <(e0::l).length:=by simpa using ei
   have hk:(⟨(e0::l).map some⟩:Array (Option MapEntry))[k]?=some (some (e0::l)[k]):=by
    rw[sL,gi,ai ei];rfl
   show eN X.P ((match (⟨(e0::l).map some⟩:Array (Option MapEntry))[k]? with|some (some e)=>_|some none=>_|none=>_) >>= λv=>pure (Next.value v)) _ _ _;rw[hk];simp only[aI];have pg:(⟨X.ro,[(it,Obj.mapIter (some r) ck ⟨seen⟩ ck)]++R⟩:St).rw=[]++(it,Obj.mapIter (some r) ck ⟨seen⟩ ck)::R:=rfl;refine jh (o:= .mapIter (some r) ck ((⟨seen⟩:Array Nat).push (e0::l)[k].born) ck) rfl pg rfl ?_;have hp:(⟨seen⟩:Array Nat).push (e0::l)[k].born=⟨seen++[(e0::l)[k].born]⟩:=by simp
   rw[hp];have:=hQ (.tuple ⟨[.bool true,(e0::l)[k].key,(e0::l)[k].val]⟩) [(it,vi r ck (seen++[(e0::l)[k].born]))] (.inl ⟨_,by rw[hl];exact AF ei,rfl,rfl⟩);exact this
 rcases uK with ⟨e,he,rfl,rfl⟩| ⟨h1,rfl,rfl⟩
 .have:(e.key,e.val)∈F.map (λx=>(kv x.1,x.2)):=by
   rw[<-hE.1];exact cY (f:=λe:MapEntry=>(e.key,e.val)) (cQ.1 he).1
  obtain⟨⟨k,v⟩,h1,h2⟩:=a8.1 this;simp only[bL] at h2;have:=hT k v e h1 he h2.1.symm h2.2.symm;rwa[h2.1,h2.2] at this
 exact hF h1
def jmE{kv:κ->Value}{F:List (κ×Value)}{es:Array MapEntry}{e:MapEntry}{k:κ}{v:Value}(i:Nat)(hm:X.ro r=some (.map es ck))(hE:wN kv F es ck)(he:e∈gq es seen)(hk:e.key=kv k)(hvl:e.val=v)
 (hj:J X (r8 [i] (.tuple ⟨[kv k,v]⟩) [(it,vi r ck (seen++[e.born]))] o))
 (hv:iJ X.n (enV X.n) o=some (.pointer (some ⟨it,0,none⟩)):=by kernel_rfl)(hB:fV [i] o=some [(it,vi r ck (seen++[e.born]))]:=by kernel_rfl):J X o:=by
 refine jS (Φ:=λw L'=>w= .tuple ⟨[kv k,v]⟩/\L'=[(it,vi r ck (seen++[e.born]))]) [i] _ hv hB (λp en hf=>?_) (λw L' uK=>?_)
 .unfold enV at hf;split at hf<;>try (cases hf;done)
  rename_i x aX;refine⟨by rw[aX];simp,λR Q E hQ=>?_⟩;simp only[execOp,aX,Instr.entry,aI,cg hf];have hs:(⟨X.ro,[(it,vi r ck (seen++[e.born]))]++R⟩:St).rw=[]++(it,vi r ck (seen++[e.born]))::R:=rfl;refine fL (o:=vi r ck (seen++[e.born])) (.inr (by rw[hs];exact jF)) rfl rfl ?_;have hbk:(⟨seen++[e.born]⟩:Array Nat).back?=some e.born:=by simp[Array.back?]
  simp only[vi,hbk,aI];refine fL (.inl hm) rfl rfl ?_;have hfe:es.find? (λx=>x.born==e.born)=some e:=by
   rcases es with ⟨l⟩
   have hel:e∈l:=(cQ.1 he).1;have kT:(l.map (·.born)).Nodup:=hE.2.1;simp only[List.find?_toArray];clear hm hE he hj hv hB hs hQ
   induction l with
   |nil=>cases hel
   |cons y l ih=>
    simp only[bR,iG,a8,not_exists,not_and] at kT;rcases aN.1 hel with rfl|h
    .simp
    have:y.born≠e.born:=λh2=>kT.1 e h h2.symm;rw[List.find?_cons_of_neg (by simpa using this)];exact ih h kT.2
  simp only[bne_self_eq_false,aW,cJ,hfe,aQ,aI];exact hQ _ _ ⟨by rw[hk,hvl],rfl⟩
 obtain⟨rfl,rfl⟩:=uK;exact hj
end
theorem P5{kv:κ->Value}{F:List (κ×Value)}{es:Array MapEntry}(hE:wN kv F es ck){e x:MapEntry}(he:e∈gq es seen)(hx:x∈gq es seen):x=e\/x∈gq es (seen++[e.born]):=by
 by_cases h:x.born=e.born
 .have kT:=hE.2.1;have h1:=(cQ.1 he).1;have h2:=(cQ.1 hx).1;generalize es.toList=l at kT h1 h2
  induction l with
  |nil=>cases h1
  |cons y l ih=>
   grind
 grind [ajR]
def msV(P:Program)(n:Nat)(p:Oper)(e:Env):Option (TypeId×List Value):=match p.op with
 | .makeSlice T x y=>match c9 P T with
  |some ⟨.slice E,_,_,_⟩=>match c9 P E with
   |some te=>match dv n e x,dv n e y with
    |some (.int .i64 a),some (.int .i64 b)=>bif (decide (a=2)&&decide (b=2))&&(Nat.beq te.size 1&&Nat.ble (rO P E) 65536) then some (E,te.zero) else none
    |_,_=>none
   |none=>none
  |_=>none
 |_=>none
def jmS{X:Cx}{z:Value}(hj:∀b,J X (r8 [] (.slice (some ⟨b,0,none⟩) 2 2) [(b,.cells ⟨[z,z]⟩ E (0,0))] o))(hv:iJ X.n (msV X.P X.n) o=some (E,[z]):=by kernel_rfl)(hB:fV [] o=some []:=by kernel_rfl):J X o:=by
 refine jS (Φ:=λv L'=>∃b,v= .slice (some ⟨b,0,none⟩) 2 2/\L'=[(b,.cells ⟨[z,z]⟩ E (0,0))]) [] [] hv hB (λp e hf=>?_) (λv L' uK=>?_)
 .unfold msV at hf;split at hf<;>try (cases hf;done)
  rename_i T x y aX;split at hf<;>try (cases hf;done)
  rename_i E' _ _ _ iy;split at hf<;>try (cases hf;done)
  rename_i te wH;split at hf<;>try (cases hf;done)
  rename_i a b hx hy;cases hc:((decide (a=2)&&decide (b=2))&&(Nat.beq te.size 1&&Nat.ble (rO X.P E') 65536)) with
  |false=>rw[hc] at hf;cases hf
  |true=>
   rw[hc] at hf;simp only[cG,aB,bL] at hf;obtain⟨rfl,hz⟩:=hf;simp only[av,aC,Nat.beq_eq,si] at hc;obtain⟨⟨rfl,rfl⟩,sO,hby⟩:=hc;obtain⟨byT,tf⟩:=bA iy;obtain⟨dP,og⟩:=bA wH;obtain⟨i,hi,hi1,Sb,hi3⟩:=og.info;have ako:dP<=65536:=by simp only[rO,hi] at hby;omega
   have ae7:¬((dP:Int)*2>2^48):=by omega
   have w2:IntKind.i64.wrap 2=2:=lJ 2 (by omega);have kp:(Sq [z] te.agg).cells=⟨[z]⟩:=by rw[<-hz];exact ij og
   have KV:((Array.range ((2:Int).toNat*1)).map λx=>(⟨[z]⟩:Array Value)[x % (⟨[z]⟩:Array Value).size]!)=⟨[z,z]⟩:=by apply Array.ext';simp[Nat.mod_one,List.range,List.range.loop]
   refine⟨by rw[aX];simp,λR Q E hQ=>?_⟩;simp only[execOp,aX,Instr.makeSlice,cg hx,cg hy,asInt,asIntOf,aI,db tf,aQ,qh hi,Sb,w2,ae7,show ¬((2:Int) <0) by omega,show ¬((2:Int)>2) by omega,decide_false,Bool.or_self,aW,cJ];refine uA ?_;simp only[aI,eE og,sO,show ¬((2:Int).toNat*1=0) by decide,cJ,oE og,aQ,hz,kp,KV,lT];intro b hb;exact hQ _ _ ⟨b,rfl,rfl⟩
 obtain⟨b,rfl,rfl⟩:=uK;exact hj b
def azb(body:Code):Option JS->Option (JS×Nat)
 |some ⟨.fin .normal,e,.b c oc:: .b b (.loop r)::w,kn⟩=>match r.state with
  | .ready=>some (⟨.code body [],e,.b c oc:: .b b (.loop {r with state:= .busy})::w,kn⟩,b)
  |_=>none
 |_=>none
def aGu{X:Cx}(h:J (X.re bl ro Φ) (NO (azb body o)))(h1:adt (azb body o)=some bl:=by kernel_rfl):J (X.rd bl ro Φ body) o:=by
 unfold azb at h h1;split at h<;>try (unfold NO at h;exact h.elim)
 rename_i e c oc b r w kn;split at h<;>try (unfold NO at h;exact h.elim)
 rename_i dt;unfold adt at h1;unfold NO at h;simp only[dt,aB] at h1;subst h1;intro ep;have hw:=h ep;refine⟨[(c,oc)],r,den w,by rw[p7,p7];rfl,dt,?_⟩;simp only[JP,p7] at hw;exact hw
theorem aRu{P:Program}{hm:P.follows .mixedOrders=true}(own:List Sg)(kn:Cells)(hk:Knows ro kn)(h:J (XM P hm f ro R) (pJ P f args own kn)):Fn (CP P) P f ⟨args⟩ ⟨ro,den own⟩ R:=by
 unfold pJ at h;split at h<;>try exact h.elim
 rename_i fn hf;split at h<;>try exact h.elim
 rename_i c hc;cases hl:Nat.ble args.length fn.ntmps with
 |false=>rw[hl] at h;exact h.elim
 |true=>
  rw[hl] at h;have C4:yx P f=fn:=by simp only[yx,hf]
  have:=h hk;simp only[JP,XM,KQ,C4] at this
  grind [Uz,kJ,rG,cP]
section
variable {X:Cx} {o:Option JS}
def bdT(hq:QM X R Cn)(v:Value)(pm hs ps:List Nat)(Y:Cells)(lO:Sub xd X.ro)(hR:R (.returned v) ⟨xd,Y⟩)(h0:fV pm o=some (mk Cn):=by kernel_rfl)(h1:yY (nG X.P X.n X.fn hs (Q9 pm o))=some v:=by kernel_rfl)(h2:Yx (nG X.P X.n X.fn hs (Q9 pm o))=Yw (nG X.P X.n X.fn hs (Q9 pm o)):=by kernel_rfl)(h3:fV ps (Q9 pm o)=some Y:=by kernel_rfl)(h4:Hr o=true:=by kernel_rfl):J X o:=by
 obtain⟨ex,e,w,kn,rfl,hex⟩:=Bi h4;simp only[Q9,nG] at h1 h2 h3;cases hr:J6 X.P X.n e (gG pm 0 w) kn.c hs (yx X.P X.fn).results.toList with
 |none=>simp only[hr,yY] at h1;cases h1
 |some x=>
  rcases x with ⟨vs,q⟩
  simp only[hr,yY,aB,Yx,Yw] at h1 h2;intro ep;have An:=BI ep hr (sE h2);have hp:=dS h3;have Qi:=Zm (s0:=⟨xd,Y⟩) (R:=R) hex An h1 (gM hp lO) hR;have ht:eN X.P (results (yx X.P X.fn) (A X.n e X.D).tmps) ⟨X.ro,den (gG pm 0 w)⟩ (λv s'=>∃s0,s0.le s'/\R (.returned v) s0) (λ_ _=>False):=by
   rcases hex with rfl|rfl<;>exact Qi.2
  show X.Q ex (A X.n e X.D) ⟨X.ro,den w⟩;rw[hq.q];have hm:∃Cn rest,(A X.n e X.D).defers=Cn.map jP/\(den w).Perm (mk Cn++rest)/\eN X.P (results (yx X.P X.fn) (A X.n e X.D).tmps) ⟨X.ro,rest⟩ _ (λ_ _=>False):=⟨Cn,_,hq.d,dS h0,ht⟩;rcases hex with rfl|rfl<;>exact hm
end
attribute [irreducible] mrV nmV enV vi msV azb
def rnM(P:Program):Sem α->List Nat->Cells->List (Nat×Nat)->Option (α×Cells×List (Nat×Nat))
 | .pure a,_,B,q=>some (a,B,q)
 | .load m a k,h::hs,B,q=>match m,a.spot,B[h]? with
  | .plain,none,some (b,.cells c _ _)=>match c[a.off]? with
   |some v=>rnM P (k v) hs B ((a.block,b)::q)
   |none=>none
  |_,_,_=>none
 | .shape r k,h::hs,B,q=>match B[h]? with
  |some (b,o)=>rnM P (k (Obj.shapeOf o)) hs B ((r,b)::q)
  |none=>none
 | .program k,hs,B,q=>rnM P (k P) hs B q
 |_,_,_,_=>none
def aEM{P:Program}:∀(m:Sem α) {hs:List Nat} {B B':Cells} {q q':List (Nat×Nat)} {v:α},rnM P m hs B q=some (v,B',q')->(∀p∈q',p.1=p.2)->
 (∀p∈q,p∈q')/\B'=B/\∀(s:St) (Q:α->St->Prop) (E:Halt->St->Prop),(∀x∈B,s.has x.1 x.2)->Q v s->eN P m s Q E:=by
 intro m
 induction m with
 |pure a=>intro hs B B' q q' v h _;simp only[rnM,aB,bL] at h;obtain⟨rfl,rfl,rfl⟩:=h;exact⟨λ_ h=>h,rfl,λ_ _ _ _ h=>h⟩
 |load m a k ih=>
  intro hs B B' q q' v h hq;cases hs with
  |nil=>cases h
  |cons j hs=>
   unfold rnM at h;split at h<;>try (cases h;done)
   rename_i b c t fz Ua hB;split at h<;>try (cases h;done)
   rename_i u hu;obtain⟨h1,h2,h3⟩:=ih _ h hq;have IM:a.block=b:=hq _ (h1 _ dQ);refine⟨λp hp=>h1 p (cb _ hp),h2,λs Q E hs hQ=>⟨rfl,Ua,c,t,fz,u,?_,hu,h3 s Q E hs hQ⟩⟩;left;rw[IM];exact hs _ (aj hB)
 |shape r k ih=>
  intro hs B B' q q' v h hq;cases hs with
  |nil=>cases h
  |cons j hs=>
   simp only[rnM] at h;split at h<;>try (cases h;done)
   rename_i b o hB;obtain⟨h1,h2,h3⟩:=ih _ h hq;have IM:r=b:=hq _ (h1 _ dQ);refine⟨λp hp=>h1 p (cb _ hp),h2,λs Q E hs hQ=>⟨o,?_,h3 s Q E hs hQ⟩⟩;rw[IM];exact hs _ (aj hB)
 |program k ih=>
  intro hs B B' q q' v h hq;simp only[rnM] at h;exact ih _ h hq
 |store=>intro hs B B' q q' v h hq;cases hs<;>cases h
 |new=>intro hs B B' q q' v h hq;cases hs<;>cases h
 |freeze=>intro hs B B' q q' v h hq;cases hs<;>cases h
 |frozen=>intro hs B B' q q' v h hq;cases hs<;>cases h
 |getObj=>intro hs B B' q q' v h hq;cases hs<;>cases h
 |setObj=>intro hs B B' q q' v h hq;cases hs<;>cases h
 |choose=>intro hs B B' q q' v h hq;cases hs<;>cases h
 |sys=>intro hs B B' q q' v h hq;cases hs<;>cases h
 |mark=>intro hs B B' q q' v h hq;cases hs<;>cases h
 |halt=>intro hs B B' q q' v h hq;cases hs<;>cases h
def anx:Op->Option (List Operand)
 | .call ⟨.builtin _,xs,_⟩=>some xs.toList
 |op=>PB op
theorem Zj{o:Oper}{xs:List Operand}(h:anx o.op=some xs){f g:Operand->Value}(hfg:∀x∈xs,f x=g x):execOp f o=execOp g o:=by
 unfold anx at h;split at h
 .rename_i b xs at_ heq;simp only[aB] at h;subst h;have:xs.map f=xs.map g:=Array.map_congr_left λa ha=>hfg a (by simpa using ha);simp only[execOp,heq,resolve,this]
 exact BM h hfg
def smV(P:Program)(n:Nat)(hs:List Nat)(B:Cells)(p:Oper)(e:Env):Option (Value×List (Nat×Nat)):=match anx p.op with
 |some xs=>match F5 n e xs with
  |some _=>match rnM P (execOp (evj n e) p) hs B [] with
   |some (.value v,_,q)=>some (v,q)
   |_=>none
  |none=>none
 |none=>none
theorem JL{γ:Type}{f:Oper->Env->Option β}{g:β->γ}:iJ n (λp e=>(f p e).map g) o=(iJ n f o).map g:=by
 unfold iJ
 grind [fp]
def smA(P:Program)(n:Nat)(hs:List Nat)(B:Cells)(p:Oper)(e:Env):Option Value:=(smV P n hs B p e).map (·.1)
def smL(P:Program)(n:Nat)(hs:List Nat)(B:Cells)(p:Oper)(e:Env):Option (List Nat):=(smV P n hs B p e).map λx=>afr x.2
def smR(P:Program)(n:Nat)(hs:List Nat)(B:Cells)(p:Oper)(e:Env):Option (List Nat):=(smV P n hs B p e).map λx=>ads x.2
section
variable {X:Cx} {o:Option JS}
def jmo(ps hs:List Nat)(B:Cells)(v:Value)(hj:J X (r8 ps v B o))(hv:iJ X.n (smA X.P X.n hs B) o=some v:=by kernel_rfl)(hq:iJ X.n (smL X.P X.n hs B) o=iJ X.n (smR X.P X.n hs B) o:=by kernel_rfl)(hB:fV ps o=some B:=by kernel_rfl):J X o:=by
 rw[show smA X.P X.n hs B=λp e=>(smV X.P X.n hs B p e).map (·.1) from rfl,JL] at hv;rw[show smL X.P X.n hs B=λp e=>(smV X.P X.n hs B p e).map (λx=>afr x.2) from rfl,show smR X.P X.n hs B=λp e=>(smV X.P X.n hs B p e).map (λx=>ads x.2) from rfl,JL,JL] at hq;cases hx:iJ X.n (smV X.P X.n hs B) o with
 |none=>rw[hx] at hv;cases hv
 |some x=>
  rcases x with ⟨v',q⟩
  rw[hx] at hv hq;simp only[dD,aB] at hv hq;subst hv;refine jS (Φ:=λu L'=>u=v'/\L'=B) ps B hx hB (λp e hf=>?_) (λu L' uK=>by obtain⟨rfl,rfl⟩:=uK;exact hj);unfold smV at hf;split at hf<;>try (cases hf;done)
  rename_i xs aX;split at hf<;>try (cases hf;done)
  rename_i ws WB;split at hf<;>try (cases hf;done)
  rename_i u B' q2 dz;simp only[aB,bL] at hf;obtain⟨rfl,rfl⟩:=hf;refine⟨λc hc=>?_,λR Q E hQ=>?_⟩
  .rw[hc] at aX;cases aX
  rw[Zj aX (Xn (f:=ev X.n e) (λx v h=>cg h) WB)];obtain⟨_,_,h3⟩:=aEM _ dz (sE hq);exact h3 _ _ _ (λx hx=> .inr (cZ _ hx)) (hQ _ _ ⟨rfl,rfl⟩)
theorem Rc:∀(n t:Nat) (acc:Array Value),(Extern.BytealgMakeNoZero.digits n t acc).size=acc.size+n
 |0,_,_=>rfl
 |n+1,t,acc=>by
  simp only[Extern.BytealgMakeNoZero.digits,Rc n,Array.size_push];omega
def jnz{ps rs:Array TypeId}(ef:EF X.P f (Extern.BytealgMakeNoZero.makeNoZero ps rs))(hT:rs[0]?=some T) (tf:TF X.P T (.slice E) sz dP z ag) (hn:n<=1000)
 (hj:∀b l,n<=l.length->J X (r8 [] (.slice (some ⟨b,0,none⟩) n l.length) [(b,.cells ⟨l⟩ E (0,0))] o)) (hv:iJ X.n (asR X.n) o=some (f,[.int .i64 (n:Int)]):=by kernel_rfl) (hB:fV [] o=some []:=by kernel_rfl):J X o:=by
 obtain⟨ops,i,todo,k,e,w,kn,p,rfl,ho,hw,hc⟩:=gK hv;obtain⟨xs,at_,aX,hx⟩:=Xm hc;intro ep;rcases p with ⟨dst,op,ty,pos,gf,g⟩
 dsimp only at aX;subst aX;refine aoS X.hC ho hw ef hx ?_;have eM:Extern.BytealgMakeNoZero.makeNoZero ps rs ⟨[Value.int .i64 (n:Int)]⟩=(do
  let some t:=rs[0]?|stuck "bytealg.MakeNoZero: no result type"
  let .slice elem <-underlying t|stuck "bytealg.MakeNoZero: slice type expected"
  if (n:Int) <0||(n:Int)>2^48 then runtimePanic (.error "makeslice: len out of range")
  let cap <-choose (.appendCap (n:Int).toNat 0 elem)
  askRoom cap
  let bytes <-choose (.extern "internal/bytealg.MakeNoZero.bytes" 0)
  let a <-newRow elem (Extern.BytealgMakeNoZero.digits cap bytes #[])
  pure (.slice (some a) (n:Int).toNat cap)):=rfl
 rw[eM];simp only[hT,db tf];rw[cy (by simp only[aF,aC];omega)];refine am4 rfl λq=>?_;refine uA ?_;show (if (Question.extern "internal/bytealg.MakeNoZero.bytes" 0).forced=true then _ else _)
 have key:∀cap bytes,n<=cap->eN X.P (newRow E (Extern.BytealgMakeNoZero.digits cap bytes #[]) >>= λa=>pure (Value.slice (some a) ((n:Int).toNat) cap)) ⟨X.ro,den w⟩ (λv s'=>aR X.C X.fn X.bW ops todo (KQ X k) (A X.n (upd dst v e) X.D) s') (λ_ _=>False):=by
  intro cap bytes iK;rw[lT];intro b hb;have hl:(Extern.BytealgMakeNoZero.digits cap bytes #[]).toList.length=cap:=by
   rw[YF,Rc];simp
  have:=hj b (Extern.BytealgMakeNoZero.digits cap bytes #[]).toList (by omega);rw[tF ho] at this;have:=this ep;simp only[JP,lG,hl,Fu] at this;exact this
 split
 .exact key _ _ (by show n<=(n:Int).toNat+_;rw[Int.toNat_natCast];exact Nat.le_add_right _ _)
 exact λq2=>key _ _ (by show n<=(n:Int).toNat+_;rw[Int.toNat_natCast];exact Nat.le_add_right _ _)
def sdV(n:Nat)(p:Oper)(e:Env):Option (Addr×Nat×Nat):=match p.op with
 | .call ⟨.builtin .unsafeSliceData,xs,_⟩=>match F5 n e xs.toList with
  |some [.slice (some a) l c]=>some (a,l,c)
  |_=>none
 |_=>none
def jsd{a:Addr}{l c:Nat}(h:c≠0)(hj:J X (r8 [] (.pointer (some a)) [] o))(hv:iJ X.n (sdV X.n) o=some (a,l,c):=by kernel_rfl)(hB:fV [] o=some []:=by kernel_rfl):J X o:=by
 refine jS (Φ:=λu L'=>u= .pointer (some a)/\L'=[]) [] [] hv hB (λp e hf=>?_) (λu L' uK=>by obtain⟨rfl,rfl⟩:=uK;exact hj);unfold sdV at hf;split at hf<;>try (cases hf;done)
 rename_i xs at_ aX;split at hf<;>try (cases hf;done)
 rename_i a' l' c' hx;simp only[aB,bL] at hf;obtain⟨rfl,rfl,rfl⟩:=hf;refine⟨by rw[aX];simp,λR Q E hQ=>?_⟩;have e1:Builtin.unsafeSliceData_ at_ p.type ⟨[.slice (some a') l' c']⟩=pure (.pointer (some a')):=by
  show (if c'≠0 then _ else _)=_;rw[dN h]
 simp only[execOp,aX,resolve,yy (show Aw X.n e xs=_ from hx),aQ,invoke,builtin,e1];exact hQ _ _ ⟨rfl,rfl⟩
def usV(P:Program)(n:Nat)(p:Oper)(e:Env):Option (Nat×TypeId):=match p.op with
 | .call ⟨.builtin .unsafeString,xs,at_⟩=>match at_[0]? with
  |some pt=>match c9 P pt with
   |some ⟨.pointer E,_,_,_⟩=>bif Nat.beq (P.cellsOf E) 1 then (match F5 n e xs.toList with
    |some [.pointer (some ⟨b,0,none⟩),.int .i64 1]=>some (b,E)
    |_=>none) else none
   |_=>none
  |none=>none
 |_=>none
def jus{b:Nat}(ps:List Nat)(x:Int)(l:List Value)(hj:∀L',J X (r8 ps (.string ⟨#[x.toNat.toUInt8]⟩) L' o))(hv:iJ X.n (usV X.P X.n) o=some (b,E):=by kernel_rfl)(hB:fV ps o=some [(b,.cells ⟨.int .u8 x::l⟩ E (0,0))]:=by kernel_rfl):J X o:=by
 refine jS (Φ:=λu L'=>u= .string ⟨#[x.toNat.toUInt8]⟩) ps _ hv hB (λp e hf=>?_) (λu L' uK=>by subst uK;exact hj L');unfold usV at hf;split at hf<;>try (cases hf;done)
 rename_i xs at_ aX;split at hf<;>try (cases hf;done)
 rename_i pt hpt;split at hf<;>try (cases hf;done)
 rename_i E' _ _ _ iy;cases hc:Nat.beq (X.P.cellsOf E') 1 with
 |false=>rw[hc] at hf;cases hf
 |true=>
  rw[hc] at hf;simp only[cG] at hf;split at hf<;>try (cases hf;done)
  rename_i b' hx;simp only[aB,bL] at hf;obtain⟨rfl,rfl⟩:=hf;have hc:=dW hc;obtain⟨dP,tf⟩:=bA iy;refine⟨by rw[aX];simp,λR Q Er hQ=>?_⟩;have e1:Builtin.unsafeString_ at_ p.type ⟨[.pointer (some ⟨b',0,none⟩),.int .i64 1]⟩=(do
   let n <-asInt (.int .i64 1)
   let some pt:=at_[0]?|stuck "unsafe.String: no argument types"
   if n <0 then runtimePanic (.error "unsafe.String: len out of range")
   if n>IntKind.i64.max then unsupported (.unsafePointer "String: a length above the largest int")
   if n=0 then pure (.string .empty)
   else if <-variablesAt ⟨b',0,none⟩ (<-elemOf pt) n.toNat then do
    let s <-loadBytes ⟨b',0,none⟩ .empty n.toNat
    freeze ⟨b',0,none⟩ n.toNat
    pure (.string s)
   else unsupported (.unsafePointer "String: not so many bytes at ptr")):=rfl
  simp only[execOp,aX,resolve,yy (show Aw X.n e xs=_ from hx),aQ,invoke,builtin,e1];simp only[asInt,asIntOf,aI,aQ,hpt,show ¬((1:Int) <0) by omega,show ¬((1:Int)>IntKind.i64.max) by decide,show ¬((1:Int)=0) by omega,cJ,elemOf,db tf,variablesAt,jJ];have hs:(⟨X.ro,[(b',Obj.cells ⟨Value.int .u8 x::l⟩ E' (0,0))]++R⟩:St).rw=[]++(b',Obj.cells ⟨Value.int .u8 x::l⟩ E' (0,0))::R:=rfl;have hm:(⟨X.ro,[(b',Obj.cells ⟨Value.int .u8 x::l⟩ E' (0,0))]++R⟩:St).has b' (.cells ⟨Value.int .u8 x::l⟩ E' (0,0)):= .inr (by rw[hs];exact jF);refine⟨_,hm,?_⟩;have aSY:=Go.Lib.liesAt_bytes (P:=X.P) hc ((Value.int .u8 x::l).length / X.P.cellsOf E') 1 (by rw[hc];simp);have pb:∀ {α β:Type} (a:α) (f:α->Sem β),(Sem.pure a).bind f=f a:=λ_ _=>rfl;simp only[Obj.shapeOf,List.size_toArray,aI,aQ,pb];rw[show (1:Int).toNat=1 from rfl,aSY];simp only[aQ,aI,dF,loadBytes];refine⟨rfl,rfl,_,_,_,.int .u8 x,.inl hm,rfl,?_⟩;simp only[aI,aQ];refine(cy (by omega:¬(1:Nat)=0)).mpr ?_;refine⟨[],_,R,hs,?_⟩;exact hQ (.string ⟨#[x.toNat.toUInt8]⟩) [(b',_)] rfl
def pnV(P:Program)(n:Nat)(p:Oper)(e:Env):Option (Nat×Nat):=match p.op with
 | .binOp .neq T x y _=>match c9 P T with
  |some ⟨.pointer E,_,_,_⟩=>match c9 P E with
   |some te=>bif Nat.blt 0 te.size then (match dv n e x with
    |some (.pointer (some ⟨b,0,none⟩))=>match dv n e y with
     |some (.pointer (some ⟨c,0,none⟩))=>some (b,c)
     |_=>none
    |_=>none) else none
   |none=>none
  |_=>none
 |_=>none
theorem ayM{P:Program}{sz2 Db:Nat}{z2:List Value}{ag2:Bool}(tf:TF P t (.pointer E) sz dP z ag){d:TypeDesc}(tT:TF P E d sz2 Db z2 ag2)(hs:sz2≠0)(a:Addr):EqD P (dep+1) t (.pointer (some a)) (.pointer (some a)) true:=by
 intro α s kk Q Er;simp only[Op.equalIn,aI,db tf,eE tT,hs,ne_eq,not_false_eq_true,dF,sameAddr,beq_self_eq_true,aQ]
def jpn{b:Nat}(hj:J X (r8 [] (.bool false) [] o))(hv:iJ X.n (pnV X.P X.n) o=some (b,b):=by kernel_rfl)(hB:fV [] o=some []:=by kernel_rfl):J X o:=by
 refine jS (Φ:=λu L'=>u= .bool false/\L'=[]) [] [] hv hB (λp e hf=>?_) (λu L' uK=>by obtain⟨rfl,rfl⟩:=uK;exact hj);unfold pnV at hf;split at hf<;>try (cases hf;done)
 rename_i T x y T2 aX;split at hf<;>try (cases hf;done)
 rename_i E' _ _ _ iy;split at hf<;>try (cases hf;done)
 rename_i te wH;cases hc:Nat.blt 0 te.size with
 |false=>rw[hc] at hf;cases hf
 |true=>
  rw[hc] at hf;simp only[cG] at hf;split at hf<;>try (cases hf;done)
  rename_i b' hx;split at hf<;>try (cases hf;done)
  rename_i c' hy;simp only[aB,bL] at hf;obtain⟨rfl,rfl⟩:=hf;obtain⟨dP,tf⟩:=bA iy;obtain⟨Db,tT⟩:=bA wH;have hc:0 <te.size:=by rwa[agl] at hc
  refine⟨by rw[aX];simp,λR Q Er hQ=>?_⟩;have hs:te.size≠0:=by omega
  simp only[execOp,aX,cg hx,cg hy,eqGuard,aI,binOp,Op.equal,Op.maxDepth];simp only[qZ,aW,cJ,aQ,aI];rw[ayM (dep:=9999) tf tT hs];exact hQ _ _ ⟨rfl,rfl⟩
end
attribute [irreducible] smV smA smL smR sdV usV pnV
section
variable {X:Cx} {o:Option JS}
def s0V(P:Program)(n:Nat)(p:Oper)(e:Env):Option (Addr×Nat×Nat):=match p.op with
 | .slice T x none (some y) none=>match c9 P T with
  |some ⟨.slice E,_,_,_⟩=>match c9 P E with
   |some _=>match dv n e x with
    |some (.slice (some ⟨b,0,none⟩) l c)=>match dv n e y with
     |some (.int .i64 0)=>some (⟨b,0,none⟩,l,c)
     |_=>none
    |_=>none
   |none=>none
  |_=>none
 |_=>none
def js0{a:Addr}{l c:Nat}(hj:J X (lX (.slice (some a) 0 c) o))(hv:fp X.n (s0V X.P X.n) o=some (a,l,c):=by kernel_rfl):J X o:=by
 refine jG hv (λs p e ho hh hf=>?_) hj;unfold s0V at hf;split at hf<;>try (cases hf;done)
 rename_i T x y aX;split at hf<;>try (cases hf;done)
 rename_i E _ _ _ iy;split at hf<;>try (cases hf;done)
 rename_i te wH;split at hf<;>try (cases hf;done)
 rename_i b l' c' hx;split at hf<;>try (cases hf;done)
 rename_i hy;simp only[aB,bL] at hf;obtain⟨rfl,rfl,rfl⟩:=hf;obtain⟨dP,tf⟩:=bA iy;obtain⟨Db,tT⟩:=bA wH;have key:∀s,Yields X.P X.n e p s (.slice (some ⟨b,0,none⟩) 0 c'):=by
  intro s s' pg f hf K E hK;have hb:(0:Int)<=0/\(0:Int)<=(c':Int):=by omega
  simp only[execOp,aX,dD,lQ,Instr.sliceAt,Instr.slice,hf _ _ hx,hf _ _ hy,aI,db tf,Instr.sliceBounds,Instr.sliceBound,asIntOf,aQ,hb,Tb,dF,eE tT];have he:(if c'=0 then (some ⟨b,0,none⟩:Option Addr) else some ((⟨b,0,none⟩:Addr).add (0*te.size)))=some ⟨b,0,none⟩:=by
   split
   .rfl
   simp[ir]
  rw[show (0:Int).toNat=0 from rfl,he];exact hK
 exact⟨by rw[aX];rfl,λ_=>key _,λ_=>key⟩
end
attribute [irreducible] s0V
section
variable {X:Cx} {o:Option JS}
def cpV(P:Program)(n:Nat)(p:Oper)(e:Env):Option Nat:=match p.op with
 | .call ⟨.builtin .cap,⟨[x]⟩,⟨[T]⟩⟩=>match c9 P T with
  |some ⟨.slice _,_,_,_⟩=>match dv n e x with
   |some (.slice _ _ c)=>some c
   |_=>none
  |_=>none
 |_=>none
def jcp{c:Nat}(hj:J X (lX (.int .i64 (c:Int)) o))(hv:fp X.n (cpV X.P X.n) o=some c:=by kernel_rfl):J X o:=by
 refine jG hv (λs p e ho hh hf=>?_) hj;unfold cpV at hf;split at hf<;>try (cases hf;done)
 rename_i x T aX;split at hf<;>try (cases hf;done)
 rename_i iy;split at hf<;>try (cases hf;done)
 rename_i a l c' hx;simp only[aB] at hf;subst hf;obtain⟨dP,tf⟩:=bA iy;have key:∀s,Yields X.P X.n e p s (.int .i64 (c':Int)):=by
  intro s s' pg f hf K E hK;simp only[execOp,aX,resolve,invoke,builtin,oT,bR,lR,hf _ _ hx,aQ,aI,Builtin.cap_,sL,my,db tf];exact hK
 exact⟨by rw[aX];rfl,λ_=>key _,λ_=>key⟩
end
attribute [irreducible] cpV
end Go.L
