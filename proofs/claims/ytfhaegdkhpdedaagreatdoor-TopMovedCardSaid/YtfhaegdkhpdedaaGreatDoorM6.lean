/- Part 6 of the proof. -/
import Derived.Test.YtfhaegdkhpdedaaGreatDoorM5
import Derived.Lib.UnsafeStr
set_option maxRecDepth 100000
set_option maxHeartbeats 4000000
set_option linter.all false
namespace Go.L
open Go Go.Conc
variable {ro wY:Nat→Option Obj} {R:Ending→St→Prop} {Φ:Value→Cells→Prop} {f:FuncId} {κ ι α β:Type} {args z l vs ca:List Value} {todo seen B7:List Nat} {T E t:TypeId} {n sz i dL r dep off id ck bl it:Nat} {o o1:Option JS} {e:Env} {b:ByteArray} {p:Oper} {tm:Array Value} {C:Class} {ag main:Bool} {cs:List Frame} {fn:Func} {ae bd body:Code} {bR:Option Nat} {hi:Option Int} {X1:Cx} {s':St} {kn fr:Cells}
def x6(P:Program)(f:FuncId):Func:=match P.funcs[f]? with
 |some fn=>fn
 |none=>default
abbrev RX(ro:Nat->Option Obj)(Φ:Value->Cells->Prop):Ending->St->Prop:=λen s'=>∃v X,en= .returned v/\s'=⟨ro,X⟩/\Φ v X
def X0(P:Program)(hm:P.follows .mixedOrders=true)(f:FuncId)(ro:Nat->Option Obj)(R:Ending->St->Prop):Cx:=⟨P,CP P,kH,hm,f,none,(x6 P f).ntmps,[],ro,y9 P (x6 P f) R⟩
def pI(P:Program)(f:FuncId)(args:List Value)(own:List Sg)(kn:Cells):Option JS:=match P.funcs[f]? with
 |some fn=>match fn.body with
  |some c=>bif Nat.ble args.length fn.ntmps then some ⟨.code c [],mC 0 args,own,⟨kn,[]⟩⟩ else none
  |none=>none
 |none=>none
def bdQ{P:Program}{hm:P.follows .mixedOrders=true}(own:List Sg)(kn:Cells)(hk:Knows ro kn)(h:J (X0 P hm f ro R) (pI P f args own kn)):Fn (CP P) P f ⟨args⟩ ⟨ro,den own⟩ R:=by
 unfold pI at h;split at h<;>try exact h.elim
 rename_i fn hf;split at h<;>try exact h.elim
 rename_i c hc;cases hl:Nat.ble args.length fn.ntmps with
 |false=>rw[hl] at h;exact h.elim
 |true=>
  rw[hl] at h;have CM:x6 P f=fn:=by simp only[x6,hf]
  have:=h hk;simp only[JP,X0,KQ,CM] at this;exact abm kH hf hc rfl hl this
def dD{P:Program}(hm:P.follows .mixedOrders=true){L:Cells}(own:List Sg)(kn:Cells)(hk:Knows ro kn)(h:J (X0 P hm f ro (RX ro Φ)) (pI P f args own kn))(hL:den own=L:=by rfl):eW P f args ro L Φ:=by
 subst hL;exact bdQ own kn hk h
def JJ(P:Program)(n:Nat)(e:Env)(w:List Sg)(kn:Cells):List Nat->List ResultVar->Option (List Value×List (Nat×Nat))
 |_,[]=>some ([],[])
 |hs,.tmp t::rs=>match dv n e (.tmp t) with
  |some v=>match JJ P n e w kn hs rs with
   |some (vs,q)=>some (v::vs,q)
   |none=>none
  |none=>none
 |h::hs,.cell t T::rs=>match dv n e (.tmp t) with
  |some (.pointer (some ⟨b,off,none⟩))=>match IW w kn h with
   |some (b',l)=>match ldv P T l off with
    |some v=>match JJ P n e w kn hs rs with
     |some (vs,q)=>some (v::vs,(b',b)::q)
     |none=>none
    |none=>none
   |none=>none
  |_=>none
 | [],.cell _ _::_=>none
def nz(P:Program)(n:Nat)(f:FuncId)(hs:List Nat):Option JS->Option (Value×List (Nat×Nat))
 |some ⟨.fin _,e,w,kn⟩=>match JJ P n e w kn.c hs (x6 P f).results.toList with
  |some (vs,q)=>some (Dz vs,q)
  |none=>none
 |_=>none
def yF:Option (Value×List (Nat×Nat))->Option Value
 |some (v,_)=>some v
 |none=>none
def Yf:Option (Value×List (Nat×Nat))->List Nat
 |some (_,q)=>afa q
 |none=>[0]
def Ye:Option (Value×List (Nat×Nat))->List Nat
 |some (_,q)=>ac7 q
 |none=>[1]
def Bz{X:Cx}{w:List Sg}(ep:Knows X.ro kn):∀ {hs:List Nat} {rs:List ResultVar} {vs:List Value} {q:List (Nat×Nat)},JJ X.P X.n e w kn hs rs=some (vs,q)->(∀p∈q,p.1=p.2)->NT X.P ⟨X.ro,den w⟩ X.n e rs vs
 |_,[],vs,q,h,_=>by simp only[JJ,aD,bP] at h;obtain⟨rfl,rfl⟩:=h;exact .nil
 |hs,.tmp t::rs,vs,q,h,hq=>by
  simp only[JJ] at h;split at h<;>try (cases h;done)
  rename_i v hv;split at h<;>try (cases h;done)
  rename_i vU q' hr;simp only[aD,bP] at h;obtain⟨rfl,rfl⟩:=h;exact .tmp hv (Bz ep hr hq)
 | [],.cell _ _::_,vs,q,h,_=>by simp only[JJ] at h;cases h
 |h0::hs,.cell t T::rs,vs,q,h,hq=>by
  simp only[JJ] at h;split at h<;>try (cases h;done)
  rename_i b off hv;split at h<;>try (cases h;done)
  rename_i b' l hc;split at h<;>try (cases h;done)
  rename_i v hld;split at h<;>try (cases h;done)
  rename_i vU q' hr;simp only[aD,bP] at h;obtain⟨rfl,rfl⟩:=h;have hb:b'=b:=hq _ dX;subst hb;obtain⟨t',fz,hh⟩:=Hj (X:=X) ep hc;have ih:=Bz ep hr λp hp=>hq p (cm _ hp);unfold ldv at hld;split at hld<;>try (cases hld;done)
  rename_i ti ig;obtain⟨dL,tf⟩:=bA ig;cases ha:ti.agg with
  |true=>
   rw[ha] at hld tf;simp only[cH] at hld;split at hld<;>try (cases hld;done)
   rename_i vs2 hvs;cases hld;exact .agg tf hv ⟨_,_,_,hh,hvs⟩ ih
  |false=>
   rw[ha] at hld tf;simp only[fJ] at hld;exact .cell tf hv ⟨_,_,_,hh,hld⟩ ih
def Ha:Option JS->Bool
 |some ⟨.fin .ret,_,_,_⟩=>true
 |some ⟨.fin .normal,_,_,_⟩=>true
 |_=>false
theorem A8(h:Ha o=true):∃ex e w kn,o=some ⟨.fin ex,e,w,kn⟩/\(ex= .ret\/ex= .normal):=by
 unfold Ha at h
 grind
def api:Option JS->Bool
 |some ⟨.ops ..,_,_,_⟩=>true
 |some ⟨.code ..,_,_,_⟩=>true
 |_=>false
structure QR(X:Cx)(R:Ending->St->Prop):Prop where
 q:X.Q=y9 X.P (x6 X.P X.fn) R
 d:X.D=[]
def q0{P:Program}{hm:P.follows .mixedOrders=true}:QR (X0 P hm f ro R) R:=⟨rfl,rfl⟩
theorem QR.a{X:Cx}(h:QR X R):QR (X.at ro) R:=⟨h.q,h.d⟩
theorem c9:Knows ro []:=λ_ h=>by grind
section
variable {X:Cx} {o:Option JS}
def bY(hq:QR X R)(v:Value)(hs ps:List Nat)(Y:Cells)(lG:Sub wY X.ro)(hR:R (.returned v) ⟨wY,Y⟩)(h1:yF (nz X.P X.n X.fn hs o)=some v:=by kernel_rfl)(h2:Yf (nz X.P X.n X.fn hs o)=Ye (nz X.P X.n X.fn hs o):=by kernel_rfl)(h3:fT ps o=some Y:=by kernel_rfl)(h4:Ha o=true:=by kernel_rfl):J X o:=by
 obtain⟨ex,e,w,kn,rfl,hex⟩:=A8 h4;simp only[nz] at h1 h2;cases hr:JJ X.P X.n e w kn.c hs (x6 X.P X.fn).results.toList with
 |none=>rw[hr] at h1;cases h1
 |some x=>
  rcases x with ⟨vs,q⟩
  simp only[hr,yF,aD,Yf,Ye] at h1 h2;intro ep;have Ad:=Bz ep hr (sg h2);have hp:=dN h3;show X.Q ex (A X.n e X.D) ⟨X.ro,den w⟩;rw[hq.q,hq.d];exact YZ (s0:=⟨wY,Y⟩) hex Ad h1 (gG hp lG) hR
def yj(X:Cx)(K:Act->St->Prop)(ef:ι->Env)(wf:ι->List Sg)(Inv:ι->Prop)(μ:ι->Nat)(m:Nat):Prop:=
 ∀j,Inv j->μ j <m->∀(e:Env) (s:St),qJ e (ef j)->(⟨X.ro,den (wf j)⟩:St).le s->K (A X.n e X.D) s
def FP:List Nat->List (Act->St->Prop)->Code->List KI->Option (Code×List KI)
 | [],_,c,k=>some (c,k)
 |0::p,Ks,.seq a b,k=>FP p Ks a (.seq b::k)
 |1::p,Ks,.seq _ b,k=>FP p Ks b k
 |2::p,K::Ks,.seq a _,k=>FP p Ks a (.next K::k)
 |_::p,Ks,.block id c,k=>FP p Ks c (.block id::k)
 |_::p,Ks,.scope c,k=>FP p Ks c k
 |0::p,Ks,.cond _ a _,k=>FP p Ks a k
 |_::p,Ks,.cond _ _ b,k=>FP p Ks b k
 |_::p,K::Ks,.loop c,k=>FP p Ks c (.next K::k)
 |_::p,Ks,.rangeFunc _ _ _ b,_=>FP p Ks b []
 |_,_,_,_=>none
def Tf(P:Program)(f:FuncId)(p:List Nat)(Ks:List (Act->St->Prop)):Option (Code×List KI):=match (x6 P f).body with
 |some c=>FP p Ks c []
 |none=>none
def stC(e:Env)(w:List Sg):Option (Code×List KI)->Option JS
 |some (c,k)=>some ⟨.code c k,e,w,⟨[],[]⟩⟩
 |none=>none
def stW(P:Program)(f:FuncId)(p:List Nat)(Ks:List (Act->St->Prop))(e:Env)(w:List Sg):Option JS:=stC e w (Tf P f p Ks)
def Gb:Option JS->Option (Code×List KI)
 |some ⟨.code c k,_,_,_⟩=>some (c,k)
 |_=>none
def lpB(K:Act->St->Prop):Option (Code×List KI)->Option (Code×List KI)
 |some (.loop c,k)=>some (c,.next K::k)
 |_=>none
def iE(p:List Nat)(Ks:List (Act->St->Prop))(ef:ι->Env)(wf:ι->List Sg)(Inv:ι->Prop)(μ:ι->Nat)(i0:ι)(h0:Inv i0)(ps:List Nat)(hb:∀i,Inv i->∀K,yj X K ef wf Inv μ (μ i)->∀rest,J X (stW X.P X.fn p (Ks++[K]) (ef i++rest) (wf i)))
 (h1:sY (qg (ef i0)) o=some (ef i0):=by kernel_rfl)(hd:∀i,lkE (qg (ef i)) (ef i)=some (ef i):=by intro _;kernel_rfl)(h2:wL ps o=some (wf i0):=by kernel_rfl)(hp:∀K,Tf X.P X.fn p (Ks++[K])=lpB K (Gb o):=by intro _;kernel_rfl):J X o:=by
 have hT:∀i,yj X (λ_ _=>True) ef wf Inv μ (μ i):=λ_ _ _ _ _ _ _ _=>bW;have bad:∀(K:Act->St->Prop),lpB K (Gb o)=none->(∀i,yj X K ef wf Inv μ (μ i))->J X o:=λK h hK=>by
  have:=hb i0 h0 K (hK i0) [];simp only[stW,hp,h,stC] at this;exact this.elim
 cases o with
 |none=>exact bad _ rfl hT
 |some s=>
  rcases s with ⟨q,e,w,kn⟩
  cases q with
  |code c k=>
   cases c with
   |loop c=>
    intro ep;refine amh X.hC ef (λi=>⟨X.ro,den (wf i)⟩) Inv μ i0 h0 (qz (by rw[A1] at h1;exact h1)) (qz (hd i0)) (gG (rL h2) (Sub.refl _)) λi hi rest=>?_;have:=hb i hi _ (λj hj hm e s hc hle=>awB j hj hm hc (qz (hd j)) hle) rest;simp only[stW,hp,Gb,lpB,stC] at this;exact this λ_ h=>(mj h).elim
   |_=>exact bad _ rfl hT
  |_=>exact bad _ rfl hT
def VW:Option JS->Option (Act->St->Prop)
 |some ⟨.nxt K,_,_,_⟩=>some K
 |_=>none
def dY{K:Act->St->Prop}{ef:ι->Env}{wf:ι->List Sg}{Inv:ι->Prop}{μ:ι->Nat}{m:Nat}(hK:yj X1 K ef wf Inv μ m)(j:ι)(h:Inv j)(hm:μ j <m)(ps:List Nat)(hs:Sub X1.ro X.ro)
 (h0:VW o=some K:=by kernel_rfl)(h1:sY (qg (ef j)) o=some (ef j):=by kernel_rfl)(h2:wL ps o=some (wf j):=by kernel_rfl)(hn:X1.n=X.n:=by rfl)(hD:X1.D=X.D:=by rfl):J X o:=by
 unfold VW at h0;split at h0<;>try (cases h0;done)
 rename_i K' e w kn;cases h0;intro _;rw[A1] at h1;have:=hK j h hm e _ (qz h1) (gG (rL h2) hs);rw[hn,hD] at this;exact this
def gS:List (List Nat)->List Sg->Option (List Cells)
 | [],_=>some []
 |p::r,w=>match Zs p w with
  |some x=>match gS r w with
   |some y=>some (den x::y)
   |none=>none
  |none=>none
def gO(ps:List (List Nat)):Option JS->Option (List Cells)
 |some s=>bif PQ ps.flatten then gS ps s.rw else none
 |none=>none
def adh:List Sg->List Cells
 | []=>[]
 |x::w=>den [x]::adh w
theorem O4:∀(w:List Sg),(adh w).flatten=den w
 | []=>rfl
 | .b i o::w=>by simp[adh,O4 w];rfl
 | .l L::w=>by simp[adh,lv,O4 w];rfl
theorem agM:∀ {a b:List Nat} {w x y:List Sg},Zs a w=some x->Zs b w=some y->Zs (a++b) w=some (x++y)
 | [],b,w,x,y,h,h2=>by grind [Zs,aD]
 |i::a,b,w,x,y,h,h2=>by
  simp only[Zs] at h;split at h<;>try (cases h;done)
  rename_i z hz;split at h<;>try (cases h;done)
  rename_i r hr;cases h;simp only[eg,Zs,hz,agM hr h2]
theorem aCl:∀ {ps:List (List Nat)} {w:List Sg} {l:List Cells},gS ps w=some l->∃z,Zs ps.flatten w=some z/\den z=l.flatten
 | [],w,l,h=>by simp only[gS,aD] at h;subst h;exact⟨[],rfl,rfl⟩
 |p::r,w,l,h=>by
  simp only[gS] at h;split at h<;>try (cases h;done)
  rename_i x hx;split at h<;>try (cases h;done)
  rename_i y hy;cases h;obtain⟨z,h1,h2⟩:=aCl hy;exact⟨x++z,by simpa using agM hx h1,by simp[rz,h2]⟩
theorem C7{K:Act->St->Prop}{ef:ι->Env}{wf:ι->List Sg}{Inv:ι->Prop}{μ:ι->Nat}{m:Nat}(hK:yj X1 K ef wf Inv μ m)(j:ι)(h:Inv j)(hm:μ j <m)(ps:List (List Nat))(hs:Sub X1.ro X.ro)
 (h0:VW o=some K:=by kernel_rfl)(h1:sY (qg (ef j)) o=some (ef j):=by kernel_rfl)(h2:gO ps o=some (adh (wf j)):=by kernel_rfl)(hn:X1.n=X.n:=by rfl)(hD:X1.D=X.D:=by rfl):J X o:=by
 unfold VW at h0;split at h0<;>try (cases h0;done)
 rename_i K' e w kn;cases h0;intro _;rw[A1] at h1;have hp:(den w).Perm (den (wf j)++den (gz ps.flatten 0 w)):=by
  grind [gO,PQ,aCl,O4,EK]
 have:=hK j h hm e ⟨X.ro,den w⟩ (qz h1) (gG hp hs);rw[hn,hD] at this;exact this
def aVT:Option (Code×List KI)->Option (Code×List KI)
 |some (_,.seq y::k)=>some (y,k)
 |_=>none
def aJ6(K:Act->St->Prop):Option JS->Option JS
 |some ⟨.code x (.seq _::k),e,w,kn⟩=>some ⟨.code x (.next K::k),e,w,kn⟩
 |_=>none
def jct(p:List Nat)(Ks:List (Act->St->Prop))(ef:ι->Env)(wf:ι->List Sg)(Inv:ι->Prop)(hj:∀i,Inv i->∀rest,J X (stW X.P X.fn p Ks (ef i++rest) (wf i)))(h:∀K,yj X K ef wf Inv (λ_=>0) 1->J X (aJ6 K o))(hd:∀i,lkE (qg (ef i)) (ef i)=some (ef i):=by intro _;kernel_rfl)(hp:Tf X.P X.fn p Ks=aVT (Gb o):=by kernel_rfl):J X o:=by
 unfold aJ6 at h;split at h
 .rename_i x y k e w kn;intro ep;refine h (λa s=>Wp X.C X.fn X.bR y (KQ X k) a s) (λj hI _ e s hc hle=>?_) ep;obtain⟨r,hr⟩:=lJ (n:=X.n) (D:=X.D) hc (qz (hd j));rw[hr];have:=hj j hI r;simp only[stW,hp,Gb,aVT,stC] at this;exact(this λ_ h=>(mj h).elim).more X.hC hle
 exact(h (λ_ _=>True) λ_ _ _ _ _ _ _=>bW).elim
def expand:Cells->List Sg
 | []=>[]
 |x::l=> .b x.1 x.2::expand l
def afl:Nat->List Sg->List Sg
 |_,[]=>[]
 |0,.l L::w=>expand L++w
 |0,x::w=>x::w
 |i+1,x::w=>x::afl i w
def af0{kn:Kn}{w w':List Sg}{p:Pos}(h:den w'=den w)(hj:JP X kn e w' p):JP X kn e w p:=by
 simp_all[JP]
def aU3(i:Nat):Option JS->Option JS
 |some s=>some {s with rw:=afl i s.rw}
 |none=>none
def ait:List Sg->Cells
 | []=>[]
 | .b i o::w=>(i,o)::ait w
 | .l _::w=>ait w
def E9:∀ {w:List Sg} {x:Nat×Obj},x∈ait w->x∈den w
 | .b i o::w,x,h=>by
  rw[p6];rcases aS.1 h with rfl|h
  .exact dX
  exact cm _ (E9 h)
 | .l L::w,x,h=>by rw[lv];exact gv _ (E9 (w:=w) h)
def ayM(ps:List Nat):Option JS->Option JS
 |some s=>match Zs ps s.rw with
  |some w=>some {s with rw:=gz ps 0 s.rw,kn:=⟨ait w++s.kn.c,s.kn.nd⟩}
  |none=>none
 |none=>none
theorem Na{X:Cx}{bU:Nat->Option Obj}:∀(k:List KI),KQ (X.at bU) k=KQ X k
 | []=>rfl
 | .seq _::k=>by simp only[KQ,Na k];rfl
 | .block _::k=>by simp only[KQ,Na k]
 | .next _::k=>by simp only[KQ,Na k]
def jf(ps:List Nat)(L:Cells)(h:∀bU,Sub X.ro bU->Knows bU L->J (X.at bU) (ayM ps o))(h2:fT ps o=some L:=by kernel_rfl)(hp:api o=true:=by kernel_rfl):J X o:=by
 have hpk:∀ {s:JS},fT ps (some s)=some L->∃w,Zs ps s.rw=some w/\den w=L:=by
  intro s hs;simp only[fT,wL] at hs;cases hk:PQ ps with
  |false=>rw[hk] at hs;cases hs
  |true=>
   rw[hk] at hs;simp only[cH] at hs;split at hs<;>try (cases hs;done)
   rename_i w hw;cases hs;exact⟨w,hw,rfl⟩
 unfold api at hp;split at hp
 .rename_i ops todo k e w kn;intro ep;obtain⟨w1,hw1,rfl⟩:=hpk h2;refine adF X.hC (dN h2) λbU hs hk=>?_;have:=h bU hs hk;simp only[ayM,hw1] at this;have:=this (λx hx=>(bI.1 hx).elim (λhx=>hk x (E9 hx)) λhx=>hs _ _ (ep x hx));simp only[JP,Na] at this;exact this
 .rename_i c k e w kn;intro ep;obtain⟨w1,hw1,rfl⟩:=hpk h2;refine aiK X.hC (dN h2) λbU hs hk=>?_;have:=h bU hs hk;simp only[ayM,hw1] at this;have:=this (λx hx=>(bI.1 hx).elim (λhx=>hk x (E9 hx)) λhx=>hs _ _ (ep x hx));simp only[JP,Na] at this;exact this
 cases hp
def geO:Option JS->Option JS
 |some s=>some {s with rw:= .l []::s.rw}
 |none=>none
def wN(h:J X (geO o)):J X o:=by
 cases o with
 |none=>exact h
 |some s=>exact λep=>af0 (by simp[lv]) (h ep)
def sgS:Nat->List Sg->List Sg->List Sg
 |_,_,[]=>[]
 |0,l,_::w=>l++w
 |i+1,l,x::w=>x::sgS i l w
def agt{l:List Sg}:∀ {i:Nat} {w:List Sg} {x:Sg},H6 w i=some x->den [x]=den l->den (sgS i l w)=den w
 |_,[],_,h,_=>by cases h
 |0,y::w,x,h,hd=>by
  simp only[H6,aD] at h;subst h;have:den (y::w)=den [y]++den w:=by rw[<-rz];rfl
  rw[this,hd,<-rz];rfl
 |i+1,y::w,x,h,hd=>by
  have:=agt (w:=w) (i:=i) h hd;cases y<;>simp[sgS,p6,lv,this]
def sgO(i:Nat)(l:List Sg):Option JS->Option JS
 |some s=>some {s with rw:=sgS i l s.rw}
 |none=>none
theorem jg(i:Nat)(l:List Sg)(h:J X (sgO i l o))(h2:fT [i] o=some (den l):=by kernel_rfl):J X o:=by
 cases o with
 |none=>exact h
 |some s=>
  have hn:∃x,H6 s.rw i=some x/\den [x]=den l:=by
   grind [fT,wL,PQ,dG,Zs]
  obtain⟨x,hx,hd⟩:=hn;exact λep=>af0 (agt hx hd) (h ep)
theorem jmw(i:Nat)(l:List Sg){L:Cells}(h:L=den l)(hj:J X (sgO i l o))(h2:fT [i] o=some L:=by kernel_rfl):J X o:=by
 grind [jg]
end
def Cx.wd(X:Cx)(D:List Deferred):Cx:={X with D:=D}
theorem acb{X:Cx}{D:List Deferred}:∀(k:List KI),KQ (X.wd D) k=KQ X k
 | []=>rfl
 | .seq _::k=>by simp only[KQ,acb k];rfl
 | .block _::k=>by simp only[KQ,acb k]
 | .next _::k=>by simp only[KQ,acb k]
def Ov(X:Cx)(K:Act->St->Prop)(ef:ι->Env)(wf:ι->List Sg)(df:ι->List Deferred)(Inv:ι->Prop)(μ:ι->Nat)(m:Nat):Prop:=
 ∀j,Inv j->μ j <m->∀(e:Env) (s:St),qJ e (ef j)->(⟨X.ro,den (wf j)⟩:St).le s->K (A X.n e (df j)) s
section
variable {X:Cx} {o:Option JS}
def ami{fn:FuncId}{Q:Post}{env:Env}{s:St}(hC:∀main T,C main T->Closed X.P main T)(yG:ι->Env)(sf:ι->St)(df:ι->List Deferred)(Inv:ι->Prop)(μ:ι->Nat){c:Code}(i0:ι)(h0:Inv i0)(hc:qJ env (yG i0))(hd:∀i,qJ (yG i) (yG i))(hs:(sf i0).le s)
 (round:∀i,Inv i->∀rest,Wp C fn bR c (rY (λa s=>∃j,Inv j/\μ j <μ i/\(∃e,qJ e (yG j)/\a=A n e (df j))/\(sf j).le s) Q) (A n (yG i++rest) (df i)) (sf i)):Wp C fn bR (.loop c) Q (A n env (df i0)) s:=by
 obtain⟨r0,Ae⟩:=lJ (n:=n) (D:=df i0) hc (hd i0);rw[Ae];intro main T hT b k cs h1 h2 h3 h4;have key:∀m i rest s,μ i=m->Inv i->(sf i).le s->T (G (dH b (A n (yG i++rest) (df i)) (.code c:: .inLoop c::k)) cs) s:=by
  intro m
  induction m using Nat.strongRecOn with
  |_ m ih=>
   intro i rest s hm hI hle;refine(hC main T hT).mono _ _ _ hle ?_;refine round i hI rest main T hT b (.inLoop c::k) cs h1 h2 h3 λe a' s' q=>?_;cases e with
   |normal=>
    obtain⟨j,BY,dS,⟨e,he,rfl⟩,FE⟩:=q;obtain⟨anB,hr⟩:=lJ (n:=n) (D:=df j) he (hd j);rw[hr];exact(hC main T hT).go rfl rfl (g':=G (dH b _ (.code c:: .inLoop c::k)) cs) (λw=>by simp[G,stepG,stepG.exec,dH]) (ih _ (hm▸dS) j anB s' rfl BY FE)
   |exit id=>exact(h4 _ _ _ q).push rfl (by simp)
   |ret=>exact(h4 _ _ _ q).push (x:= .inLoop c) rfl (by simp)
   |panic ch=>exact(h4 _ _ _ q).push (x:= .inLoop c) rfl (by simp)
   |goto l=>exact(h4 _ _ _ q).elim
   |outgrown=>exact(h4 _ _ _ q).elim
 exact(hC main T hT).go rfl rfl (λw=>by simp[G,stepG,stepG.exec,dH]) (key _ i0 r0 s rfl h0 hs)
def aRs(p:List Nat)(Ks:List (Act->St->Prop))(ef:ι->Env)(wf:ι->List Sg)(df:ι->List Deferred)(Inv:ι->Prop)(μ:ι->Nat)(i0:ι)(h0:Inv i0)(ps:List Nat)(hb:∀i,Inv i->∀K,Ov X K ef wf df Inv μ (μ i)->∀rest,J (X.wd (df i)) (stW X.P X.fn p (Ks++[K]) (ef i++rest) (wf i)))
 (h1:sY (qg (ef i0)) o=some (ef i0):=by kernel_rfl)(hd:∀i,lkE (qg (ef i)) (ef i)=some (ef i):=by intro _;kernel_rfl)(h2:wL ps o=some (wf i0):=by kernel_rfl)(hp:∀K,Tf X.P X.fn p (Ks++[K])=lpB K (Gb o):=by intro _;kernel_rfl)(hD:X.D=df i0:=by rfl):J X o:=by
 have hT:∀i,Ov X (λ_ _=>True) ef wf df Inv μ (μ i):=λ_ _ _ _ _ _ _ _=>bW;have bad:∀(K:Act->St->Prop),lpB K (Gb o)=none->(∀i,Ov X K ef wf df Inv μ (μ i))->J X o:=λK h hK=>by
  have:=hb i0 h0 K (hK i0) [];simp only[stW,hp,h,stC] at this;exact this.elim
 cases o with
 |none=>exact bad _ rfl hT
 |some s=>
  rcases s with ⟨q,e,w,kn⟩
  cases q with
  |code c k=>
   cases c with
   |loop c=>
    intro ep;show Wp X.C X.fn X.bR (.loop c) (KQ X k) (A X.n e X.D) ⟨X.ro,den w⟩;rw[hD];refine ami (X:=X) X.hC ef (λi=>(⟨X.ro,den (wf i)⟩:St)) df Inv μ i0 h0 (qz (by rw[A1] at h1;exact h1)) (λi=>qz (hd i)) (gG (rL h2) (Sub.refl _)) λi hi rest=>?_;have:=hb i hi (λa s=>∃j,Inv j/\μ j <μ i/\(∃e,qJ e (ef j)/\a=A X.n e (df j))/\(⟨X.ro,den (wf j)⟩:St).le s) (λj hj hm e s hc hle=>⟨j,hj,hm,⟨e,hc,rfl⟩,hle⟩) rest;simp only[stW,hp,Gb,lpB,stC] at this;have:=this λ_ h=>(mj h).elim;simp only[JP,KQ,acb] at this;exact this
   |_=>exact bad _ rfl hT
  |_=>exact bad _ rfl hT
def jnD{K:Act->St->Prop}{ef:ι->Env}{wf:ι->List Sg}{df:ι->List Deferred}{Inv:ι->Prop}{μ:ι->Nat}{m:Nat}(hK:Ov X1 K ef wf df Inv μ m)(j:ι)(h:Inv j)(hm:μ j <m)(ps:List (List Nat))(hs:Sub X1.ro X.ro)
 (h0:VW o=some K:=by kernel_rfl)(h1:sY (qg (ef j)) o=some (ef j):=by kernel_rfl)(h2:gO ps o=some (adh (wf j)):=by kernel_rfl)(hn:X1.n=X.n:=by rfl)(hD:X.D=df j:=by rfl):J X o:=by
 have hK':yj (X1.wd (df j)) K ef wf (λi=>i=j) μ m:=λi hi hm e s hc hle=>by subst hi;exact hK _ h hm e s hc hle
 exact C7 hK' j rfl hm ps hs h0 h1 h2 hn hD.symm
end
attribute [irreducible] gO geO x6 pI aJ6 stW Gb Tf aU3 ayM sgO Ha api nz Yf Ye yF VW
section
variable {X:Cx} {o:Option JS}
def S9(n:Nat)(p:Oper)(e:Env):Option (BinOp×TypeId×Value×Value):=match p.op with
 | .binOp op T x y _=>match dv n e x with
  |some v=>match dv n e y with
   |some w=>some (op,T,v,w)
   |none=>none
  |none=>none
 |_=>none
theorem zd{op:BinOp}{v w:Value}(h:S9 n p e=some (op,T,v,w)):∃x y T',p.op= .binOp op T x y T'/\dv n e x=some v/\dv n e y=some w:=by
 grind [S9]
def jsa{a:ByteArray}(T:TypeId)(hb:(a.size:Int)+b.size<=9223372036854775807)(hj:J X (lT (.string (a++b)) o))(hv:fp X.n (S9 X.n) o=some (.add,T,.string a,.string b):=by kernel_rfl):J X o:=by
 refine SH hv (λs p e _ hf=>?_) hj;obtain⟨x,y,T',a8,hx,hy⟩:=zd hf;rcases p with ⟨dst,op,ty,pos,fX,g⟩
 subst a8;exact λs0 ops i vy rest hw s' hs todo Q hk=>aFA X.hC vy hw (cM hx) (cM hy) hb hk
def jrm{k:IntKind}{a b:Int}(T:TypeId)(hb:b≠0)(hj:J X (lT (.int k (a.tmod b)) o))(hv:fp X.n (S9 X.n) o=some (.rem,T,.int k a,.int k b):=by kernel_rfl):J X o:=by
 refine SH hv (λs p e _ hf=>?_) hj;obtain⟨x,y,T',a8,hx,hy⟩:=zd hf;rcases p with ⟨dst,op,ty,pos,fX,g⟩
 subst a8;exact λs0 ops i vy rest hw s' hs todo Q hk=>aPI X.hC vy hw (cM hx) (cM hy) hb hk
def jsr{k k':IntKind}{a b:Int}(T:TypeId)(hb:0<=b)(hj:J X (lT (.int k (mV k a b)) o))(hv:fp X.n (S9 X.n) o=some (.shr,T,.int k a,.int k' b):=by kernel_rfl):J X o:=by
 refine SH hv (λs p e _ hf=>?_) hj;obtain⟨x,y,T',a8,hx,hy⟩:=zd hf;rcases p with ⟨dst,op,ty,pos,fX,g⟩
 subst a8;exact λs0 ops i vy rest hw s' hs todo Q hk=>aPG X.hC vy hw (cM hx) (cM hy) hb hk
def jsh{k k':IntKind}{a b:Int}(T:TypeId)(hb:0<=b)(hj:J X (lT (.int k (iA k a b)) o))(hv:fp X.n (S9 X.n) o=some (.shl,T,.int k a,.int k' b):=by kernel_rfl):J X o:=by
 refine SH hv (λs p e _ hf=>?_) hj;obtain⟨x,y,T',a8,hx,hy⟩:=zd hf;rcases p with ⟨dst,op,ty,pos,fX,g⟩
 subst a8;exact λs0 ops i vy rest hw s' hs todo Q hk=>aPH X.hC vy hw (cM hx) (cM hy) hb hk
def jeq{m:List Value}{r:Bool}(hg:Cc X.P T)(he:EqV X.P T (.agg ⟨l⟩) (.agg ⟨m⟩) r)(hj:J X (lT (.bool r) o))(hv:fp X.n (S9 X.n) o=some (.eql,T,.agg ⟨l⟩,.agg ⟨m⟩):=by kernel_rfl):J X o:=by
 refine SH hv (λs p e _ hf=>?_) hj;obtain⟨x,y,T',a8,hx,hy⟩:=zd hf;rcases p with ⟨dst,op,ty,pos,fX,g⟩
 subst a8;exact λs0 ops i vy rest hw s' hs todo Q hk=>aws X.hC vy hw (cM hx) (cM hy) hg he hk
def jne{m:List Value}{r:Bool}(hg:Cc X.P T)(he:EqV X.P T (.agg ⟨l⟩) (.agg ⟨m⟩) r)(hj:J X (lT (.bool !r) o))(hv:fp X.n (S9 X.n) o=some (.neq,T,.agg ⟨l⟩,.agg ⟨m⟩):=by kernel_rfl):J X o:=by
 refine SH hv (λs p e _ hf=>?_) hj;obtain⟨x,y,T',a8,hx,hy⟩:=zd hf;rcases p with ⟨dst,op,ty,pos,fX,g⟩
 subst a8;exact λs0 ops i vy rest hw s' hs todo Q hk=>aoF X.hC vy hw (cM hx) (cM hy) hg he hk
def Qb(P:Program)(T:TypeId):Bool:=match cV P T with
 |some ⟨.slice _,_,_,_⟩=>true
 |_=>false
theorem Qa{P:Program}(h:Qb P T=true):∃E sz dL z ag,TF P T (.slice E) sz dL z ag:=by
 grind [Qb,bA]
def jsn{a:Option Addr}{l c:Nat}(T:TypeId)(hj:J X (lT (.bool a.isNone) o))(hv:fp X.n (S9 X.n) o=some (.eql,T,.slice a l c,.slice none 0 0):=by kernel_rfl)(hT:Qb X.P T=true:=by kernel_rfl):J X o:=by
 refine SH hv (λs p e _ hf=>?_) hj;obtain⟨x,y,T',a8,hx,hy⟩:=zd hf;obtain⟨E,sz,dL,z,ag,tf⟩:=Qa hT;rcases p with ⟨dst,op,ty,pos,fX,g⟩
 subst a8;exact λs0 ops i vy rest hw s' hs todo Q hk=>awn X.hC vy hw tf (cM hx) (cM hy) hk
def Fw(n:Nat)(e:Env):Option Operand->Option (Option Int)
 |none=>some none
 |some x=>match dv n e x with
  |some (.int _ a)=>some (some a)
  |_=>none
def am6(P:Program)(n:Nat)(p:Oper)(e:Env):Option (ByteArray×Option Int×Option Int):=match p.op with
 | .slice T x y z none=>match cV P T with
  |some ⟨.string,_,_,_⟩=>match dv n e x with
   |some (.string b)=>match Fw n e y with
    |some lo=>match Fw n e z with
     |some hi=>some (b,lo,hi)
     |none=>none
    |none=>none
   |_=>none
  |_=>none
 |_=>none
def adb(P:Program)(n:Nat)(p:Oper)(e:Env):Option (Value×Option Int×Option Int×Nat):=match p.op with
 | .slice T x y z none=>match cV P T with
  |some ⟨.slice E,_,_,_⟩=>match cV P E with
   |some te=>match dv n e x with
    |some v=>match Fw n e y with
     |some lo=>match Fw n e z with
      |some hi=>some (v,lo,hi,te.size)
      |none=>none
     |none=>none
    |none=>none
   |none=>none
  |_=>none
 |_=>none
theorem lE{x:Option Operand}{a:Int}(h:Fw n e x=some (some a)):∃y k,x=some y/\dv n e y=some (.int k a):=by
 unfold Fw at h
 grind
theorem AU{x:Option Operand}(h:Fw n e x=some none):x=none:=by
 unfold Fw at h
 grind
theorem Vv{P:Program}{lo:Option Int}(h:am6 P n p e=some (b,lo,hi)):∃T x y z sz dL zz ag,p.op= .slice T x y z none/\TF P T .string sz dL zz ag/\dv n e x=some (.string b)/\Fw n e y=some lo/\Fw n e z=some hi:=by
 unfold am6 at h;split at h<;>try (cases h;done)
 grind [bA]
def HN{P:Program}{v:Value}{lo:Option Int}{k:Nat}(h:adb P n p e=some (v,lo,hi,k)):∃T x y z E sz dL zz ag d CX z2 ag2,p.op= .slice T x y z none/\TF P T (.slice E) sz dL zz ag/\TF P E d k CX z2 ag2/\dv n e x=some v/\Fw n e y=some lo/\Fw n e z=some hi:=by
 unfold adb at h;split at h<;>try (cases h;done)
 rename_i a8;split at h<;>try (cases h;done)
 rename_i ig;obtain⟨dL,tf⟩:=bA ig;split at h<;>try (cases h;done)
 rename_i te wo;obtain⟨CX,tK⟩:=bA wo;split at h<;>try (cases h;done)
 rename_i hx;split at h<;>try (cases h;done)
 rename_i hy;split at h<;>try (cases h;done)
 rename_i hz;cases h;exact⟨_,_,_,_,_,_,_,_,_,_,_,_,_,a8,tf,tK,hx,hy,hz⟩
def jtH{hi:Int}(hl:0<=hi/\hi<=b.size)(hj:J X (lT (.string (b.extract 0 hi.toNat)) o))(hv:fp X.n (am6 X.P X.n) o=some (b,none,some hi):=by kernel_rfl):J X o:=by
 refine SH hv (λs p e _ hf=>?_) hj;obtain⟨T,x,y,z,sz,dL,zz,ag,a8,tf,hx,hy,hz⟩:=Vv hf;have hy:=AU hy;subst hy;obtain⟨z,k',rfl,Wo⟩:=lE hz;rcases p with ⟨dst,op,ty,pos,fX,g⟩
 dsimp only at a8;subst a8;exact λs0 ops i vy rest hw s' hs todo Q hk=>ZJ X.hC vy hw tf (cM hx) (cM Wo) hl hk
def jtL{lo:Int}(hl:0<=lo/\lo<=b.size)(hj:J X (lT (.string (b.extract lo.toNat b.size)) o))(hv:fp X.n (am6 X.P X.n) o=some (b,some lo,none):=by kernel_rfl):J X o:=by
 refine SH hv (λs p e _ hf=>?_) hj;obtain⟨T,x,y,z,sz,dL,zz,ag,a8,tf,hx,hy,hz⟩:=Vv hf;have hz:=AU hz;subst hz;obtain⟨y,k,rfl,MD⟩:=lE hy;rcases p with ⟨dst,op,ty,pos,fX,g⟩
 dsimp only at a8;subst a8;exact λs0 ops i vy rest hw s' hs todo Q hk=>ZI X.hC vy hw tf (cM hx) (cM MD) hl hk
theorem jcH{α:Type}{v:Value}{sz:Nat}{enc:α->List Value}{ps:List α}{hi:Int}(hs:dq X.ro v sz enc ps)(hl:0<=hi/\hi<=ps.length)(hj:∀v',dq X.ro v' sz enc (ps.take hi.toNat)->J X (lT v' o))(hv:fp X.n (adb X.P X.n) o=some (v,none,some hi,sz):=by kernel_rfl):J X o:=by
 obtain⟨a,b,off,cap,rfl,h2,h3,h4⟩:=id hs;have hp:=dq.part hs (l:=0) (h:=hi.toNat) (by omega) (by omega);rw[List.drop_zero] at hp;refine SH hv (λs p e _ hf=>?_) (hj _ hp);obtain⟨T,x,y,z,E,s1,dL,zz,ag,d,CX,z2,ag2,a8,tf,tK,hx,hy,hz⟩:=HN hf;have hy:=AU hy;subst hy;obtain⟨z,k',rfl,Wo⟩:=lE hz;rcases p with ⟨dst,op,ty,pos,fX,g⟩
 dsimp only at a8;subst a8;intro s0 ops i vy rest hw s' pq todo Q hk;refine eA X.hC vy hw (by simp) ?_;have hb:0<=hi/\hi<=(cap:Int):=by omega
 have kQ:(0:Int)<=0/\(0:Int)<=(hi.toNat:Int):=by omega
 rw[<-dF] at hk;simp only[execOp,Option.map_some,Option.map_none,Instr.sliceAt,Instr.slice,bZ (cM (rest:=rest) hx),bZ (cM (rest:=rest) Wo),aH,cY tf,Instr.sliceBounds,Instr.sliceBound,asIntOf,aQ,hb,kQ,and_self,if_true,ez tK];exact hk
theorem jcB{α:Type}{v:Value}{sz:Nat}{enc:α->List Value}{ps:List α}{lo hi:Int}(hs:dq X.ro v sz enc ps)(hl:0<=lo/\lo<=hi/\hi<=ps.length)(hj:∀v',dq X.ro v' sz enc ((ps.take hi.toNat).drop lo.toNat)->J X (lT v' o))(hv:fp X.n (adb X.P X.n) o=some (v,some lo,some hi,sz):=by kernel_rfl):J X o:=by
 obtain⟨a,b,off,cap,rfl,h2,h3,h4⟩:=id hs;have hp:=dq.part hs (l:=lo.toNat) (h:=hi.toNat) (by omega) (by omega);refine SH hv (λs p e _ hf=>?_) (hj _ hp);obtain⟨T,x,y,z,E,s1,dL,zz,ag,d,CX,z2,ag2,a8,tf,tK,hx,hy,hz⟩:=HN hf;obtain⟨y,k,rfl,MD⟩:=lE hy;obtain⟨z,k',rfl,Wo⟩:=lE hz;rcases p with ⟨dst,op,ty,pos,fX,g⟩
 dsimp only at a8;subst a8;intro s0 ops i vy rest hw s' pq todo Q hk;refine eA X.hC vy hw (by simp) ?_;have hb:0<=hi/\hi<=(cap:Int):=by omega
 have kQ:0<=lo/\lo<=(hi.toNat:Int):=by omega
 rw[<-dF] at hk;simp only[execOp,Option.map_some,Option.map_none,Instr.sliceAt,Instr.slice,bZ (cM (rest:=rest) hx),bZ (cM (rest:=rest) MD),bZ (cM (rest:=rest) Wo),aH,cY tf,Instr.sliceBounds,Instr.sliceBound,asIntOf,aQ,hb,kQ,and_self,if_true,ez tK];exact hk
def lnV(P:Program)(n:Nat)(p:Oper)(e:Env):Option Value:=match p.op with
 | .call ⟨.builtin .len,⟨[x]⟩,⟨[T]⟩⟩=>bif Qb P T then dv n e x else none
 |_=>none
def jol{v:Value}{T2:TypeId}{enc:α->List Value}{ps:List α}{L:Cells}(kO:bJ v sz T2 enc ps L)(hj:J X (lT (.int .i64 ps.length) o))(hv:fp X.n (lnV X.P X.n) o=some v:=by kernel_rfl):J X o:=by
 refine SH hv (λs p e _ hf=>?_) hj;unfold lnV at hf;split at hf<;>try (cases hf;done)
 rename_i x T a8;cases hT:Qb X.P T with
 |false=>rw[hT] at hf;cases hf
 |true=>
  rw[hT] at hf;simp only[cH] at hf;obtain⟨E,s1,dL,z,ag,tf⟩:=Qa hT;rcases p with ⟨dst,op,ty,pos,fX,g⟩
  dsimp only at a8;subst a8;exact λs0 ops i vy rest hw s' hs todo Q hk=>aoG X.hC vy hw tf (cM hf) kO hk
def SA(ps:List Nat)(v:Value)(L':Cells):Option JS->Option JS:=rV ps v L'
theorem agZ{ops:Array Oper}{k:List KI}{w:List Sg}{kn:Kn}{ps:List Nat}{v:Value}{L':Cells}(ho:ops[i]?=some p):SA ps v L' (some ⟨.ops ops (i::todo) k,e,w,kn⟩)=some ⟨.ops ops todo k,upd p.dst v e,.l L'::gz ps 0 w,kn⟩:=by
 simp_all[SA,tx]
def avx(P:Program)(n:Nat)(p:Oper)(e:Env):Option (Addr×List Value×Nat):=match p.op with
 | .store T x y=>match cV P T with
  |some ti=>match dv n e x with
   |some (.pointer (some a))=>match dv n e y with
    |some v=>some (a,iL v,ti.size)
    |none=>none
   |_=>none
  |none=>none
 |_=>none
def ago{P:Program}{a:Addr}(h:avx P n p e=some (a,l,sz)):∃T x y d dL z ag v,p.op= .store T x y/\TF P T d sz dL z ag/\dv n e x=some (.pointer (some a))/\dv n e y=some v/\v.cells=⟨l⟩:=by
 unfold avx at h;split at h<;>try (cases h;done)
 rename_i a8;split at h<;>try (cases h;done)
 rename_i ti ig;obtain⟨dL,tf⟩:=bA ig;split at h<;>try (cases h;done)
 rename_i hx;split at h<;>try (cases h;done)
 rename_i hy;cases h;exact⟨_,_,_,_,_,_,_,_,a8,tf,hx,hy,by rw[sj]⟩
def jso{v:Value}{enc:α->List Value}{ps:List α}{L:Cells}{b k:Nat}{a:α}(i f:Nat)(c:List Value)(e:α)(kO:bJ v sz E enc ps L)(hb:Td v b)(hk:ps[k]?=some a) (he:enc e=gZ (enc a) f c) (h1:c.all single=true) (hf:f+c.length<=sz) (hj:∀L',bJ v sz E enc (ps.set k e) L'->J X (SA [i] undef L' o)) (hv:iC X.n (avx X.P X.n) o=some (⟨b,k*sz+f,none⟩,c,c.length):=by kernel_rfl) (h2:fT [i] o=some L:=by kernel_rfl):J X o:=by
 obtain⟨ops,i0,todo,kk,ev,w,kn,p,rfl,ho,hw,hc⟩:=gF hv;obtain⟨T,x,y,d,dL,z,ag,u,a8,tf,hx,hy,hu⟩:=ago hc;intro ep;rcases p with ⟨dst,op,ty,pos,fX,g⟩
 dsimp only at a8;subst a8;refine DC X.hC (dN h2)<|aPB X.hC ho hw tf hx hy hu rfl (List.all_eq_true.1 h1) kO hb hk he hf λL' hL'=>?_;have:=hj L' hL';rw[agZ ho] at this;have:=this ep;simp only[JP,lv] at this;exact this
def apV(P:Program)(n:Nat)(p:Oper)(e:Env):Option (Value×Value×TypeId×Nat):=match p.op with
 | .call ⟨.builtin .append,⟨[x,y]⟩,⟨[T,U]⟩⟩=>match cV P T with
  |some ⟨.slice E,_,_,_⟩=>bif Qb P U then (match cV P E with
   |some te=>match P.info? E with
    |some ie=>bif Nat.beq te.zero.length te.size&&Nat.ble ie.bytes 65536 then (match dv n e x with
     |some v=>match dv n e y with
      |some w=>some (v,w,E,te.size)
      |none=>none
     |none=>none) else none
    |none=>none
   |none=>none) else none
  |_=>none
 |_=>none
def aKv{P:Program}{v w:Value}(h:apV P n p e=some (v,w,E,sz)):∃x y T U s1 b1 z1 a1 E2 s2 b2 z2 a2 d dL z ag,p.op= .call ⟨.builtin .append,#[x,y],#[T,U]⟩/\TF P T (.slice E) s1 b1 z1 a1/\TF P U (.slice E2) s2 b2 z2 a2/\TF P E d sz dL z ag/\z.length=sz/\dL<=65536/\dv n e x=some v/\dv n e y=some w:=by
 unfold apV at h;split at h<;>try (cases h;done)
 rename_i x y T U a8;split at h<;>try (cases h;done)
 rename_i E' _ _ _ ig;obtain⟨b1,tf1⟩:=bA ig;cases hU:Qb P U with
 |false=>rw[hU] at h;cases h
 |true=>
  rw[hU] at h;simp only[cH] at h;obtain⟨E2,s2,b2,z2,a2,tK⟩:=Qa hU;split at h<;>try (cases h;done)
  rename_i te wo;obtain⟨b3,tf3⟩:=bA wo;split at h<;>try (cases h;done)
  rename_i ie hie;cases hb:(Nat.beq te.zero.length te.size&&Nat.ble ie.bytes 65536) with
  |false=>rw[hb] at h;cases h
  |true=>
   rw[hb] at h;simp only[cH] at h;split at h<;>try (cases h;done)
   rename_i hx;split at h<;>try (cases h;done)
   rename_i hy;simp only[aD,bP] at h;obtain⟨rfl,rfl,rfl,rfl⟩:=h;simp only[au,Cg] at hb;obtain⟨i2,g1,_,g3,_⟩:=tf3.info;rw[hie] at g1;cases g1;exact⟨x,y,T,U,_,b1,_,_,E2,s2,b2,z2,a2,_,b3,_,_,a8,tf1,tK,tf3,eC hb.1,by omega,hx,hy⟩
def gC{v w:Value}{enc:α->List Value}{ps qs:List α}{L:Cells}(is lp:List Nat)(B:Cells)(kO:bJ v sz E enc ps L)(Bn:∀s:St,Ext ⟨X.ro,[]⟩ s->(∀x∈B,s.has x.1 x.2)->Sl s w sz enc qs)(hq:∀p∈qs,∀c∈enc p,single c=true)(hb:ps.length+qs.length<=1048576)(hj:∀v' L',bJ v' sz E enc (ps++qs) L'->J X (SA is v' L' o))
 (hv:iC X.n (apV X.P X.n) o=some (v,w,E,sz):=by kernel_rfl)(h2:fT is o=some L:=by kernel_rfl)(h3:fT lp o=some B:=by kernel_rfl):J X o:=by
 obtain⟨ops,i0,todo,kk,ev,w0,kn,p,rfl,ho,hw,hc⟩:=gF hv;obtain⟨x,y,T,U,s1,b1,z1,a1,E2,s2,b2,z2,a2,d,dL,z,ag,a8,tf1,tK,tf3,hz,hby,hx,hy⟩:=aKv hc;intro ep;rcases p with ⟨dst,op,ty,pos,fX,g⟩
 dsimp only at a8;subst a8;have hp:=dN h2;refine DC X.hC hp<|oap X.hC ho hw tf1 tK tf3 hz hx hy kO (Bn _ Xd λu hu=>?_) hq ⟨hb,hby⟩ λv' L' hL'=>?_
 .rcases abD (X:=X) h3 u hu with h|h
  .exact .inl h
  exact .inr (hp.mem_iff.1 h)
 have:=hj v' L' hL';rw[agZ ho] at this;have:=this ep;simp only[JP,lv] at this;exact this
end
attribute [irreducible] SA
section
variable {X:Cx} {o:Option JS}
def nxV(n:Nat)(p:Oper)(e:Env):Option Nat:=match p.op with
 | .next x true=>match dv n e x with
  |some (.pointer (some ⟨r,0,none⟩))=>some r
  |_=>none
 |_=>none
theorem aoM(h:nxV n p e=some r):∃x,p.op= .next x true/\dv n e x=some (.pointer (some ⟨r,0,none⟩)):=by
 grind [nxV]
def adg(i:Nat)(v:Value)(b:Nat)(ob:Obj):Option JS->Option JS
 |some ⟨.ops ops (j::todo) k,e,w,kn⟩=>match ops[j]? with
  |some p=>some ⟨.ops ops todo k,upd p.dst v e,.b b ob::gz [i] 0 w,kn⟩
  |none=>none
 |_=>none
def jnA{p:Nat}{c:UInt8}(r i:Nat)(hp:b.data.toList[p]?=some c) (ha:c.toNat <128) (hj:J X (adg i (.tuple ⟨[.bool true,.int .i64 p,.int .i32 c.toNat]⟩) r (.stringIter b (p+1)) o))
 (hv:iC X.n (nxV X.n) o=some r:=by kernel_rfl) (hB:fT [i] o=some [(r,.stringIter b p)]:=by kernel_rfl):J X o:=by
 obtain⟨ops,i0,todo,kk,ev,w0,kn,q,rfl,ho,hw,hc⟩:=gF hv;obtain⟨x,a8,hx⟩:=aoM hc;intro ep;rcases q with ⟨dst,op,ty,pos,fX,g⟩
 dsimp only at a8;subst a8;refine DC X.hC (dN hB) (awr X.hC ho hw hx hp ha ?_);simp only[adg,ho] at hj;have:=hj ep;simp only[JP,p6] at this;exact this
def jnZ{p:Nat}(r i:Nat)(hp:b.data.toList[p]?=none) (hj:J X (adg i (.tuple ⟨[.bool false]⟩) r (.stringIter b p) o))
 (hv:iC X.n (nxV X.n) o=some r:=by kernel_rfl) (hB:fT [i] o=some [(r,.stringIter b p)]:=by kernel_rfl):J X o:=by
 obtain⟨ops,i0,todo,kk,ev,w0,kn,q,rfl,ho,hw,hc⟩:=gF hv;obtain⟨x,a8,hx⟩:=aoM hc;intro ep;rcases q with ⟨dst,op,ty,pos,fX,g⟩
 dsimp only at a8;subst a8;refine DC X.hC (dN hB) (awq X.hC ho hw hx hp ?_);simp only[adg,ho] at hj;have:=hj ep;simp only[JP,p6] at this;exact this
def jcG{own:Cells}{Φ:Value->(Nat->Option Obj)->Cells->Prop}(ps:List Nat)(hf:FnG X.P f vs X.ro own Φ)(hj:∀v bU Y,Sub X.ro bU->Φ v bU Y->J (X.at bU) (rV ps v Y o))(h1:iC X.n (y7 X.P X.n) o=some (f,vs):=by kernel_rfl)(h2:fT ps o=some own:=by kernel_rfl):J X o:=by
 obtain⟨ops,i,todo,k,e,w,kn,p,rfl,ho,hw,hc⟩:=gF h1;obtain⟨ff,x,xs,at_,fi,ca,ws,a8,hx,xD,rfl⟩:=vK hc;intro ep;rcases p with ⟨dst,op,ty,pos,fX,g⟩
 dsimp only at a8;subst a8;have hp:=dN h2;refine yQ (fi:=⟨fi⟩) (ca:=⟨ca⟩) (ws:=fi++ws++ca) X.hC ho hw hx ff xD (XA fi ws ca) (Fn.weaken X.hC (FnG.use (s:=⟨X.ro,den w⟩) hp hf)) (λv' s' hr=>?_) (λch s' hr=>by obtain⟨_,_,_,e,_⟩:=hr;cases e) (λs' hr=>by obtain⟨_,_,_,e,_⟩:=hr;cases e);obtain⟨v,bU,Y,hv,hs,uz,hle⟩:=hr;cases hv;have:=hj _ bU Y hs uz;rw[tx ho] at this;have:=this (ep.up hs);simp only[JP,lv,Na] at this;exact this.more X.hC hle
def asW(n:Nat)(p:Oper)(e:Env):Option (FuncId×List Value):=match p.op with
 | .call ⟨.value (.func f),xs,_⟩=>match FK n e xs.toList with
  |some vs=>some (f,vs)
  |none=>none
 |_=>none
theorem Xe(h:asW n p e=some (f,vs)):∃xs at_,p.op= .call ⟨.value (.func f),xs,at_⟩/\FK n e xs.toList=some vs:=by
 grind [asW]
def jib{a:ByteArray}{b:Int}(ef:EF X.P f Extern.BytealgIndexByte.indexByte)(hj:J X (lT (.int .i64 (ixb a b.toNat.toUInt8)) o))(hv:fp X.n (asW X.n) o=some (f,[.string a,.int .u8 b]):=by kernel_rfl):J X o:=by
 refine jGS hv (λs p e _ hf=>?_) hj;obtain⟨xs,at_,a8,hx⟩:=Xe hf;rcases p with ⟨dst,op,ty,pos,fX,g⟩
 subst a8;exact⟨λops i vy rest hw s' hs todo Q hk=>aoH X.hC vy hw ef (E5 hx) hk,λhk=>by cases hk⟩
def bdS{v:Value}(ef:EF X.P f Extern.AbiNoEscape.same)(hj:J X (lT v o))(hv:fp X.n (asW X.n) o=some (f,[v]):=by kernel_rfl):J X o:=by
 refine jGS hv (λs p e _ hf=>?_) hj;obtain⟨xs,at_,a8,hx⟩:=Xe hf;rcases p with ⟨dst,op,ty,pos,fX,g⟩
 subst a8;exact⟨λops i vy rest hw s' hs todo Q hk=>awp X.hC vy hw ef (E5 hx) hk,λhk=>by cases hk⟩
def mmV(n:Nat)(p:Oper)(e:Env):Option (Bool×Value×Value):=match p.op with
 | .call ⟨.builtin .min,⟨[x,y]⟩,⟨[_,_]⟩⟩=>match dv n e x with
  |some v=>match dv n e y with
   |some w=>some (true,v,w)
   |none=>none
  |none=>none
 | .call ⟨.builtin .max,⟨[x,y]⟩,⟨[_,_]⟩⟩=>match dv n e x with
  |some v=>match dv n e y with
   |some w=>some (false,v,w)
   |none=>none
  |none=>none
 |_=>none
def jmn{k:IntKind}{a b:Int}(hj:J X (lT (.int k (min a b)) o))(hv:fp X.n (mmV X.n) o=some (true,.int k a,.int k b):=by kernel_rfl):J X o:=by
 refine SH hv (λs p e _ hf=>?_) hj;unfold mmV at hf;split at hf<;>try (cases hf;done)
 .rename_i a8;split at hf<;>try (cases hf;done)
  rename_i hx;split at hf<;>try (cases hf;done)
  rename_i hy;cases hf;rcases p with ⟨dst,op,ty,pos,fX,g⟩
  dsimp only at a8;subst a8;exact λs0 ops i vy rest hw s' hs todo Q hk=>aFD X.hC vy hw (cM hx) (cM hy) hk
 split at hf<;>try (cases hf;done)
 split at hf<;>cases hf
def jmx{k:IntKind}{a b:Int}(hj:J X (lT (.int k (max a b)) o))(hv:fp X.n (mmV X.n) o=some (false,.int k a,.int k b):=by kernel_rfl):J X o:=by
 refine SH hv (λs p e _ hf=>?_) hj;unfold mmV at hf;split at hf<;>try (cases hf;done)
 .split at hf<;>try (cases hf;done)
  split at hf<;>cases hf
 rename_i a8;split at hf<;>try (cases hf;done)
 rename_i hx;split at hf<;>try (cases hf;done)
 rename_i hy;cases hf;rcases p with ⟨dst,op,ty,pos,fX,g⟩
 dsimp only at a8;subst a8;exact λs0 ops i vy rest hw s' hs todo Q hk=>aFE X.hC vy hw (cM hx) (cM hy) hk
def jsx(i b off:Nat)(c l:List Value)(t:TypeId)(h1:∀v∈l,single v=true)(hb:Nat.ble (off+l.length) c.length=true)(hj:J X (adg i undef b (.cells ⟨gZ c off l⟩ t (0,0)) o))(hv:iC X.n (avx X.P X.n) o=some (⟨b,off,none⟩,l,l.length):=by kernel_rfl)(h2:fT [i] o=some [(b,.cells ⟨c⟩ t (0,0))]:=by kernel_rfl):J X o:=by
 obtain⟨ops,i0,todo,kk,ev,w,kn,p,rfl,ho,hw,hc⟩:=gF hv;obtain⟨T,x,y,d,dL,z,ag,u,a8,tf,hx,hy,hu⟩:=ago hc;intro ep;rcases p with ⟨dst,op,ty,pos,fX,g⟩
 dsimp only at a8;subst a8;refine DC X.hC (dN h2)<|ost X.hC ho hw tf hx hy hu rfl h1 (Nat.le_of_ble_eq_true hb) ?_;simp only[adg,ho] at hj;have:=hj ep;simp only[JP,p6] at this;exact this
def wS(m:Nat)(e:Env):Option JS->Option JS
 |some ⟨.ops ops todo k,_,w,kn⟩=>some ⟨.ops ops (todo.drop m) k,e,w,kn⟩
 |_=>none
def jj(m:Nat)(e:Env)(hj:∀rest,J X (wS m (e++rest) o))(h:(∀o',wS 0 [] o'=wS m [] o->sY (qg e) o'=some e->J X o')->J X o)(hd:lkE (qg e) e=some e:=by kernel_rfl):J X o:=by
 refine h λo' h1 h2=>?_;cases o' with
 |none=>simp[sY] at h2
 |some s'=>
  rcases s' with ⟨p',e',w',kn'⟩
  cases o with
  |none=>exact(hj []).elim
  |some s=>
   rcases s with ⟨p,e0,w,kn⟩
   cases p' with
   |ops brk amG k'=>
    cases p with
    |ops ops todo k=>
     obtain⟨⟨rfl,rfl,rfl⟩,rfl,rfl⟩:=h1;rw[A1] at h2;obtain⟨r,hr⟩:=lJ (n:=X.n) (D:=X.D) (qz h2) (qz hd);intro ep;have:=hj r ep;show aR _ _ _ _ _ _ (A X.n e' X.D) _;rw[hr];exact this
    |_=>simp[wS] at h1
   |_=>cases p<;>simp[wS] at h1<;>exact(hj []).elim
end
attribute [irreducible] wS adg
section
variable {X:Cx} {o:Option JS}
def ajN(i:Nat)(rest:Env)(todo:List Nat):Option JS->Option JS
 |some ⟨.KZ ops base Pl _ k,_,w,kn⟩=>some ⟨.ops ops (i::todo) k,fe ops base i Pl++rest,w,kn⟩
 |_=>none
def LK(X:Cx)(i:Nat)(o:Option JS)(rest:Env)(todo:List Nat):Prop:=match o with
 |some ⟨.KZ ops base Pl Sl k,_,w,kn⟩=>∀v s',(∀j u,(j,u)∈pending ops i Sl->yP ops X.n base Pl j=false->(∀B,(j,B)∈kn.nd->Ext ⟨X.ro,[]⟩ s'->(∀x∈B,s'.has x.1 x.2)->ku X.C X.fn X.bR ops X.n X.D j u (fe ops base j Pl) s')->ku X.C X.fn X.bR ops X.n X.D j u (fe ops base j Pl) ⟨X.ro,den w⟩->ku X.C X.fn X.bR ops X.n X.D j u (fe ops base j Pl) s')->
  (PF X kn.nd ops base ((i,v)::Pl) (pending ops i Sl)->Bj X.C X.fn X.bR ops X.n X.D base ((i,v)::Pl) (pending ops i Sl) (KQ X k) s')->aR X.C X.fn X.bR ops todo (KQ X k) (A X.n (upd (db ops i) v (fe ops base i Pl++rest)) X.D) s'
 |_=>True
def aag(is:List Nat):Option JS->Bool
 |some ⟨.KZ ops _ Pl Sl _,_,_,_⟩=>kG ops&&((is.all λi=>Nat.blt i ops.size&& !dG i (bx Pl))&&(nodupB (bx Pl)&&(wj ops (bx Pl)&&(kI (bx Sl) (bx Pl)&&(aoy ops (bx Pl) is&& !is.isEmpty)))))
 |_=>false
def aud(X:Cx)(o:Option JS):List Nat->Prop
 | []=>True
 |i::is=>(∀rest todo,LK X i o rest todo->J X (ajN i rest todo o))/\aud X o is
theorem xB(is:List Nat)(h:aud X o is)(hb:aag is o=true:=by kernel_rfl):J X o:=by
 unfold aag at hb;split at hb<;>try (cases hb;done)
 rename_i ops base Pl Sl k e w kn;simp only[Bool.and_eq_true,Bool.not_eq_true'] at hb;obtain⟨h1,h2,h3,h4,h5,h6,h7⟩:=hb;intro ep hpf;refine ali is h1 h2 h3 h4 h5 h6 ?_ h7;clear h6 h7
 induction is with
 |nil=>trivial
 |cons i is ih=>
  simp only[List.all_cons,Bool.and_eq_true,Bool.not_eq_true'] at h2;refine⟨λrest todo hk=>h.1 rest todo (λv s' hp ha=>?_) ep,ih h.2 h2.2⟩;have jv:∀x,x∈pending ops i Sl->x∈Sl:=λx hx=>(List.mem_filter.1 hx).1;refine hk v s' (λj u Kt dr=>?_) (ha ⟨λj u Kt hpb s0=>?_,λj u B Kt hB s0 Hr EY=>?_⟩)
  .cases hpb:yP ops X.n base Pl j with
   |true=>exact hpf.1 j u (jv _ Kt) hpb s'
   |false=>exact hp j u Kt hpb (λB hB hx hb=>hpf.2 j u B (jv _ Kt) hB s' hx hb) dr
  .have Jl:j∈bx Sl:=cP.2 ⟨u,jv _ Kt⟩;have yE:i∉dK ops j:=λhd=>by
    have h8:=eO.1 h5 j Jl;have h9:=eO.1 (List.all_eq_true.1 h4 j h8) i hd;rw[cE.2 h9] at h2;exact absurd h2.1.2 (by simp)
   rw[gD yE];exact hpf.1 j u (jv _ Kt) (by simp only[yP,gD yE] at hpb;exact hpb) s0
  .have Jl:j∈bx Sl:=cP.2 ⟨u,jv _ Kt⟩;have yE:i∉dK ops j:=λhd=>by
    have h8:=eO.1 h5 j Jl;have h9:=eO.1 (List.all_eq_true.1 h4 j h8) i hd;rw[cE.2 h9] at h2;exact absurd h2.1.2 (by simp)
   rw[gD yE];exact hpf.2 j u B (jv _ Kt) hB s0 Hr EY
def bX(i:Nat)(h:∀rest todo,LK X i o rest todo->J X (ajN i rest todo o))(hb:aag [i] o=true:=by kernel_rfl):J X o:=xB [i] ⟨h,bW⟩ hb
def afM(i:Nat):Option JS->Option JS->Option JS
 |some ⟨.KZ ops base Pl Sl k,e,_,kn⟩,some ⟨.ops _ _ _,e',w',kn'⟩=>some ⟨.KZ ops base ((i,match db ops i with
  |some d=>(mN e' d).getD undef
  |none=>undef)::Pl) (pending ops i Sl) k,e,w',⟨kn'.c,kn.nd⟩⟩
 |_,_=>none
def bkL(i:Nat)(rest:Env)(todo:List Nat):Option JS->Option JS->Option JS
 |some ⟨.KZ ops base Pl _ k,_,_,_⟩,some ⟨_,e',w',kn'⟩=>some ⟨.ops ops todo k,upd (db ops i) (match db ops i with
  |some d=>(mN e' d).getD undef
  |none=>undef) (fe ops base i Pl++rest),w',kn'⟩
 |_,_=>none
theorem afG{rest:Env}(h:bkL i rest todo o o1=o1)(h1:o1≠none):∃ops base Pl Sl k e w kn v w' kn',o=some ⟨.KZ ops base Pl Sl k,e,w,kn⟩/\o1=some ⟨.ops ops todo k,upd (db ops i) v (fe ops base i Pl++rest),w',kn'⟩:=by
 unfold bkL at h
 grind
def rwO:Option JS->List Sg
 |some s=>s.rw
 |none=>[]
def eP{rest:Env}(hK:LK X i o rest todo)(is:List Nat)(hj:J X (afM i o o1))(hc:bkL i rest todo o o1=o1:=by kernel_rfl)(h2:wL is o1=some (rwO o):=by kernel_rfl):J X o1:=by
 by_cases eo:o1=none
 .subst eo;cases o with
  |none=>exact hj
  |some s=>rcases s with ⟨p,e,w,kn⟩;cases p<;>exact hj
 obtain⟨AV,base,Pl,Sl,k,e,w,kn,v,w',kn',rfl,rfl⟩:=afG hc eo;intro ep;have hp:=rL h2;have hv:(match db AV i with
  |some d=>(mN (upd (db AV i) v (fe AV base i Pl++rest)) d).getD undef
  |none=>undef)=v\/db AV i=none:=by
  cases hd:db AV i with
  |none=>exact .inr rfl
  |some d=>left;simp[upd,mN]
 have hj:=hj ep;simp only[afM,JP] at hj;have key:=hK _ ⟨X.ro,den w'⟩ (λj u _ _ _ hs=>hs.ext λb ob hb=>?_) hj
 .show aR _ _ _ _ _ _ _ _;rcases hv with hv|hv
  .rw[hv] at key;exact key
  rw[hv] at key ⊢;exact key
 rcases hb with hb|hb
 .exact .inl hb
 exact .inr (hp.mem_iff.2 (cR _ hb))
def aoj(i:Nat):Option JS->Bool
 |some ⟨.KZ ops _ _ Sl _,_,_,_⟩=>(pending ops i Sl).isEmpty
 |_=>false
def kV{rest:Env}(hK:LK X i o rest todo)(hj:J X (afM i o o1))(hc:bkL i rest todo o o1=o1:=by kernel_rfl)(h2:aoj i o=true:=by kernel_rfl):J X o1:=by
 by_cases eo:o1=none
 .subst eo;cases o with
  |none=>exact hj
  |some s=>rcases s with ⟨p,e,w,kn⟩;cases p<;>exact hj
 obtain⟨AV,base,Pl,Sl,k,e,w,kn,v,w',kn',rfl,rfl⟩:=afG hc eo;intro ep;have hv:(match db AV i with
  |some d=>(mN (upd (db AV i) v (fe AV base i Pl++rest)) d).getD undef
  |none=>undef)=v\/db AV i=none:=by
  cases hd:db AV i with
  |none=>exact .inr rfl
  |some d=>left;simp[upd,mN]
 have hj:=hj ep;simp only[afM,JP] at hj;have CL:pending AV i Sl=[]:=by simpa [aoj] using h2
 have key:=hK _ ⟨X.ro,den w'⟩ (λj u Kt=>by rw[CL] at Kt;cases Kt) hj;show aR _ _ _ _ _ _ _ _;rcases hv with hv|hv
 .rw[hv] at key;exact key
 rw[hv] at key ⊢;exact key
def ndG:List (Nat×Cells)->Nat->Option Cells
 | [],_=>none
 | (i,B)::l,j=>bif Nat.beq i j then some B else ndG l j
def ag0{j:Nat}{B:Cells}:∀ {l:List (Nat×Cells)},ndG l j=some B->(j,B)∈l
 | (i,C)::l,h=>by
  simp only[ndG] at h;cases hb:Nat.beq i j with
  |true=>
   simp_all
  |false=>rw[hb] at h;exact cm _ (ag0 h)
structure Rk where
 a:List Value
 b:List Value
 c:List (Option Cells)
 d:List (Option Cells)
def aVp(ps:List Nat)(w:List Sg):Option Cells:=bif PQ ps then (match Zs ps w with
 |some x=>some (den x)
 |none=>none) else none
def rkL(P:Program)(n:Nat)(ops:Array Oper)(base:Env)(Pl:List (Nat×Value))(nd:List (Nat×Cells))(w:List Sg)(kn:Cells):List (List Nat)->List (Nat×Value)->Option Rk
 |_,[]=>some ⟨[],[],[],[]⟩
 |hs,(j,u)::r=>bif yP ops n base Pl j then rkL P n ops base Pl nd w kn hs r else (match hs with
  |h::hs=>match ndG nd j with
   |some B=>match rkL P n ops base Pl nd w kn hs r with
    |some ⟨a,b,c,d⟩=>some ⟨a,b,aVp h w::c,some B::d⟩
    |none=>none
   |none=>match ops[j]? with
    |some p=>match DY ops n (fe ops base j Pl) p.guard with
     |some true=>match p.op with
      | .load T x=>match dv n (fe ops base j Pl) x with
       |some (.pointer (some ⟨b,off,none⟩))=>match IW w kn (h.headD 0) with
        |some (b',l)=>match ldv P T l off with
         |some v=>match rkL P n ops base Pl nd w kn hs r with
          |some ⟨a1,b1,c,d⟩=>some ⟨v:: .int .i64 b'::a1,u:: .int .i64 b::b1,c,d⟩
          |none=>none
         |none=>none
        |none=>none
       |_=>none
      |_=>none
     |_=>none
    |none=>none
  | []=>none)
def VE{ops:Array Oper}{base:Env}{Pl:List (Nat×Value)}{nd:List (Nat×Cells)}{w:List Sg}(ep:Knows X.ro kn):∀ {l:List (Nat×Value)} {hs:List (List Nat)} {k:Rk},rkL X.P X.n ops base Pl nd w kn hs l=some k->k.a=k.b->k.c=k.d->∀j u,(j,u)∈l->yP ops X.n base Pl j=false->
 (∀B,(j,B)∈nd->Ext ⟨X.ro,[]⟩ ⟨X.ro,den w⟩->(∀x∈B,(⟨X.ro,den w⟩:St).has x.1 x.2)->ku X.C X.fn X.bR ops X.n X.D j u (fe ops base j Pl) ⟨X.ro,den w⟩)->ku X.C X.fn X.bR ops X.n X.D j u (fe ops base j Pl) ⟨X.ro,den w⟩
 | [],_,_,_,_,_,j,u,h,_,_=>by cases h
 | (j0,u0)::r,hs,k,h,Iv,hcd,j,u,hm,hpj,kP=>by
  simp only[rkL] at h;cases hpb:yP ops X.n base Pl j0 with
  |true=>
   rw[hpb] at h;simp only[cH] at h;rcases aS.1 hm with h1|h1
   .cases h1;rw[hpb] at hpj;cases hpj
   exact VE ep h Iv hcd j u h1 hpj kP
  |false=>
   rw[hpb] at h;simp only[fJ] at h;split at h<;>try (cases h;done)
   rename_i h0 fq;split at h
   .rename_i B hB;split at h<;>try (cases h;done)
    rename_i a b c d hr;cases h;simp only[lO] at hcd;rcases aS.1 hm with h1|h1
    .cases h1;refine kP B (ag0 hB) Xd λx hx=> .inr ?_;have hw:=hcd.1;unfold aVp at hw;cases ho:PQ h0 with
     |false=>rw[ho] at hw;cases hw
     |true=>
      rw[ho] at hw;simp only[cH] at hw;split at hw<;>try (cases hw;done)
      rename_i y hy;simp only[aD] at hw;subst hw;exact(EK hy ho).mem_iff.2 (cR _ hx)
    exact VE ep hr Iv hcd.2 j u h1 hpj kP
   split at h<;>try (cases h;done)
   rename_i p hp;have NH:db ops j0=p.dst:=by simp only[db,hp,oT]
   split at h<;>try (cases h;done)
   rename_i hg;split at h<;>try (cases h;done)
   rename_i T x a8;split at h<;>try (cases h;done)
   rename_i b0 off hx;split at h<;>try (cases h;done)
   rename_i b' l hc;split at h<;>try (cases h;done)
   rename_i v hv;split at h<;>try (cases h;done)
   rename_i a1 b1 c d hr;cases h;simp only[lO,Value.int.injEq,true_and] at Iv;obtain⟨rfl,hb,Iv⟩:=Iv;have hb:b'=b0:=by omega
   subst hb;rcases aS.1 hm with h1|h1
   .cases h1;obtain⟨t,fz,hh⟩:=Hj (X:=X) ep hc;intro s1 hx1 rest todo Q hk;rw[NH] at hk;exact qf X.hC hp rest (uF hg rest) (by rw[a8];rfl) (ad6 a8 hx hh hv) hx1 hk
   exact VE ep hr Iv hcd j u h1 hpj kP
def rkO(P:Program)(n i:Nat)(hs:List (List Nat)):Option JS->Option JS->Option Rk
 |some ⟨.KZ ops base Pl Sl _,_,_,kn⟩,some s1=>rkL P n ops base Pl kn.nd s1.rw s1.kn.c hs (pending ops i Sl)
 |_,_=>none
def rkA:Option Rk->Option (List Value×List (Option Cells))
 |some k=>some (k.a,k.c)
 |none=>some ([],[])
def rkB:Option Rk->Option (List Value×List (Option Cells))
 |some k=>some (k.b,k.d)
 |none=>none
def eE{rest:Env}(hK:LK X i o rest todo)(hs:List (List Nat))(hj:J X (afM i o o1))(hc:bkL i rest todo o o1=o1:=by kernel_rfl)(h2:rkA (rkO X.P X.n i hs o o1)=rkB (rkO X.P X.n i hs o o1):=by kernel_rfl):J X o1:=by
 by_cases eo:o1=none
 .subst eo;cases o with
  |none=>exact hj
  |some s=>rcases s with ⟨p,e,w,kn⟩;cases p<;>exact hj
 obtain⟨AV,base,Pl,Sl,k,e,w,kn,v,w',kn',rfl,rfl⟩:=afG hc eo;intro ep;have hv:(match db AV i with
  |some d=>(mN (upd (db AV i) v (fe AV base i Pl++rest)) d).getD undef
  |none=>undef)=v\/db AV i=none:=by
  cases hd:db AV i with
  |none=>exact .inr rfl
  |some d=>left;simp[upd,mN]
 have hj:=hj ep;simp only[afM,JP] at hj;have dr:=by
  simp only[rkO] at h2;cases hr:rkL X.P X.n AV base Pl kn.nd w' kn'.c hs (pending AV i Sl) with
  |none=>rw[hr] at h2;cases h2
  |some x=>
   rw[hr] at h2;simp only[rkA,rkB,aD,bP] at h2;exact VE ep hr h2.1 h2.2
 have key:=hK _ ⟨X.ro,den w'⟩ (λj u Kt hpb hn _=>dr j u Kt hpb hn) hj;show aR _ _ _ _ _ _ _ _;rcases hv with hv|hv
 .rw[hv] at key;exact key
 rw[hv] at key ⊢;exact key
end
attribute [irreducible] rkO rkA rkB ajN aag afM bkL rwO aoj
abbrev RY(ro:Nat->Option Obj)(Φ:Value->Cells->Prop):Ending->St->Prop:=λen s'=>∃v X,en= .returned v/\(⟨ro,X⟩:St).le s'/\Φ v X
def Round.mono{l:Nat}{s:St}{R':Ending->St->Prop}(h:Round C l f tm ae bd s R)(hr:∀e s,R e s->R' e s):Round C l f tm ae bd s R':=
 λmain T hT c cs k1 k2=>h _ T hT c cs (λv s' hv=>k1 v s' (hr _ _ hv)) (λch s' hv=>k2 ch s' (hr _ _ hv))
def Round.weaken{C':Class}(hc:∀main T,C' main T->C main T){l:Nat}{s:St}(h:Round C l f tm ae bd s R):Round C' l f tm ae bd s R:=
 λmain T hT=>h _ T (hc _ T hT)
theorem Round.frame{P:Program}{l:Nat}{s1 s:St}{B:Cells}(hf:Round (CP P) l f tm ae bd s1 R)(hB:∀x∈B,x∈fr)(hc:alC fr B ro s1 s):
 Round (CP P) l f tm ae bd s (λen s'=>∃Gs,R en Gs/\alC fr B ro Gs s'):=
 λmain T hT c cs k1 k2=>hf _ _ (Iz hT hB ro) c cs (λv Gs hv _ s' Bp=>k1 v s' ⟨Gs,hv,Bp⟩) (λch Gs hv _ s' Bp=>k2 ch s' ⟨Gs,hv,Bp⟩) rfl s hc
def amb(r:Loop)(vs:List Value):Array Value:=(r.params.zip ⟨vs⟩).foldl (λtmps (x:Tmp×Value)=>tmps.setIfInBounds x.1 x.2) r.tmps
def YX(P:Program)(bl:Nat)(vs:List Value)(ro:Nat->Option Obj)(own:Cells)(Φ:Value->Cells->Prop):Prop:=
 ∃r,(bl,.loop r)∈own/\vs.length=r.params.size/\Round (CP P) bl r.fn (amb r vs) r.assign r.body ⟨ro,own⟩ (RY ro Φ)
def YX.use{P:Program}{bl:Nat}{vs:List Value}{ro:Nat->Option Obj}{own fr:Cells}{Φ:Value->Cells->Prop}{s:St}(hy:YX P bl vs ro own Φ)(hs:Sub ro s.ro)(hp:s.rw.Perm (own++fr)){Q:Next->St->Prop}{E:Halt->St->Prop}
 (h:∀l f tm ae bd,Round (CP P) l f tm ae bd s (λen s'=>∃v X,en= .returned v/\Φ v X/\(⟨s.ro,X++fr⟩:St).le s')->Q (.round l f tm ae bd) s):eJ P (Instr.yield bl ⟨vs⟩) s Q E:=by
 obtain⟨r,h1,h2,h3⟩:=hy;simp only[Instr.yield,Instr.getLoop,aH];refine fL (o:= .loop r) (.inr (hp.mem_iff.2 (cR _ h1))) rfl rfl ?_;have sD:¬(⟨vs⟩:Array Value).size≠r.params.size:=by simpa using h2
 simp only[aQ,cJ sD];refine h _ _ _ _ _ (Round.mono (Round.frame (fr:=fr) (B:=[]) (ro:=s.ro) (s:=s) h3 (λ_ h=>(by cases h)) ⟨hp,λb o hb=> .inl (hs b o hb),Sub.refl _⟩) λen s' wz=>?_);obtain⟨Gs,⟨v,X,rfl,⟨R,hR1,hR2⟩,uz⟩,hc⟩:=wz;refine⟨v,X,rfl,uz,R,?_,λb o hb=> .inl (hc.keep b o hb)⟩;refine hc.rw.trans ((hR1.append_right fr).trans ?_);simp only[bC];exact Ar _ ir
section
variable {X:Cx} {o:Option JS}
def aDq(n:Nat)(p:Oper)(e:Env):Option (Nat×List Value):=match p.op with
 | .call ⟨.value x,xs,_⟩=>match dv n e x with
  |some (.func (.yield bl) ⟨[]⟩ ⟨[]⟩)=>match FK n e xs.toList with
   |some vs=>some (bl,vs)
   |none=>none
  |_=>none
 |_=>none
def jyc{bl:Nat}{vs:List Value}{wY:Nat->Option Obj}{own:Cells}{Φ:Value->Cells->Prop}(ps:List Nat)(hy:YX X.P bl vs wY own Φ)(lG:Sub wY X.ro)(hj:∀v Y,Φ v Y->J X (rV ps v Y o))(h1:iC X.n (aDq X.n) o=some (bl,vs):=by kernel_rfl)(h2:fT ps o=some own:=by kernel_rfl):J X o:=by
 obtain⟨ops,i,todo,k,e,w,kn,p,rfl,ho,hw,hc⟩:=gF h1;intro ep;unfold aDq at hc;split at hc<;>try (cases hc;done)
 rename_i x xs at_ a8;split at hc<;>try (cases hc;done)
 rename_i bl' hx;split at hc<;>try (cases hc;done)
 rename_i vU hvs;cases hc;rcases p with ⟨dst,op,ty,pos,fX,g⟩
 dsimp only at a8;subst a8;have hp:=dN h2;refine eA X.hC ho hw (by simp) ?_;have WA:xs.map (ev X.n e)=⟨vs⟩:=yd hvs;simp only[execOp,resolve,bZ hx,Deferred.ofValue,aQ,WA];have hiv:(invoke (.fn (.yield bl) ⟨[]⟩) (⟨[]⟩++⟨vs⟩):Sem Next)=Instr.yield bl ⟨vs⟩:=by simp[invoke]
 rw[hiv];refine YX.use hy lG hp λl f tm ae bd hR=>?_;show Round X.C l f tm ae bd _ _;refine Round.mono (Round.weaken X.hC hR) λen s' wz=>?_;obtain⟨v,Y,rfl,uz,hle⟩:=wz;have:=hj v Y uz;rw[tx ho] at this;have:=this ep;simp only[JP,lv] at this;have:=this.more X.hC hle;show aR _ _ _ _ _ _ _ _;rw[dF];exact this
end
attribute [irreducible] aDq
def mk:List Nat->Cells
 | []=>[]
 |b::r=>(b,.deferred (some []))::mk r
def ao8(P:Program)(fn:Func)(R:Ending->St->Prop):Post
 | .normal,a,s| .ret,a,s=>∃B7 rest,a.defers=B7.map jM/\s.rw.Perm (mk B7++rest)/\eJ P (results fn a.tmps) ⟨s.ro,rest⟩ (λv s'=>∃s0,s0.le s'/\R (.returned v) s0) (λ_ _=>False)
 |_,_,_=>False
section
variable {P:Program} {C:Class}
def HJ(hC:∀main T,C main T->Closed P main T){T:Goroutine->St->Prop}(hT:C main T){rest:Cells}:∀(B7:List Nat) (fr:Frame) (s:St),fr.mode= .returning->fr.defers=B7.map jM->s.rw.Perm (mk B7++rest)->T (G {fr with defers:=[]} cs) ⟨s.ro,rest⟩->T (G fr cs) s
 | [],fr,s,_,hd,hp,h=>by
  have:fr={fr with defers:=[]}:=by rcases fr with ⟨a,b,c,d,e,f,g⟩;simp only[lN] at hd;subst hd;rfl
  rw[this];exact(hC main T hT).mono _ ⟨s.ro,rest⟩ _ ⟨[],by simpa [mk] using hp,λb o hb=> .inl hb⟩ h
 |b::r,fr,s,hm,hd,hp,h=>by
  obtain⟨L,Rr,hs⟩:=Fo (hp.mem_iff.2 (cR _ dX));refine unwind_mark hC hT (.inl hm) (ds:=r.map jM) (by simpa using hd) hs ?_;have X5:(L++Rr).Perm (mk r++rest):=by
   rw[hs] at hp;exact(jz.symm.trans hp).cons_inv
  refine(hC main T hT).mono _ ⟨s.ro,L++Rr⟩ _ ⟨[(b,.deferred none)],?_,λb o hb=> .inl hb⟩ (HJ hC hT r _ _ hm rfl X5 h);exact jz.trans (List.perm_append_singleton _ _).symm
theorem UB(hC:∀main T,C main T->Closed P main T){c:Code}{args:Array Value}{s:St}
 (hf:P.funcs[f]?=some fn) (hb:fn.body=some c) (h:Wp C f none c (ao8 P fn R) ⟨args++Array.replicate (fn.ntmps-args.size) undef,[]⟩ s):Fn C P f args s R:=by
 intro main T hT cl cs k1 k2
 let b:Frame:={(default:Frame) with fn:=f,kind:= .normal,roundOf:=none}
 have oN:Frame.enter P f args .normal=dH b ⟨args++Array.replicate (fn.ntmps-args.size) undef,[]⟩ [.code c]:=by
  simp[Frame.enter,dH,hf,hb,b]
 rw[oN];refine h main T hT b [] (cl::cs) rfl (by simp[b]) rfl λe a' s' q=>?_;have Ad:∀(todo:List Item),(∃B7 rest,a'.defers=B7.map jM/\s'.rw.Perm (mk B7++rest)/\eJ P (results fn a'.tmps) ⟨s'.ro,rest⟩ (λv s'=>∃s0,s0.le s'/\R (.returned v) s0) (λ_ _=>False))->T (G {dH b a' todo with mode:= .returning} (cl::cs)) s':=by
  intro todo ⟨B7,rest,hd,hp,hr⟩;exact HJ hC hT B7 _ _ rfl hd hp (xL hC hT hf rfl rfl rfl rfl hr k1)
 cases e with
 |normal=>
  exact(hC main T hT).go rfl rfl (g':=G {dH b a' [] with mode:= .returning} (cl::cs)) (λw=>by simp[G,stepG,stepG.exec,dH,b]) (Ad _ q)
 |ret=>
  exact λtodo=>(hC main T hT).go rfl rfl (g':=G {dH b a' (.code .ret::todo) with mode:= .returning} (cl::cs)) (λw=>by simp[G,stepG,stepG.exec,dH,b]) (Ad _ q)
 |panic ch=>exact q.elim
 |exit id=>exact q.elim
 |goto l=>exact q.elim
 |outgrown=>exact q.elim
end
def XM(P:Program)(hm:P.follows .mixedOrders=true)(f:FuncId)(ro:Nat->Option Obj)(R:Ending->St->Prop):Cx:=⟨P,CP P,kH,hm,f,none,(x6 P f).ntmps,[],ro,ao8 P (x6 P f) R⟩
def aed{P:Program}(hm:P.follows .mixedOrders=true){L:Cells}(own:List Sg)(kn:Cells)(hk:Knows ro kn)(h:J (XM P hm f ro (RX ro Φ)) (pI P f args own kn))(hL:den own=L:=by rfl):eW P f args ro L Φ:=by
 subst hL;unfold pI at h;split at h<;>try exact h.elim
 rename_i fn hf;split at h<;>try exact h.elim
 rename_i c hc;cases hl:Nat.ble args.length fn.ntmps with
 |false=>rw[hl] at h;exact h.elim
 |true=>
  rw[hl] at h;have CM:x6 P f=fn:=by simp only[x6,hf]
  have:=h hk;simp only[JP,XM,KQ,CM] at this;refine UB kH hf hc ?_;have he:=ry args fn.ntmps (cT hl);rw[<-he] at this;exact this
structure QM(X:Cx)(R:Ending->St->Prop)(B7:List Nat):Prop where
 q:X.Q=ao8 X.P (x6 X.P X.fn) R
 d:X.D=B7.map jM
def Cx.dm(X:Cx)(bd:Nat):Cx:={X with D:=jM bd::X.D}
def qm0{P:Program}{hm:P.follows .mixedOrders=true}:QM (XM P hm f ro R) R []:=⟨rfl,rfl⟩
theorem QM.a{X:Cx}(h:QM X R B7):QM (X.at ro) R B7:=⟨h.q,h.d⟩
theorem QM.m{X:Cx}{bd:Nat}(h:QM X R B7):QM (X.dm bd) R (bd::B7):=⟨h.q,by simp[Cx.dm,h.d]⟩
theorem QM.w{X:Cx}{aVB:List Nat}(h:QM X R B7):QM (X.wd (aVB.map jM)) R aVB:=⟨h.q,rfl⟩
def Q8(pm:List Nat):Option JS->Option JS
 |some ⟨p,e,w,kn⟩=>some ⟨p,e,gz pm 0 w,kn⟩
 |none=>none
section
variable {X:Cx} {o:Option JS}
def jrM(hq:QM X (RX wY Φ) B7)(v:Value)(pm hs ps:List Nat)(Y:Cells)(lG:Sub wY X.ro)(hR:Φ v Y)(h0:fT pm o=some (mk B7):=by kernel_rfl)(h1:yF (nz X.P X.n X.fn hs (Q8 pm o))=some v:=by kernel_rfl)(h2:Yf (nz X.P X.n X.fn hs (Q8 pm o))=Ye (nz X.P X.n X.fn hs (Q8 pm o)):=by kernel_rfl)(h3:fT ps (Q8 pm o)=some Y:=by kernel_rfl)(h4:Ha o=true:=by kernel_rfl):J X o:=by
 obtain⟨ex,e,w,kn,rfl,hex⟩:=A8 h4;simp only[Q8,nz] at h1 h2 h3;cases hr:JJ X.P X.n e (gz pm 0 w) kn.c hs (x6 X.P X.fn).results.toList with
 |none=>simp only[hr,yF] at h1;cases h1
 |some x=>
  rcases x with ⟨vs,q⟩
  simp only[hr,yF,aD,Yf,Ye] at h1 h2;intro ep;have Ad:=Bz ep hr (sg h2);have hp:=dN h3;have Qi:=YZ (s0:=⟨wY,Y⟩) (R:=RX wY Φ) hex Ad h1 (gG hp lG) ⟨v,Y,rfl,rfl,hR⟩;have ht:eJ X.P (results (x6 X.P X.fn) (A X.n e X.D).tmps) ⟨X.ro,den (gz pm 0 w)⟩ (λv s'=>∃s0,s0.le s'/\RX wY Φ (.returned v) s0) (λ_ _=>False):=by
   rcases hex with rfl|rfl<;>exact Qi.2
  show X.Q ex (A X.n e X.D) ⟨X.ro,den w⟩;rw[hq.q];have hm:∃B7 rest,(A X.n e X.D).defers=B7.map jM/\(den w).Perm (mk B7++rest)/\eJ X.P (results (x6 X.P X.fn) (A X.n e X.D).tmps) ⟨X.ro,rest⟩ _ (λ_ _=>False):=⟨B7,_,hq.d,dN h0,ht⟩;rcases hex with rfl|rfl<;>exact hm
end
attribute [irreducible] Q8
def upQ(Q:Post):Post:=λe a s=>∃s0,s0.le s/\Q e a s0
def After.more{P:Program}{T:Goroutine->St->Prop}(hT:Closed P main T){b:Frame}{k:List Item}{s:St}(hl:s.le s'):∀ {e:Exit} {a:Act},After T b k cs e a s->After T b k cs e a s'
 | .normal,_,h=>hT.mono _ _ _ hl h
 | .exit id,a,h=>by
  simp only[After] at h ⊢;cases hk:exitTo id k with
  |some k'=>rw[hk] at h;exact hT.mono _ _ _ hl h
  |none=>rw[hk] at h;exact λtodo ht=>hT.mono _ _ _ hl (h _ ht)
 | .ret,_,h=>λtodo=>hT.mono _ _ _ hl (h _)
 | .panic _,_,h=>λtodo=>hT.mono _ _ _ hl (h _)
 | .goto _,_,h=>h.elim
 | .outgrown,_,h=>h.elim
def aMY{P:Program}(hC:∀main T,C main T->Closed P main T){fn:FuncId}{c:Code}{Q:Post}{a:Act}{s:St}(h:Wp C fn bR c (upQ Q) a s):Wp C fn bR c Q a s:=
 λmain T hT b k cs h1 h2 h3 h4=>h _ T hT b k cs h1 h2 h3 λ_ _ _ ⟨_,hl,hq⟩=>After.more (hC _ _ hT) hl (h4 _ _ _ hq)
def ItX(P:Program)(g:FuncId)(fi ca:List Value)(ro:Nat->Option Obj)(own:Cells)(N:Nat)(El:(Nat->Option Obj)->Nat->List Value->Cells->Prop)(Ψ:Cells->Prop):Prop:=
 ∀(bl:Nat) (cK:Nat->Option Obj) (Inv:Nat->Cells->Prop) (Stop:Cells->Prop),Sub ro cK->
  (∀k vs LL B As,k <N->El As k vs LL->Inv k B->Sub cK As->YX P bl vs As (LL++B) (λr B'=>(r= .bool true/\Inv (k+1) B')\/(r= .bool false/\Stop B')))->
  ∀B,Inv 0 B->eW P g (fi++[.func (.yield bl) #[] #[]]++ca) cK (own++B) (λ_ Y=>∃Z B',Y=Z++B'/\Ψ Z/\(Inv N B'\/Stop B'))
def Round.more{P:Program}(hC:∀main T,C main T->Closed P main T){l:Nat}{s:St}(hl:s.le s')(h:Round C l f tm ae bd s R):Round C l f tm ae bd s' R:=
 λmain T hT c cs k1 k2=>(hC _ _ hT).mono _ _ _ hl (h _ T hT c cs k1 k2)
def rfV(P:Program)(n:Nat):Option JS->Option (FuncId×List Value×List Value×Nat)
 |some ⟨.code (.rangeFunc x ps _ _) _,e,_,_⟩=>match dv n e x with
  |some (.func (.func g) ⟨fi⟩ ⟨ca⟩)=>bif Hu P g then some (g,fi,ca,ps.size) else none
  |_=>none
 |_=>none
def lpO(X:Cx)(bd:Nat):Option JS->Loop
 |some ⟨.code (.rangeFunc _ ps a b) _,e,_,_⟩=>nF X.fn (A X.n e X.D).tmps ps a b bd
 |_=>nF X.fn #[] #[] .ret .ret bd
def aVy:Option JS->Code
 |some ⟨.code (.rangeFunc _ _ _ b) _,_,_,_⟩=>b
 |_=> .ret
def YR:List Tmp->List Value->Env->Env
 |t::ts,v::vs,e=>YR ts vs (upd (some t) v e)
 |_,_,e=>e
theorem YQ{D:List Deferred}:∀(ts:List Tmp) (vs:List Value) (e:Env),(ts.zip vs).foldl (λ(tm:Array Value) (x:Tmp×Value)=>tm.setIfInBounds x.1 x.2) (A n e D).tmps=(A n (YR ts vs e) D).tmps
 | [],_,_=>rfl
 |_::_,[],_=>rfl
 |t::ts,v::vs,e=>by
  have:=dF n e D (some t) v;simp only[Act.put] at this;simp only[List.zip_cons_cons,nJ,YR];rw[<-YQ ts vs,<-this]
def rdO(X:Cx)(bl bd:Nat)(vs:List Value)(w:List Sg)(o:Option JS):Option JS:=match o with
 |some ⟨.code (.rangeFunc _ ps a _) _,e,_,kn⟩=>some ⟨.code a [],YR ps.toList vs e,.b bl (.loop (lpO X bd o))::w,⟨kn.c,[]⟩⟩
 |_=>none
def afO(jump:Option Code)(bd:Nat)(Z:Cells)(wi:List Sg)(is:List Nat):Option JS->Option JS
 |some ⟨.code _ k,e,w,kn⟩=>match jump with
  |none=>some ⟨Zq k,e,.b bd (.deferred (some [])):: .l Z::(wi++gz is 0 w),⟨kn.c,[]⟩⟩
  |some .ret=>some ⟨.fin .ret,e,.b bd (.deferred (some [])):: .l Z::(wi++gz is 0 w),⟨kn.c,[]⟩⟩
  |some (.exit id)=>match II id k with
   |some p=>some ⟨p,e,.b bd (.deferred (some [])):: .l Z::(wi++gz is 0 w),⟨kn.c,[]⟩⟩
   |none=>none
  |_=>none
 |_=>none
def aDt(bl:Nat)(Lp:Loop)(wf:ι->List Sg)(Inv:Nat->ι->Prop)(Sp:Code->ι->Prop)(k:Nat):Value->Cells->Prop:=λr B=>
 (r= .bool true/\∃j,Inv (k+1) j/\B=(bl,.loop Lp)::den (wf j))\/(r= .bool false/\∃jump j,Sp jump j/\B=(bl,.loop {Lp with state:= .done,pending:=some jump})::den (wf j))
def Cx.rd(X:Cx)(bl:Nat)(ro:Nat->Option Obj)(Φ:Value->Cells->Prop)(body:Code):Cx:=⟨X.P,CP X.P,kH,X.hm,X.fn,some bl,X.n,[],ro,afK (CP X.P) (RY ro Φ) bl X.fn body⟩
def Cx.re(X:Cx)(bl:Nat)(ro:Nat->Option Obj)(Φ:Value->Cells->Prop):Cx:=⟨X.P,CP X.P,kH,X.hm,X.fn,some bl,X.n,[],ro,JI (RY ro Φ) bl⟩
theorem U6{X:Cx}{bd:Nat}:∀(k:List KI),KQ (X.dm bd) k=KQ X k
 | []=>rfl
 | .seq _::k=>by simp only[KQ,U6 k];rfl
 | .block _::k=>by simp only[KQ,U6 k]
 | .next _::k=>by simp only[KQ,U6 k]
theorem TH(Z W R:List α)(x y:α):((Z++x::W)++y::R).Perm (x::y::(Z++(W++R))):=by
 refine jz.trans ?_
 grind [bC,jz]
section
variable {X:Cx} {o:Option JS}
def jrf{ι:Type}{g:FuncId}{fi ca:List Value}{N np:Nat}{El:(Nat->Option Obj)->Nat->List Value->Cells->Prop}{Ψ:Cells->Prop}(ow:List Sg)(hit:ItX X.P g fi ca X.ro (den ow) N El Ψ)(hel:∀ro k vs LL,El ro k vs LL->vs.length=np)
 (wf:ι->List Sg)(Inv:Nat->ι->Prop)(Sp:Code->ι->Prop)(i0:ι)(h0:Inv 0 i0)(is:List Nat)
 (hb:∀bl bd k vs LL i As,k <N->El As k vs LL->Inv k i->Sub X.ro As->J (X.rd bl As (aDt bl (lpO X bd o) wf Inv Sp k) (aVy o)) (rdO X bl bd vs (wf i++[.l LL]) o))
 (hN:∀bd i Z,Inv N i->Ψ Z->J (X.dm bd) (afO none bd Z (wf i) is o))(hS:∀bd i Z jump,Sp jump i->Ψ Z->J (X.dm bd) (afO (some jump) bd Z (wf i) is o))
 (h1:rfV X.P X.n o=some (g,fi,ca,np):=by kernel_rfl)(h2:wL is o=some (ow++wf i0):=by kernel_rfl)(hf:(X.P.funcs[X.fn]?).isSome=true:=by kernel_rfl) (hr:X.bR=none:=by rfl):J X o:=by
 unfold rfV at h1;split at h1<;>try (cases h1;done)
 rename_i x params assign body k e w kn;split at h1<;>try (cases h1;done)
 rename_i g' fi' IY hx;cases Jm:Hu X.P g' with
 |false=>rw[Jm] at h1;cases h1
 |true=>
  rw[Jm] at h1;simp only[cH,aD,bP] at h1;obtain⟨rfl,rfl,rfl,hnp⟩:=h1;have ff:=nT Jm;intro ep;have hp:=rL h2;rw[rz] at hp;obtain⟨fn',CM⟩:=Option.isSome_iff_exists.1 hf;show Wp X.C X.fn X.bR (.rangeFunc x params assign body) (KQ X k) (A X.n e X.D) ⟨X.ro,den w⟩;rw[hr];refine aMY X.hC (HB X.hC (fi:=⟨fi'⟩) (ca:=⟨IY⟩) (by rw[ma];exact bZ hx) ff λbd bl _ _=>?_);rw[XA];have hy:=hit bl X.ro (λk B=>∃i,Inv k i/\B=(bl,.loop (nF X.fn (A X.n e X.D).tmps params assign body bd))::den (wf i))
   (λB=>∃jump i,Sp jump i/\B=(bl,.loop {nF X.fn (A X.n e X.D).tmps params assign body bd with state:= .done,pending:=some jump})::den (wf i)) (Sub.refl _) (λk vs LL B As hk hv hi hs=>?_) _ ⟨i0,h0,rfl⟩
  rotate_left
  .obtain⟨i,hi,rfl⟩:=hi;refine⟨nF X.fn (A X.n e X.D).tmps params assign body bd,gv _ dX,(hel _ _ _ _ hv).trans hnp.symm,Round.more kH (s:=⟨As,((bl,.loop (nF X.fn (A X.n e X.D).tmps params assign body bd))::den (wf i))++LL⟩) ⟨[],by rw[eR];exact ir,λb o hb=> .inl hb⟩ (Mm kH CM ?_)⟩;have:=hb bl bd k vs LL i As hk hv hi hs λy hy=>hs _ _ (ep y hy);have SZ:den (.b bl (.loop (nF X.fn (A X.n e X.D).tmps params assign body bd))::(wf i++[.l LL]))=((bl,.loop (nF X.fn (A X.n e X.D).tmps params assign body bd))::den (wf i))++LL:=by rw[p6,rz];rfl
   rw[<-SZ];have hyt:amb (nF X.fn (A X.n e X.D).tmps params assign body bd) vs=(A X.n (YR params.toList vs e) X.D).tmps:=by
    rw[<-YQ];simp only[amb,nF];rw[<-Array.foldl_toList,Array.toList_zip]
   rw[hyt];exact this
  .refine Fn.weaken X.hC (Fn.mono (Fn.frame (fr:=(bd,.deferred (some []))::den (gz is 0 w)) (B:=[]) (ro:=X.ro) hy (λ_ h=>(by cases h)) ⟨?_,λb o hb=> .inl hb,Sub.refl _⟩) λen s' wz=>?_)
   .refine List.Perm.trans (.cons _ (.cons _ ?_)) (TH _ _ _ _ _).symm;rw[<-bC];exact hp
   .obtain⟨Gs,⟨v,Y,rfl,rfl,Z,B',rfl,hΨ,hI⟩,hc⟩:=wz;have hc1:s'.rw.Perm ((Z++B')++(bd,.deferred (some []))::den (gz is 0 w)):=hc.rw;have key:∀(r0:Loop) (i:ι),B'=(bl,.loop r0)::den (wf i)->∃L Rr,s'.rw=L++(bl,.loop r0)::Rr/\∀r1,(⟨X.ro,den (.b bd (.deferred (some [])):: .l Z::(wf i++gz is 0 w))⟩:St).le ⟨s'.ro,L++(bl,.loop r1)::Rr⟩:=by
     intro r0 i hB;subst hB;have hc2:=hc1.trans (TH _ _ _ _ _);obtain⟨L,Rr,hs⟩:=Fo (hc2.mem_iff.2 dX);refine⟨L,Rr,hs,λr1=>gG (J:=[(bl,.loop r1)]) ?_ hc.keep⟩;rw[hs] at hc2;have hc3:=(jz.symm.trans hc2).cons_inv;rw[p6,lv,rz];exact jz.trans ((List.Perm.cons _ hc3).trans (List.perm_append_singleton _ _).symm)
    rcases hI with ⟨i,hi,hB⟩| ⟨jump,i,hi,hB⟩
    .obtain⟨L,Rr,hs,hle⟩:=key _ i hB;refine⟨L,_,Rr,hs,by simp[nF],?_⟩;refine⟨_,hle _,?_⟩;have:=hN bd i Z hi hΨ ep;rw[<-U6 (bd:=bd)];exact BD (X:=X.dm bd) (kn:=⟨kn.c,[]⟩) this
    .obtain⟨L,Rr,hs,hle⟩:=key _ i hB;refine⟨L,_,Rr,hs,by simp,?_⟩;have:=hS bd i Z jump hi hΨ;cases jump with
     |ret=>
      refine⟨_,hle _,?_⟩;rw[<-U6 (bd:=bd)];exact HS (X:=X.dm bd) (this ep) k
     |exit id=>
      simp only[afO] at this;cases hk:II id k with
      |none=>rw[hk] at this;exact this.elim
      |some p=>
       rw[hk] at this;refine⟨_,hle _,?_⟩;rw[<-U6 (bd:=bd)];exact D8 (X:=X.dm bd) (kn:=⟨kn.c,[]⟩) hk (this ep)
     |_=>exact this.elim
end
def aQx{X:Cx}{bd:Nat}:(lpO X bd o).state= .ready/\(lpO X bd o).pending=none:=by
 unfold lpO;split<;>exact⟨rfl,rfl⟩
attribute [irreducible] rfV lpO aVy rdO afO
def bgO(body:Code):Option JS->Option (JS×Nat)
 |some ⟨.fin .normal,e,.b b (.loop r)::w,kn⟩=>match r.state with
  | .ready=>some (⟨.code body [],e,.b b (.loop {r with state:= .busy})::w,kn⟩,b)
  |_=>none
 |_=>none
def NJ:Option (JS×Nat)->Option JS
 |some (s,_)=>some s
 |none=>none
def ac8:Option (JS×Nat)->Option Nat
 |some (_,b)=>some b
 |none=>none
def aap:Option JS->Option (Option Code)
 |some ⟨.fin .normal,_,_,_⟩=>some none
 |some ⟨.fin .ret,_,_,_⟩=>some (some .ret)
 |some ⟨.fin (.exit id),_,_,_⟩=>some (some (.exit id))
 |_=>none
structure QY(X:Cx)(bl:Nat)(ro:Nat->Option Obj)(Φ:Value->Cells->Prop):Prop where
 q:X.Q=JI (RY ro Φ) bl
def qy0{X:Cx}:QY (X.re bl ro Φ) bl ro Φ:=⟨rfl⟩
section
variable {X:Cx} {o:Option JS} {bl:Nat} {ro:Nat->Option Obj}
def jbg(h:J (X.re bl ro Φ) (NJ (bgO body o)))(h1:ac8 (bgO body o)=some bl:=by kernel_rfl):J (X.rd bl ro Φ body) o:=by
 unfold bgO at h h1;split at h<;>try exact h.elim
 rename_i e b r w kn;split at h<;>try exact h.elim
 rename_i dr;simp only[dr,ac8,aD] at h1;subst h1;simp only[NJ] at h;intro ep;have hw:=h ep;refine⟨[],r,den w,by rw[p6];rfl,dr,?_⟩;simp only[JP,p6] at hw;exact hw
def jyR{Lp:Loop}{jump:Option Code}{Y:Cells}(hq:QY X bl ro Φ)(lG:Sub ro X.ro)(ps:List Nat)(uz:Φ (.bool jump.isNone) ((bl,.loop {Lp with state:=if jump.isNone then .ready else .done,pending:=jump})::Y))(h1:fT ps o=some ((bl,.loop {Lp with state:= .busy})::Y):=by kernel_rfl)(h2:aap o=some jump:=by kernel_rfl):J X o:=by
 have main:∀s w kn e,o=some ⟨s,e,w,kn⟩->afq (RY ro Φ) bl jump ⟨X.ro,den w⟩:=by
  intro s w kn e ho;subst ho;have hp:=dN h1;obtain⟨L,Rr,hs⟩:=Fo (hp.mem_iff.2 (cR _ dX));refine⟨L,_,Rr,hs,_,_,rfl,?_,uz⟩;have pq:den w=L++(bl,.loop {Lp with state:= .busy})::Rr:=hs;have pY:(den w).Perm (((bl,.loop {Lp with state:= .busy})::Y)++den (gz ps 0 w)):=hp;rw[pq] at pY;have X5:=(jz.symm.trans pY).cons_inv;exact gG (J:=den (gz ps 0 w)) (jz.trans (.cons _ X5)) lG
 unfold aap at h2;split at h2<;>try (cases h2;done)
 .rename_i e w kn;cases h2;intro _;show X.Q .normal _ _;rw[hq.q];exact main _ _ _ _ rfl
 .rename_i e w kn;cases h2;intro _;show X.Q .ret _ _;rw[hq.q];exact main _ _ _ _ rfl
 rename_i id e w kn;cases h2;intro _;show X.Q (.exit id) _ _;rw[hq.q];exact main _ _ _ _ rfl
theorem jyn{Lp:Loop}{wf:ι->List Sg}{Inv:Nat->ι->Prop}{Sp:Code->ι->Prop}{k:Nat}(hq:QY X bl ro (aDt bl Lp wf Inv Sp k))(lG:Sub ro X.ro)(j:ι)(h:Inv (k+1) j)(ps:List Nat)(hl:Lp.state= .ready/\Lp.pending=none:=by exact aQx)(h1:fT ps o=some ((bl,.loop {Lp with state:= .busy})::den (wf j)):=by kernel_rfl)(h2:aap o=some none:=by kernel_rfl):J X o:=
 jyR hq lG ps (.inl ⟨rfl,j,h,by rcases Lp with ⟨a,b,c,d,e,f,g,i⟩;grind⟩) h1 h2
def jys{Lp:Loop}{wf:ι->List Sg}{Inv:Nat->ι->Prop}{Sp:Code->ι->Prop}{k:Nat}(hq:QY X bl ro (aDt bl Lp wf Inv Sp k))(lG:Sub ro X.ro)(jump:Code)(j:ι)(h:Sp jump j)(ps:List Nat)(h1:fT ps o=some ((bl,.loop {Lp with state:= .busy})::den (wf j)):=by kernel_rfl)(h2:aap o=some (some jump):=by kernel_rfl):J X o:=
 jyR hq lG ps (.inr ⟨rfl,jump,j,h,rfl⟩) h1 h2
end
attribute [irreducible] bgO NJ ac8 aap
def tV[DecidableEq κ](k:κ):List (κ×Value)->Nat->Option (Nat×Value)
 | [],_=>none
 |x::l,i=>if k=x.1 then some (i,x.2) else tV k l (i+1)
def lkM[DecidableEq κ](k:κ)(F:List (κ×Value)):Option Value:=(tV k F 0).map (·.2)
def yA(k:κ)(v:Value):List (κ×Value)->Nat->List (κ×Value)
 | [],_=>[]
 |_::l,0=>(k,v)::l
 |x::l,i+1=>x::yA k v l i
def jL[DecidableEq κ](k:κ)(v:Value)(F:List (κ×Value)):List (κ×Value):=match tV k F 0 with
 |some (i,_)=>yA k v F i
 |none=>F++[(k,v)]
structure XP(P:Program)(T:TypeId){κ:Type}[DecidableEq κ](kv:κ->Value):Prop where
 chk:∀(b:Bool) (k:κ) {α:Type} {K:Unit->Sem α} {s:St} {Q:α->St->Prop} {E:Halt->St->Prop},eJ P (K ()) s Q E->eJ P (Instr.checkKey b 10000 T (kv k) >>= K) s Q E
 find:∀(k:κ) (es:List MapEntry) (F:List (κ×Value)),es.map (λe=>(e.key,e.val))=F.map (λx=>(kv x.1,x.2))->∀ {α:Type} {K:Option (Nat×Value)->Sem α} {s:St} {Q:α->St->Prop} {E:Halt->St->Prop},eJ P (K (tV k F 0)) s Q E->eJ P (Instr.findKey T (kv k) es >>= K) s Q E
 stay:∀k,Instr.sameBits 10000 (kv k) (kv k)=true
theorem th[DecidableEq κ]{k:κ}:∀ {F:List (κ×Value)} {i j:Nat} {v:Value},tV k F i=some (j,v)->i<=j/\F[j-i]?=some (k,v)
 | [],_,_,_,h=>by cases h
 |x::l,i,j,v,h=>by
  simp only[tV] at h;split at h
  .rename_i hk;cases h;exact⟨bu _,by simp[hk]⟩
  obtain⟨h1,h2⟩:=th h
  grind
theorem Xw(a b:ByteArray):(a==b)=decide (a=b):=by
 have h:(a==b)=(a.data==b.data):=by rfl
 rw[h,Gk];cases a;cases b;simp
theorem MQ(a:ByteArray):∀(es:List MapEntry) (F:List (ByteArray×Value)) (i:Nat),es.map (λe=>(e.key,e.val))=F.map (λx=>(Value.string x.1,x.2))->Instr.findNow .string (.string a) es i=some (tV a F i)
 | [],[],_,_=>rfl
 | [],_::_,_,h=>by simp at h
 |_::_,[],_,h=>by simp at h
 |e::es,x::F,i,h=>by
  simp_all;obtain⟨⟨h1,h2⟩,h3⟩:=h;simp only[Instr.findNow,h1,Instr.sameNow,tV,Xw];by_cases hk:a=x.1
  .simp[hk,h2]
  simp only[hk,decide_false,cF];exact MQ a es F (i+1) h3
def CkD(P:Program)(dep:Nat)(T:TypeId)(v:Value):Prop:=∀(b:Bool) {α:Type} {K:Unit->Sem α} {s:St} {Q:α->St->Prop} {E:Halt->St->Prop},eJ P (Instr.checkKey b dep T v >>= K) s Q E=eJ P (K ()) s Q E
theorem aVt{P:Program}(tf:TF P T .string sz dL z ag)(a:ByteArray):CkD P (dep+1) T (.string a):=by
 intro b α K s Q E
 grind [Instr.checkKey,aH,cY,aQ]
theorem aGb{P:Program}(tf:TF P T .string sz dL z ag):XP P T (λ(a:ByteArray)=>Value.string a) where
 chk b k α K s Q E h:=by rw[aVt tf k b];exact h
 find k es F he α K s Q E h:=by
  grind [Instr.findKey,aH,cY,MQ,aQ]
 stay k:=by simp[Instr.sameBits,Xw]
def apK(P:Program)(T:TypeId):Bool:=match cV P T with
 |some ⟨.string,_,_,_⟩=>true
 |_=>false
theorem ahj{P:Program}(h:apK P T=true):XP P T (λ(a:ByteArray)=>Value.string a):=by
 grind [apK,bA,aGb]
def ItX.up{P:Program}{g:FuncId}{fi:List Value}{bU:Nat->Option Obj}{own:Cells}{N:Nat}{El:(Nat->Option Obj)->Nat->List Value->Cells->Prop}{Ψ:Cells->Prop}(h:ItX P g fi ca ro own N El Ψ)(hs:Sub ro bU):ItX P g fi ca bU own N El Ψ:=
 λbl cK Inv Stop h1=>h bl cK Inv _ (hs.trans h1)
def YOK(P:Program)(bl:Nat)(ro:Nat->Option Obj)(N:Nat)(El:(Nat->Option Obj)->Nat->List Value->Cells->Prop)(Inv:Nat->Cells->Prop)(Stop:Cells->Prop):Prop:=
 ∀k vs LL B As,k <N->El As k vs LL->Inv k B->Sub ro As->YX P bl vs As (LL++B) (λr B'=>(r= .bool true/\Inv (k+1) B')\/(r= .bool false/\Stop B'))
def YOK.up{P:Program}{bU:Nat->Option Obj}{N:Nat}{El:(Nat->Option Obj)->Nat->List Value->Cells->Prop}{Inv:Nat->Cells->Prop}{Stop:Cells->Prop}(h:YOK P bl ro N El Inv Stop)(hs:Sub ro bU):YOK P bl bU N El Inv Stop:=
 λk vs LL B As h1 h2 h3 h4=>h k vs LL B As h1 h2 h3 (hs.trans h4)
def Part(L:List α)(p:Nat)(m:List α):Prop:=∃a b,L=a++m++b/\a.length=p
theorem Part.get{L m:List α}{p:Nat}{x:α}(h:Part L p m)(hx:m[i]?=some x):p+i <L.length/\L[p+i]?=some x:=by
 obtain⟨a,b,rfl,rfl⟩:=h
 grind
def Part.flat{L:List β}{p:Nat}{G:α->List β}{l a b:List α}{s:α}(h:Part L p (l.flatMap G))(hl:l=a++[s]++b):Part L (p+(a.flatMap G).length) (G s):=by
 obtain⟨u,v,rfl,rfl⟩:=h;subst hl;exact⟨u++a.flatMap G,b.flatMap G++v,by simp,by simp⟩
def YI{P:Program}[DecidableEq κ]{kv:κ->Value}(he:∀a b,EqD P 10000 T (kv a) (kv b) (decide (a=b)))(k:κ):∀(es:List MapEntry) (F:List (κ×Value)) (i:Nat),es.map (λe=>(e.key,e.val))=F.map (λx=>(kv x.1,x.2))->∀ {α:Type} {K:Option (Nat×Value)->Sem α} {s:St} {Q:α->St->Prop} {E:Halt->St->Prop},eJ P (K (tV k F i)) s Q E->eJ P (Instr.findAsking T (kv k) es i >>= K) s Q E
 | [],[],_,_,_,_,_,_,_,h=>h
 | [],_::_,_,h,_,_,_,_,_,_=>by simp at h
 |_::_,[],_,h,_,_,_,_,_,_=>by simp at h
 |e::es,x::F,i,h,α,K,s,Q,E,hK=>by
  simp only[bV,lO,bP] at h;obtain⟨⟨h1,h2⟩,h3⟩:=h;simp only[Instr.findAsking,aH,h1,Op.equal];rw[show Op.maxDepth=10000 from rfl,he k x.1];simp only[tV] at hK;by_cases hk:k=x.1
  .rw[dW hk] at hK;simp only[hk,decide_true,dI,aQ,h2];exact hK
  rw[cJ hk] at hK;simp only[hk,decide_false,aX,cF];exact YI he k es F (i+1) h3 hK
theorem MY{P:Program}{k:IntKind}(tf:TF P T (.int k) sz dL z ag)(a:Int):CkD P (dep+1) T (.int k a):=by
 intro b α K s Q E
 grind [Instr.checkKey,aH,cY,aQ]
inductive Jb(P:Program)(dep:Nat)(l:List Value):List Field->Prop
 |nil:Jb P dep l []
 |cons {f:Field} {fs:List Field} {v:Value} (hn:f.name≠ "_") (hv:RD P f.type l f.offset v) (he:CkD P dep f.type v) (ht:Jb P dep l fs):Jb P dep l (f::fs)
def abN{P:Program}{fields:Array Field}(tf:TF P T (.struct fields) sz dL z true)(hf:Jb P dep l fields.toList):CkD P (dep+1) T (.agg ⟨l⟩):=by
 intro b α K s Q E;simp only[Instr.checkKey,aH,cY tf];rw[<-Array.forIn_toList];generalize fields.toList=fl at hf;clear tf
 induction hf with
 |nil=>simp only[List.forIn_nil,aQ,aH]
 | @cons f fs v hn hv he ht ih=>
  simp only[List.forIn_cons,hn,ne_eq,not_false_eq_true,dI,aH];rw[hv];simp only[aH];rw[he];simp only[aQ];exact ih
def apE{P:Program}[DecidableEq κ]{kv:κ->Value}{d:TypeDesc}(tf:TF P T d sz dL z ag)(hl:∀k,∃l,kv k= .agg l)(hc:∀k,CkD P 10000 T (kv k))(he:∀a b,EqD P 10000 T (kv a) (kv b) (decide (a=b)))(hs:∀k,Instr.sameBits 10000 (kv k) (kv k)=true):XP P T kv where
 chk b k α K s Q E h:=by rw[hc k b];exact h
 find k es F hm α K s Q E h:=by
  simp only[Instr.findKey,aH,cY tf];cases es with
  |nil=>
   cases F with
   |nil=>exact h
   |cons x F=>simp at hm
  |cons e es=>
   have:Instr.findNow d (kv k) (e::es) 0=none:=by
    cases F with
    |nil=>simp at hm
    |cons x F=>
     simp only[bV,lO,bP] at hm;obtain⟨l,hl1⟩:=hl k;obtain⟨l2,Ip⟩:=hl x.1;simp only[Instr.findNow,hm.1.1,hl1,Ip];cases d<;>rfl
   rw[this];exact YI he k _ F 0 hm h
 stay:=hs
def yH(kv:κ->Value)(F:List (κ×Value))(es:Array MapEntry)(ck:Nat):Prop:=
 es.toList.map (λe=>(e.key,e.val))=F.map (λx=>(kv x.1,x.2))/\(es.toList.map (·.born)).Nodup/\∀e∈es.toList,e.born <ck
def iq(r:Nat)(kv:κ->Value)(F:List (κ×Value))(L:Cells):Prop:=∃es ck,L=[(r,.map es ck)]/\yH kv F es ck
def auh(s:St)(r:Nat)(kv:κ->Value)(F:List (κ×Value)):Prop:=∃es ck,s.has r (.map es ck)/\yH kv F es ck
theorem iq.has{kv:κ->Value}{F:List (κ×Value)}{L:Cells}(h:iq r kv F L){s:St}(hs:∀x∈L,s.has x.1 x.2):auh s r kv F:=by
 obtain⟨es,ck,rfl,hm⟩:=h;exact⟨es,ck,hs _ dX,hm⟩
def auh.ext{kv:κ->Value}{F:List (κ×Value)}{s:St}(h:auh s r kv F)(hs:Ext s s'):auh s' r kv F:=by
 obtain⟨es,ck,h1,h2⟩:=h;exact⟨es,ck,hs _ _ h1,h2⟩
theorem iq.nil(r:Nat)(kv:κ->Value):iq r kv [] [(r,.map #[] 0)]:=⟨#[],0,rfl,rfl,Sd,λ_ h=>(by grind)⟩
section
variable {X:Cx} {o:Option JS}
def RV[DecidableEq κ](z:Value)(ok:Bool)(k:κ)(F:List (κ×Value)):Value:=match lkM k F with
 |some v=>bif ok then .tuple ⟨[v,.bool true]⟩ else v
 |none=>bif ok then .tuple ⟨[z,.bool false]⟩ else z
def luV(P:Program)(n:Nat)(p:Oper)(e:Env):Option (TypeId×Value×Value×Value×Bool):=match p.op with
 | .lookup T x y ok=>match cV P T with
  |some ⟨.map K E,_,_,_⟩=>match cV P E with
   |some te=>match dv n e x with
    |some m=>match dv n e y with
     |some k=>some (K,m,k,Sf te.zero te.agg,ok)
     |none=>none
    |none=>none
   |none=>none
  |_=>none
 |_=>none
def jlu[DecidableEq κ]{kv:κ->Value}{F:List (κ×Value)}{K:TypeId}(k:κ)(z:Value)(ok:Bool)(ps:List Nat)(B:Cells)(hk:XP X.P K kv)(hm:∀s:St,Ext ⟨X.ro,[]⟩ s->(∀x∈B,s.has x.1 x.2)->auh s r kv F)(hj:J X (JW B (RV z ok k F) o))
 (hv:fp X.n (luV X.P X.n) o=some (K,.map (some r),kv k,z,ok):=by kernel_rfl)(hB:fT ps o=some B:=by kernel_rfl):J X o:=by
 refine jGN hv hB (λs p e ho hh hf=>?_) hj;subst ho;unfold luV at hf;split at hf<;>try (cases hf;done)
 rename_i T x y ok' a8;split at hf<;>try (cases hf;done)
 rename_i K' E' _ _ _ ig;split at hf<;>try (cases hf;done)
 rename_i te wo;split at hf<;>try (cases hf;done)
 rename_i m hx;split at hf<;>try (cases hf;done)
 rename_i k' hy;simp only[aD,bP] at hf;obtain⟨rfl,rfl,rfl,rfl,rfl⟩:=hf;obtain⟨dL,tf⟩:=bA ig;obtain⟨CX,tK⟩:=bA wo;refine⟨by rw[a8];rfl,λs0 Hr EY ops i ho rest hwt s' hs todo Q my=>qf X.hC ho rest hwt (by rw[a8];rfl) ?_ hs my⟩;intro s1 fq f hf K2 E2 hK;obtain⟨es,ck,px,Kl⟩:=(hm s0 Hr EY).ext fq;simp only[execOp,a8,hf _ _ hx,hf _ _ hy,Instr.lookup,aH,cY tf];refine fL px rfl rfl ?_;simp only[aQ,aH];refine hk.chk _ _ ?_;simp only[aH];refine hk.find k _ F Kl.1 ?_;simp only[RV,lkM] at hK;cases FG:tV k F 0 with
 |none=>
  rw[FG] at hK;simp only[aH,oF tK,aQ];cases ok'<;>exact hK
 |some u=>
  obtain⟨i,v⟩:=u;rw[FG] at hK;simp only[aQ];cases ok'<;>exact hK
def aFR(p:Oper):Option Unit:=match p.op with
 | .makeMap _ none=>some ()
 |_=>none
def jmk(kv:κ->Value)(hj:∀r L,iq r kv [] L->J X (rV [] (.map (some r)) L o))(hv:iC X.n (λp _=>aFR p) o=some ():=by kernel_rfl):J X o:=by
 obtain⟨ops,i,todo,k,e,w,kn,p,rfl,ho,hw,hc⟩:=gF hv;intro ep;unfold aFR at hc;split at hc<;>try (cases hc;done)
 rename_i T a8;rcases p with ⟨dst,op,ty,pos,fX,g⟩
 dsimp only at a8;subst a8;refine eA X.hC ho hw (by simp) ?_;simp only[execOp,Instr.makeMap,Option.map_none,aH,u7,aQ];refine⟨rfl,?_⟩;intro b hb;have:=hj b _ (iq.nil b kv);rw[tx ho] at this;have:=this ep;simp only[JP,lv,E6] at this;show aR _ _ _ _ _ _ _ _;rw[dF];exact this
def muV(P:Program)(n:Nat)(p:Oper)(e:Env):Option (TypeId×Value×Value×Value):=match p.op with
 | .mapUpdate T x y z| .insert T x y z=>match cV P T with
  |some ⟨.map K _,_,_,_⟩=>match dv n e x with
   |some m=>match dv n e y with
    |some k=>match dv n e z with
     |some v=>some (K,m,k,v)
     |none=>none
    |none=>none
   |none=>none
  |_=>none
 |_=>none
theorem HP(k:κ)(v:Value):∀(F:List (κ×Value)) (i:Nat),yA k v F i=F.set i (k,v)
 | [],_=>rfl
 |_::_,0=>rfl
 |x::l,i+1=>by simp only[yA,HP k v l i,Hp]
theorem P1{kv:κ->Value}{k:κ}{v:Value}:∀(es:List MapEntry) (F:List (κ×Value)) (i:Nat),es.map (λe=>(e.key,e.val))=F.map (λx=>(kv x.1,x.2))->(es.modify i λe=>{e with key:=kv k,val:=v}).map (λe=>(e.key,e.val))=(yA k v F i).map (λx=>(kv x.1,x.2))
 | [],[],_,_=>by simp[yA]
 | [],_::_,_,h=>by simp at h
 |_::_,[],_,h=>by simp at h
 |e::es,x::F,0,h=>by
  grind [yA]
 |e::es,x::F,i+1,h=>by
  simp_all;simp[yA,h.1,P1 es F i h.2]
theorem Em{kx v:Value}:∀(es:List MapEntry) (i:Nat),(es.modify i λe=>{e with key:=kx,val:=v}).map (·.born)=es.map (·.born)
 | [],i=>by simp
 |e::es,0=>by rfl
 |e::es,i+1=>by simp[Em es i]
def XZ[DecidableEq κ]{kv:κ->Value}{F:List (κ×Value)}{K:TypeId}{L:Cells}(i:Nat)(k:κ)(v:Value)(hk:XP X.P K kv)(hm:iq r kv F L)(hj:∀L',iq r kv (jL k v F) L'->J X (rV [i] undef L' o))
 (hv:iC X.n (muV X.P X.n) o=some (K,.map (some r),kv k,v):=by kernel_rfl)(hB:fT [i] o=some L:=by kernel_rfl):J X o:=by
 obtain⟨ops,i0,todo,kk,e,w,kn,p,rfl,ho,hw,hc⟩:=gF hv;intro ep;rcases p with ⟨dst,op,ty,pos,fX,g⟩
 have main:∀T x y z,(op= .mapUpdate T x y z\/op= .insert T x y z)->muV X.P X.n ⟨dst,.mapUpdate T x y z,ty,pos,fX,g⟩ e=some (K,.map (some r),kv k,v)->aR X.C X.fn X.bR ops (i0::todo) (KQ X kk) (A X.n e X.D) ⟨X.ro,den w⟩:=by
  intro T x y z heq hc;simp only[muV] at hc;split at hc<;>try (cases hc;done)
  rename_i K' E' _ _ _ ig;split at hc<;>try (cases hc;done)
  rename_i m hx;split at hc<;>try (cases hc;done)
  rename_i k' hy;split at hc<;>try (cases hc;done)
  rename_i v' hz;simp only[aD,bP] at hc;obtain⟨rfl,rfl,rfl,rfl⟩:=hc;obtain⟨dL,tf⟩:=bA ig;have hp:=dN hB;obtain⟨es,ck,rfl,Kl⟩:=hm;obtain⟨L1,R1,fq⟩:=Fo (hp.mem_iff.2 (cR _ dX));have hle:∀L',iq r kv (jL k v' F) [(r,L')]->aR X.C X.fn X.bR ops todo (KQ X kk) (A X.n (upd dst undef e) X.D) ⟨X.ro,L1++(r,L')::R1⟩:=by
   intro L' hL;have:=hj _ hL;rw[tx ho] at this;have:=this ep;simp only[JP,lv] at this;refine this.more X.hC (gG (J:=[]) ?_ (Sub.refl _));have pY:(den w).Perm ([(r,.map es ck)]++den (gz [i] 0 w)):=hp;have beW:den w=L1++(r,.map es ck)::R1:=fq;rw[beW] at pY;have X5:=(jz.symm.trans pY).cons_inv;rw[eR];exact jz.trans (List.Perm.cons _ X5)
  have px:(⟨X.ro,den w⟩:St).has r (.map es ck):= .inr (by show _∈den w;rw[show den w=_ from fq];exact jE);refine eA X.hC ho hw (by rcases heq with rfl|rfl<;>simp) ?_;have hex:∀f:Operand->Value,execOp f ⟨dst,op,ty,pos,fX,g⟩=(do Instr.mapUpdate T (f x) (f y) (f z);pure .skip:Sem Next):=by
   intro f;rcases heq with rfl|rfl<;>simp only[execOp]
  rw[hex,bZ hx,bZ hy,bZ hz];simp only[Instr.mapUpdate,aH,cY tf];refine fL px rfl rfl ?_;simp only[aH];refine hk.chk _ _ ?_;simp only[aH];refine hk.find k _ F Kl.1 ?_;have fin:∀ob,iq r kv (jL k v' F) [(r,ob)]->upon X.C X.P X.bR dst (A X.n e X.D) (λa' s'=>aR X.C X.fn X.bR ops todo (KQ X kk) a' s') (KQ X kk) .skip ⟨X.ro,L1++(r,ob)::R1⟩:=by
   intro ob hL;show aR _ _ _ _ _ _ _ _;have:=hle ob hL;rw[<-dF] at this;exact this
  cases FG:tV k F 0 with
  |some u=>
   obtain⟨j,u⟩:=u;have SV:=th FG;simp only[Nat.sub_zero] at SV;have bf4:((es[j]?).map (·.key)).getD (kv k)=kv k:=by
    have h1:(es.toList.map (λe=>(e.key,e.val)))[j]?=some (kv k,u):=by rw[Kl.1];simp[SV.2]
    simp only[eG,Array.getElem?_toList] at h1;cases he:es[j]? with
    |none=>rfl
    |some e1=>rw[he] at h1;simp at h1;simp[h1.1]
   simp only[aH,Instr.keyThatStays,bf4,hk.stay,dI,aQ];refine iX rfl fq rfl<|fin _ ⟨_,_,rfl,?_,?_,?_⟩
   .simp only[Array.toList_modify,jL,FG];exact P1 _ _ _ Kl.1
   .simp only[Array.toList_modify,Em];exact Kl.2.1
   intro e1 h1;have:e1.born∈((es.toList.modify j λe=>{e with key:=kv k,val:=v'}).map (·.born)):=dR (by simpa using h1);rw[Em] at this;obtain⟨e2,h3,h4⟩:=bB.1 this;rw[<-h4];exact Kl.2.2 e2 h3
  |none=>
   refine iX rfl fq rfl<|fin _ ⟨_,_,rfl,?_,?_,?_⟩
   .simp only[Array.toList_push,cC,jL,FG,Kl.1];rfl
   .simp only[Array.toList_push,cC,bV,lN];refine eF.2 ⟨Kl.2.1,by simp,?_⟩;intro a ha b hb;obtain⟨e2,h3,rfl⟩:=bB.1 ha;have:=Kl.2.2 e2 h3;simp only[aV] at hb;omega
   intro e1 h1;simp only[Array.toList_push,bI,aV] at h1;rcases h1 with h1|rfl
   .have:=Kl.2.2 e1 h1;omega
   exact nI _
 have hc2:=hc;unfold muV at hc;split at hc<;>try (cases hc;done)
 .rename_i T x y z a8;dsimp only at a8;exact main T x y z (.inl a8) (by rw[<-hc2,a8])
 rename_i T x y z a8;dsimp only at a8;refine main T x y z (.inr a8) ?_;rw[<-hc2,a8];rfl
end
attribute [irreducible] luV aFR muV
section
variable {X:Cx} {o:Option JS}
def UY(P:Program)(n:Nat)(p:Oper)(e:Env):Option (FuncId×List Value):=match p.op with
 | .call ⟨.invoke x name,xs,_⟩=>match dv n e x with
  |some (.iface t v)=>match dP P (method (P.types.size+Made.depth) t v name) with
   |some (f,r)=>match FK n e xs.toList with
    |some vs=>bif Hu P f then some (f,r::vs) else none
    |none=>none
   |none=>none
  |_=>none
 |_=>none
def jS{f:Oper->Env->Option β}{r:β}(ps:List Nat)(B:Cells)(hv:iC X.n f o=some r)(hB:fT ps o=some B)
 (hy:∀p e,f p e=some r->(∀c,p.op≠ .defer c)/\∀(R:Cells) (Q:Next->St->Prop) (E:Halt->St->Prop),(∀v L',Φ v L'->Q (.value v) ⟨X.ro,L'++R⟩)->eJ X.P (execOp (ev X.n e) p) ⟨X.ro,B++R⟩ Q E)
 (hj:∀v L',Φ v L'->J X (rV ps v L' o)):J X o:=by
 obtain⟨ops,i,todo,k,e,w,kn,p,rfl,ho,hw,hc⟩:=gF hv;intro ep;have hp:=dN hB;obtain⟨hd,ht⟩:=hy p e hc;have:aR X.C X.fn X.bR ops (i::todo) (KQ X k) (A X.n e X.D) ⟨X.ro,B++den (gz ps 0 w)⟩:=by
  refine eA X.hC ho hw hd<|ht _ _ _ λv L' uz=>?_;have:=hj v L' uz;rw[tx ho] at this;have:=this ep;simp only[JP,lv] at this;show aR _ _ _ _ _ _ _ _;rw[dF];exact this
 have hle:(⟨X.ro,B++den (gz ps 0 w)⟩:St).le ⟨X.ro,den w⟩:=⟨[],by rw[eR];exact hp,λb o hb=> .inl hb⟩;exact this.more X.hC hle
end
attribute [irreducible] UY
section
variable {X:Cx} {o:Option JS}
def iaA(P:Program)(n:Nat)(p:Oper)(e:Env):Option (Nat×Nat×Int×Nat×Nat):=match p.op with
 | .indexAddr T x y=>match cV P T with
  |some ⟨.array len E,_,_,_⟩=>match cV P E with
   |some te=>match dv n e x with
    |some (.pointer (some ⟨b,off,none⟩))=>match dv n e y with
     |some (.int _ ix)=>some (b,off,ix,len,te.size)
     |_=>none
    |_=>none
   |none=>none
  |_=>none
 |_=>none
def Jg{b len:Nat}(ix:Int)(hi:0<=ix/\ix <len)(hj:J X (lT (.pointer (some ⟨b,off+ix.toNat*sz,none⟩)) o))(hv:fp X.n (iaA X.P X.n) o=some (b,off,ix,len,sz):=by kernel_rfl):J X o:=by
 refine jG hv (λs p e ho hh hf=>?_) hj;unfold iaA at hf;split at hf<;>try (cases hf;done)
 rename_i T x y a8;split at hf<;>try (cases hf;done)
 rename_i ajT E _ _ _ ig;split at hf<;>try (cases hf;done)
 rename_i te wo;split at hf<;>try (cases hf;done)
 rename_i b' aoD hx;split at hf<;>try (cases hf;done)
 rename_i ik ix' hy;simp only[aD,bP] at hf;obtain⟨rfl,rfl,rfl,rfl,rfl⟩:=hf;obtain⟨dL,tf⟩:=bA ig;obtain⟨CX,tK⟩:=bA wo;have key:∀s,Yields X.P X.n e p s (.pointer (some ⟨b',aoD+ix'.toNat*te.size,none⟩)):=by
  intro s s' pq f hf K E hK;simp only[execOp,a8,Instr.indexAt,Instr.sureAddr,hf _ _ hx,hf _ _ hy,asIntOf,aH,aQ,cY tf,hi,LC,dI,ez tK,gY];exact hK
 exact⟨by rw[a8];rfl,λ_=>key _,λ_=>key⟩
def saV(P:Program)(n:Nat)(p:Oper)(e:Env):Option (Nat×Nat×Int×Nat):=match p.op with
 | .slice T x none (some z) none=>match cV P T with
  |some ⟨.array len E,_,_,_⟩=>match cV P E with
   |some _=>match dv n e x with
    |some (.pointer (some ⟨b,off,none⟩))=>match dv n e z with
     |some (.int _ ix)=>some (b,off,ix,len)
     |_=>none
    |_=>none
   |none=>none
  |_=>none
 |_=>none
def jah{b len:Nat}(hi:Int)(hl:0<=hi/\hi<=len)(hj:J X (lT (.slice (some ⟨b,off,none⟩) hi.toNat len) o))(hv:fp X.n (saV X.P X.n) o=some (b,off,hi,len):=by kernel_rfl):J X o:=by
 refine jG hv (λs p e ho hh hf=>?_) hj;unfold saV at hf;split at hf<;>try (cases hf;done)
 rename_i T x z a8;split at hf<;>try (cases hf;done)
 rename_i ajT E _ _ _ ig;split at hf<;>try (cases hf;done)
 rename_i te wo;split at hf<;>try (cases hf;done)
 rename_i b' aoD hx;split at hf<;>try (cases hf;done)
 rename_i ik ix' hy;simp only[aD,bP] at hf;obtain⟨rfl,rfl,rfl,rfl⟩:=hf;obtain⟨dL,tf⟩:=bA ig;obtain⟨CX,tK⟩:=bA wo;have key:∀s,Yields X.P X.n e p s (.slice (some ⟨b',aoD,none⟩) ix'.toNat ajT):=by
  intro s s' pq f hf K E hK;simp only[execOp,a8,di,j7,Instr.sliceAt,Instr.sliceBounds,Instr.sliceBound,Instr.sureAddr,hf _ _ hx,hf _ _ hy,asIntOf,aH,aQ,cY tf,af3,aX,cF,hl,LC,dI,ez tK,Nat.zero_mul,gY,tO,ite_self,Nat.sub_zero];exact hK
 exact⟨by rw[a8];rfl,λ_=>key _,λ_=>key⟩
end
theorem lR{s:St}{b:Nat}{fz:Nat×Nat}{v:Value}(h:s.has b (.cells ⟨l⟩ t fz))(hv:nth l off=some v):eK s b off 1 [v]:=
 ⟨_,_,_,h,by grind [xS,ox,aB,gI]⟩
theorem Y3{s:St}{b o m:Nat}{v:Value}(h:eK s b o m l)(hv:nth l off=some v):eK s b (o+off) 1 [v]:=
 h.part off 1 (by grind [xS,ox,aB,gI])
open Go.ConcR (KK wgBlock WgAt stA smA rd wr)
def TT(T:Goroutine->St->Prop)(b:Frame)(Fx:List Item)(cs:List Frame)(n:Nat)(D:List Deferred)(ro:Nat->Option Obj)(o:Option JS):Prop:=
 ∀e w kn,o=some ⟨.fin .normal,e,w,kn⟩->Knows ro kn.c->T (G (dH b (A n e D) Fx) cs) ⟨ro,den w⟩
def CT{P:Program}(hm:P.follows .mixedOrders=true){main:Bool}{T:Goroutine->St->Prop}(hT:Closed P main T)(b:Frame)(Fx:List Item)(cs:List Frame)(n:Nat)(D:List Deferred)(ro:Nat->Option Obj):Cx:=
 ⟨P,λm T'=>m=main/\T'=T,by rintro _ _ ⟨rfl,rfl⟩;exact hT,hm,b.fn,none,n,D,ro,After T b Fx cs⟩
def afg:Option JS->Bool
 |some ⟨.fin .normal,_,_,_⟩=>true
 |_=>false
def opO(ops:Array Oper)(todo:List Nat):Option JS->Option JS
 |some ⟨.fin .normal,e,w,kn⟩=>some ⟨.ops ops todo [],e,w,⟨kn.c,[]⟩⟩
 |_=>none
def cdO(c:Code):Option JS->Option JS
 |some ⟨.fin .normal,e,w,kn⟩=>some ⟨.code c [],e,w,⟨kn.c,[]⟩⟩
 |_=>none
def stO(dst:Option Tmp)(v:Value):Option JS->Option JS
 |some ⟨p,e,w,kn⟩=>some ⟨p,upd dst v e,w,kn⟩
 |none=>none
def nwO(dst:Option Tmp)(v:Value)(q:Nat)(ob:Obj):Option JS->Option JS
 |some ⟨p,e,w,kn⟩=>some ⟨p,upd dst v e,.b q ob::w,kn⟩
 |none=>none
def evO(n:Nat)(x:Operand):Option JS->Option Value
 |some ⟨_,e,_,_⟩=>dv n e x
 |none=>none
def aU4(n:Nat)(xs:List Operand):Option JS->Option (List Value)
 |some ⟨_,e,_,_⟩=>FK n e xs
 |none=>none
def vaO(P:Program)(n:Nat)(a:Oper):Option JS->Option Value
 |some ⟨_,e,_,_⟩=>amw P n e a
 |none=>none
theorem akP(h:afg o=true):∃e w kn,o=some ⟨.fin .normal,e,w,kn⟩:=by
 unfold afg at h
 grind
def W5(f:FuncId)(k:CallKind):Frame:={(default:Frame) with fn:=f,kind:=k,roundOf:=none}
section
variable {P:Program} {main:Bool} {T:Goroutine->St->Prop} {b:Frame} {Fx:List Item} {cs:List Frame} {n:Nat} {D:List Deferred} {ro:Nat->Option Obj} {o:Option JS} {ops:Array Oper}
def amW{X:Cx}(h:TT T b Fx cs n D ro o)(hQ:X.Q=After T b Fx cs)(hn:X.n=n)(hD:X.D=D)(qS:X.ro=ro)(h1:afg o=true):J X o:=by
 subst hn hD qS;obtain⟨e,w,kn,rfl⟩:=akP h1;intro ep;show X.Q _ _ _;rw[hQ];exact h _ _ _ rfl ep
def Bx{hm:P.follows .mixedOrders=true}{hT:Closed P main T}(h:TT T b Fx cs n D ro o)(h1:afg o=true:=by kernel_rfl):J (CT hm hT b Fx cs n D ro) o:=amW h rfl rfl rfl rfl h1
def aOb{hm:P.follows .mixedOrders=true}{hT:Closed P main T}{wY:Nat->Option Obj}(h:TT T b Fx cs n D ro o)(h1:afg o=true:=by kernel_rfl):J ((CT hm hT b Fx cs n D wY).at ro) o:=amW h rfl rfl rfl rfl h1
def Dq(hm:P.follows .mixedOrders=true)(hT:Closed P main T)(hj:J (CT hm hT b Fx cs n D ro) (opO ops todo o))(hk:b.kind≠ .early:=by decide)(hr:b.roundOf=none:=by rfl):TT T b (.inRegion ops todo::Fx) cs n D ro o:=by
 rintro e w kn rfl ep;exact hj ep _ T ⟨rfl,rfl⟩ b Fx cs rfl hk hr λe a s q=>q
def amY(hm:P.follows .mixedOrders=true)(hT:Closed P main T){c:Code}(hj:J (CT hm hT b Fx cs n D ro) (cdO c o))(hk:b.kind≠ .early:=by decide)(hr:b.roundOf=none:=by rfl):TT T b (.code c::Fx) cs n D ro o:=by
 rintro e w kn rfl ep;exact hj ep _ T ⟨rfl,rfl⟩ b Fx cs rfl hk hr λe a s q=>q
def tSt(hT:Closed P main T)(ef:Env)(wf:List Sg)(ps:List Nat)(h:∀rest,TT T b Fx cs n D ro (some ⟨.fin .normal,ef++rest,wf,⟨[],[]⟩⟩))(h1:sY (qg ef) o=some ef:=by kernel_rfl)(h2:wL ps o=some wf:=by kernel_rfl)(h3:lkE (qg ef) ef=some ef:=by kernel_rfl):TT T b Fx cs n D ro o:=by
 rintro e w kn rfl ep;obtain⟨rest,he⟩:=lJ (qz (by rw[A1] at h1;omega)) (qz h3);rw[he];exact hT.mono _ _ _ (gG (rL h2) (Sub.refl _)) (h rest _ _ _ rfl λ_ h=>(by cases h))
section
variable {k:List Item} {rest l:List Code} (hT:Closed P main T)
include hT
def tL(hl:nS l= .region id ops false::rest)(h:∀l',nS l'=rest->TT T b (.inRegion ops (List.range ops.size)::(l'.map .code++k)) cs n D ro o):TT T b (l.map .code++k) cs n D ro o:=
 λe w kn ho ep=>J0 hT hl λl' Kr=>h l' Kr e w kn ho ep
def Mh{c:Operand}{x y:Code}{t q:Bool}(hl:nS l= .cond c x y::rest)(hq:q=t)(h:∀l',nS l'=rest->TT T b (.code (if t then x else y)::(l'.map .code++k)) cs n D ro o)(hc:evO n c o=some (.bool q):=by kernel_rfl):TT T b (l.map .code++k) cs n D ro o:=by
 subst hq;rintro e w kn rfl ep;exact awm hT hl (by rw[ma];exact bZ hc) λl' Kr=>h l' Kr e w kn rfl ep
def Vu{c:Code}(hl:nS l= .block id c::rest)(h:∀l',nS l'=rest->TT T b ([c].map .code++(.inBlock id::(l'.map .code++k))) cs n D ro o):TT T b (l.map .code++k) cs n D ro o:=
 λe w kn ho ep=>aoB hT hl λl' Kr=>h l' Kr e w kn ho ep
def aAx{c:Code}(hl:nS l= .loop c::rest)(h:∀l',nS l'=rest->TT T b ([c].map .code++(.inLoop c::(l'.map .code++k))) cs n D ro o):TT T b (l.map .code++k) cs n D ro o:=
 λe w kn ho ep=>awl hT hl λl' Kr=>h l' Kr e w kn ho ep
def YK{c:Code}(hl:nS l=c::rest)(h:∀l',nS l'=rest->TT T b (.code c::(l'.map .code++k)) cs n D ro o):TT T b (l.map .code++k) cs n D ro o:=
 λe w kn ho ep=>xG hT hl λl' Kr=>h l' Kr e w kn ho ep
def agj(h:TT T b k cs n D ro o):TT T b (.code .skip::k) cs n D ro o:=λe w kn ho ep=>ay7 hT (h e w kn ho ep)
def aAy{k':List Item}(hk:exitTo id k=some k')(h:TT T b k' cs n D ro o):TT T b (.code (.exit id)::k) cs n D ro o:=λe w kn ho ep=>ay8 hT hk (h e w kn ho ep)
def aAz(h:TT T b k cs n D ro o):TT T b (.inBlock id::k) cs n D ro o:=λe w kn ho ep=>akS hT (h e w kn ho ep)
def Tm(h:TT T b k cs n D ro o):TT T b (.inRegion ops []::k) cs n D ro o:=λe w kn ho ep=>rS hT (h e w kn ho ep)
def amZ{c:Code}(h:TT T b ([c].map .code++(.inLoop c::k)) cs n D ro o):TT T b (.inLoop c::k) cs n D ro o:=λe w kn ho ep=>afT hT (h e w kn ho ep)
def aN7{a:Oper}{f:Nat->Value}{ob:Obj}(ho:ops[i]?=some a) (hg:a.guard=none) (A4:∀e q,adL P (execOp (ev n e) a) q=some (ob,f q)) (hk:b.kind≠ .early) (hr:b.roundOf=none)
 (h:∀q,TT T b (.inRegion ops todo::k) cs n D ro (nwO a.dst (f q) q ob o)):TT T b (.inRegion ops (i::todo)::k) cs n D ro o:=by
 rintro e w kn rfl ep;refine DF hT ho (jJ _ _ hg) hk hr ?_;rw[ma];refine aoW (f:=f) (λq _=>⟨_,rfl,?_⟩) _ (A4 e);rw[dF];have:=h q _ _ _ rfl ep;exact this
def acZ{a:Oper}(v:Value)(ho:ops[i]?=some a) (hg:a.guard=none) (hk:b.kind≠ .early) (hr:b.roundOf=none) (h:TT T b (.inRegion ops todo::k) cs n D ro (stO a.dst v o)) (hv:vaO P n a o=some v:=by kernel_rfl):TT T b (.inRegion ops (i::todo)::k) cs n D ro o:=by
 rintro e w kn rfl ep;refine DF hT ho (jJ _ _ hg) hk hr ?_;rw[ma];refine HH hv _ (Ext.refl _) _ (λ_ _ h=>bZ h) _ _ ⟨v,rfl,?_⟩;rw[dF];exact h _ _ _ rfl ep
theorem tLd{q:Nat}{a:Oper}{x:Operand}{U:TypeId}(v:Value)(ho:ops[i]?=some a) (hg:a.guard=none) (a8:a.op= .load U x) (ht:(cV P U).map (·.agg)=some false) (hk:b.kind≠ .early) (hr:b.roundOf=none) {fz:Nat×Nat} (hb:∀e w kn,o=some ⟨.fin .normal,e,w,kn⟩->(⟨ro,den w⟩:St).has q (.cells ⟨[v]⟩ t fz))
 (h:TT T b (.inRegion ops todo::k) cs n D ro (stO a.dst v o)) (hx:evO n x o=some (.pointer (some ⟨q,0,none⟩)):=by kernel_rfl):TT T b (.inRegion ops (i::todo)::k) cs n D ro o:=by
 rintro e w kn rfl ep;refine DF hT ho (jJ _ _ hg) hk hr ?_;rw[ma];cases ig:cV P U with
 |none=>grind
 |some z=>
 rw[ig] at ht;simp only[di,aD] at ht;obtain⟨dL,tf⟩:=bA ig;rw[ht] at tf;simp only[execOp,a8,Instr.loadAt,bZ hx,Instr.sureAddr,loadVar,aH,aQ,pS tf,aX,cF];refine Dp ⟨[v],t,fz,hb _ _ _ rfl,rfl⟩ ⟨v,rfl,?_⟩;rw[dF];exact h _ _ _ rfl ep
end
def amX(hT:Closed P main T){a:Oper}{xs:Array Operand}{ats:Array TypeId}{k:List Item}(ho:ops[i]?=some a) (hg:a.guard=none) (a8:a.op= .defer ⟨.value (.func f),xs,ats⟩) (hk:b.kind≠ .early) (hr:b.roundOf=none)
 (h:TT T b k cs n ({target:= .fn (.func f) ⟨[]⟩,args:=⟨vs⟩}::D) ro (stO a.dst undef o)) (hx:aU4 n xs.toList o=some vs:=by kernel_rfl):TT T b (.inRegion ops [i]::k) cs n D ro o:=by
 rintro e w kn rfl ep;have hC:∀m T',(λm T'=>m=main/\T'=T:Class) m T'->Closed P m T':=by rintro _ _ ⟨rfl,rfl⟩;exact hT
 have key:aR (λm T'=>m=main/\T'=T) b.fn none ops [i] (After T b k cs) (A n e D) ⟨ro,den w⟩:=by
  refine VS (P:=P) hC ho (jJ _ _ hg) (.inl rfl) ?_;rw[ma];have e1:ev n e (.func f)= .func (.func f) #[] #[]:=rfl;have e2:xs.map (ev n e)=⟨vs⟩:=yd hx;simp only[execOp,a8,resolve,e1,Deferred.ofValue,aQ,e2];refine⟨rfl,?_⟩;have hA:({A n e D with defers:={target:= .fn (.func f) ⟨[]⟩,args:=⟨vs⟩}::(A n e D).defers}:Act).put a.dst undef=A n (upd a.dst undef e) ({target:= .fn (.func f) ⟨[]⟩,args:=⟨vs⟩}::D):=by
   rw[<-dF];rfl
  have he:(⟨[]⟩:Array Value)++(⟨vs⟩:Array Value)=⟨vs⟩:=by simp
  rw[he];have:=h _ _ _ rfl ep;rw[<-hA] at this;exact λm T' hc b' k' Sa h1 h2 h3 h4=>by
   obtain⟨rfl,rfl⟩:=hc;exact rS hT (h4 .normal _ _ this)
 exact key main T ⟨rfl,rfl⟩ b k cs rfl hk hr λe a s q=>q
end
attribute [irreducible] afg opO cdO
def bkO(L:Cells):Option JS->Option JS
 |some ⟨p,e,w,_⟩=>some ⟨p,e,.l L::w,⟨[],[]⟩⟩
 |none=>none
def avI(ps:List Nat):Option JS->Option Cells
 |some ⟨_,_,w,_⟩=>some (den (gz ps 0 w))
 |none=>none
def aai:Option JS->Option JS
 |some ⟨p,e,_,kn⟩=>some ⟨p,e,[],⟨kn.c,[]⟩⟩
 |none=>none
theorem UL:∀(w:List Sg) (k:Nat),gz [] k w=w
 | [],_=>rfl
 |x::w,k=>by
  simp only[gz];rw[UL w];rfl
def aOc{P:Program}{S:Goroutine->St->Prop}{c:Code}(hf:P.funcs[f]?=some fn) (hb:fn.body=some c) (hn:fn.ntmps=n) (ff:Hu P f=true) (hle:Nat.ble ca.length n=true)
 (h:TT (gi P false S) (W5 f .deferred) ([c].map .code++[]) [gX P] n [] ro (some ⟨.fin .normal,mC 0 ca,[],⟨[],[]⟩⟩)):gi P false S (born P {target:= .fn (.func f) ⟨ca⟩,args:= #[]}) ⟨ro,[]⟩:=by
 have hT:=fH P false S;refine nf (C:=CA P) (λ_ _ h=>h) hT (fr:={(default:Frame) with fn:=P.funcs.size,defers:=[{target:= .fn (.func f) ⟨ca⟩,args:= #[]}],mode:= .panicking [goexitEntry]}) (.inr ⟨_,rfl⟩) (nT ff) rfl ?_;show gi P false S (G (Frame.enter P f (#[]++⟨ca⟩) .deferred) [gX P]) ⟨ro,[]⟩;have oN:Frame.enter P f (#[]++⟨ca⟩) .deferred=dH (W5 f .deferred) (A n (mC 0 ca) []) [.code c]:=by
  rw[<-ry ca n (cT hle)];simp[Frame.enter,dH,hf,hb,hn,W5]
 rw[oN];exact h _ _ _ rfl λx hx=>(by cases hx)
def bgI(body:Code)(i:Nat):Option JS->Option (JS×Nat)
 |some ⟨.fin .normal,e,w,kn⟩=>match H6 w i with
  |some (.b b (.loop r))=>match r.state with
   | .ready=>some (⟨.code body [],e,ade w i (.b b (.loop {r with state:= .busy})),kn⟩,b)
   |_=>none
  |_=>none
 |_=>none
def anA:Option JS->Option JS
 |some ⟨.fin .normal,e,w,kn⟩=>some ⟨.fin .ret,e,w,kn⟩
 |_=>none
theorem Vt{P:Program}{T:Goroutine->St->Prop}{c:Code}{L:Cells}(hf:P.funcs[f]?=some fn) (hb:fn.body=some c) (hn:fn.ntmps=n) (hle:Nat.ble args.length n=true)
 (h:TT T (W5 f .normal) ([c].map .code++[]) cs n [] ro (some ⟨.fin .normal,mC 0 args,[.l L],⟨[],[]⟩⟩)):T (G (Frame.enter P f ⟨args⟩ .normal) cs) ⟨ro,L⟩:=by
 have oN:Frame.enter P f ⟨args⟩ .normal=dH (W5 f .normal) (A n (mC 0 args) []) [.code c]:=by
  grind [ry,cT,Frame.enter,dH,W5]
 rw[oN];exact h _ _ _ rfl λx hx=>(by grind)
def aN6{P:Program}(hm:P.follows .mixedOrders=true){T:Goroutine->St->Prop}(hT:Closed P main T){Fx:List Item}{cl:Frame}{NO:List Frame}(v:Value)(hs ps:List Nat)(Y:Cells)(hf:P.funcs[f]?=some fn)
 (hk:T (G (cl.finish v) NO) ⟨ro,Y⟩) (h1:yF (nz P n f hs (anA o))=some v:=by kernel_rfl) (h2:Yf (nz P n f hs (anA o))=Ye (nz P n f hs (anA o)):=by kernel_rfl) (h3:fT ps o=some Y:=by kernel_rfl):TT T (W5 f .normal) (.code .ret::Fx) (cl::NO) n [] ro o:=by
 rintro e w kn rfl ep;simp only[anA] at h1 h2;simp only[nz] at h1 h2;cases hr:JJ P n e w kn.c hs (x6 P f).results.toList with
 |none=>simp only[hr,yF] at h1;cases h1
 |some x=>
  rcases x with ⟨vs,q⟩
  simp only[hr,yF,aD,Yf,Ye] at h1 h2;have Ad:=Bz (X:=⟨P,λm T'=>m=main/\T'=T,by rintro _ _ ⟨rfl,rfl⟩;exact hT,hm,f,none,n,[],ro,λ_ _ _=>True⟩) ep hr (sg h2);have hp:=dN h3;have CM:x6 P f=fn:=by simp only[x6,hf]
  have Qi:=YZ (s0:=⟨ro,Y⟩) (R:=λen s'=>∃v,en= .returned v/\T (G (cl.finish v) NO) s') (.inl rfl) Ad h1 (gG hp (Sub.refl _)) ⟨v,rfl,hk⟩;rw[CM] at Qi;refine hT.go rfl rfl (g':=G {dH (W5 f .normal) (A n e []) (.code .ret::Fx) with mode:= .returning} (cl::NO)) (λw=>by simp[G,stepG,stepG.exec,dH,W5])<|xL (C:=CA P) (λ_ _ h=>h) (T:=T) hT hf rfl rfl rfl rfl (R:=λen s'=>∃v,en= .returned v/\T (G (cl.finish v) NO) s') Qi.2 (λv s' hv=>?_);obtain⟨v',hv',ht⟩:=hv;cases hv';exact ht
def abT(L:Cells)(p:Pos)(e:Env)(w:List Sg)(kn:Kn):bkO L (some ⟨p,e,w,kn⟩)=some ⟨p,e,.l L::w,⟨[],[]⟩⟩:=rfl
theorem GK(p:Pos)(e:Env)(w:List Sg)(kn:Kn):aai (some ⟨p,e,w,kn⟩)=some ⟨p,e,[],⟨kn.c,[]⟩⟩:=rfl
theorem Tu(ps:List Nat)(p:Pos)(e:Env)(w:List Sg)(kn:Kn):avI ps (some ⟨p,e,w,kn⟩)=some (den (gz ps 0 w)):=rfl
attribute [irreducible] aai bkO bgI avI anA
def RP(P:Program)(f:FuncId)(args:List Value)(ro:Nat->Option Obj)(own:Cells)(Φ:Value->Cells->Prop):Prop:=
 ∀fr,Fn (C0L P) P f ⟨args⟩ ⟨ro,own++fr⟩ (λen s'=>∃v Y,en= .returned v/\(⟨ro,Y++fr⟩:St).le s'/\Φ v Y)
def RP.mono{P:Program}{own:Cells}{Φ':Value->Cells->Prop}(h:RP P f args ro own Φ)(hk:∀v X,Φ v X->Φ' v X):RP P f args ro own Φ':=
 λfr=>Fn.mono (h fr) λ_ _ ⟨v,X,h1,h2,h3⟩=>⟨v,X,h1,h2,hk v X h3⟩
abbrev RC(ro:Nat->Option Obj)(fr:Cells)(Φ:Value->Cells->Prop):Ending->St->Prop:=λen s'=>∃v Y,en= .returned v/\(⟨ro,Y++fr⟩:St).le s'/\Φ v Y
def XC(P:Program)(hm:P.follows .mixedOrders=true)(f:FuncId)(ro:Nat->Option Obj)(R:Ending->St->Prop):Cx:=⟨P,C0L P,B6,hm,f,none,(x6 P f).ntmps,[],ro,y9 P (x6 P f) R⟩
def qC{P:Program}{hm:P.follows .mixedOrders=true}:QR (XC P hm f ro R) R:=⟨rfl,rfl⟩
theorem UA{P:Program}(hC:∀main T,C main T->Closed P main T){c:Code}{s:St}(hf:P.funcs[f]?=some fn) (hb:fn.body=some c) (hl:Nat.ble args.length fn.ntmps=true) (h:Wp C f none c (y9 P fn R) (A fn.ntmps (mC 0 args) []) s):Fn C P f ⟨args⟩ s R:=by
 grind [abn,ry,cT]
def SF{P:Program}(hm:P.follows .mixedOrders=true){L:Cells}(own:List Sg)(kn:Cells)(hk:Knows ro kn)(h:∀fr,J (XC P hm f ro (RC ro fr Φ)) (pI P f args (own++[.l fr]) kn))(hL:den own=L:=by rfl):RP P f args ro L Φ:=by
 subst hL;intro fr;have h:=h fr;unfold pI at h;split at h<;>try exact h.elim
 rename_i fn hf;split at h<;>try exact h.elim
 rename_i c hc;cases hl:Nat.ble args.length fn.ntmps with
 |false=>rw[hl] at h;exact h.elim
 |true=>
  rw[hl] at h;have CM:x6 P f=fn:=by simp only[x6,hf]
  have:=h hk;simp only[JP,XC,KQ,CM] at this;have hd:den (own++[.l fr])=den own++fr:=by rw[rz];rfl
  rw[hd] at this;exact UA B6 hf hc hl this
section
variable {X:Cx} {o:Option JS}
def jcC{own:Cells}(ps:List Nat)(hC:∀main T,X.C main T->C0L X.P main T)(hf:RP X.P f vs X.ro own Φ)(hj:∀v Y,Φ v Y->J X (rV ps v Y o))(h1:iC X.n (y7 X.P X.n) o=some (f,vs):=by kernel_rfl)(h2:fT ps o=some own:=by kernel_rfl):J X o:=by
 obtain⟨ops,i,todo,k,e,w,kn,p,rfl,ho,hw,hc⟩:=gF h1;obtain⟨ff,x,xs,at_,fi,ca,ws,a8,hx,xD,rfl⟩:=vK hc;intro ep;rcases p with ⟨dst,op,ty,pos,fX,g⟩
 dsimp only at a8;subst a8;have hp:=dN h2;have CM:Fn X.C X.P f ⟨fi++ws++ca⟩ ⟨X.ro,den w⟩ (λen s'=>∃v Y,en= .returned v/\(⟨X.ro,Y++den (gz ps 0 w)⟩:St).le s'/\Φ v Y):=λmain T hT c cs k1 k2=>
  (X.hC main T hT).mono _ ⟨X.ro,own++den (gz ps 0 w)⟩ _ (gG (J:=[]) (by rw[eR];exact hp) (Sub.refl _)) (Fn.weaken hC (hf _) main T hT c cs k1 k2)
 refine yQ (fi:=⟨fi⟩) (ca:=⟨ca⟩) (ws:=fi++ws++ca) X.hC ho hw hx ff xD (XA fi ws ca) CM (λv' s' hr=>?_) (λch s' hr=>by obtain⟨_,_,e,_⟩:=hr;cases e) (λs' hr=>by obtain⟨_,_,e,_⟩:=hr;cases e);obtain⟨v,Y,hv,hle,uz⟩:=hr;cases hv;have:=hj _ Y uz;rw[tx ho] at this;have:=this ep;simp only[JP,lv] at this;exact this.more X.hC hle
def jrC(hq:QR X (RC wY fr Φ))(v:Value)(ps:List Nat)(Y:Cells)(lG:Sub wY X.ro)(hR:Φ v Y)(h1:yF (nz X.P X.n X.fn [] o)=some v:=by kernel_rfl)(h2:Yf (nz X.P X.n X.fn [] o)=Ye (nz X.P X.n X.fn [] o):=by kernel_rfl)(h3:fT ps o=some (Y++fr):=by kernel_rfl)(h4:Ha o=true:=by kernel_rfl):J X o:=
 bY hq v [] ps _ lG ⟨v,Y,rfl,St.le_refl _,hR⟩ h1 h2 h3 h4
end
def dfV(n:Nat)(p:Oper)(e:Env):Option (FuncId×List Value):=match p.op with
 | .defer ⟨.value x,⟨[]⟩,⟨[]⟩⟩=>match dv n e x with
  |some (.func (.func f) ⟨[]⟩ ⟨ca⟩)=>some (f,ca)
  |_=>none
 |_=>none
def skO:Option JS->Option JS
 |some ⟨.ops ops (i::todo) k,e,w,kn⟩=>match ops[i]? with
  |some p=>some ⟨.ops ops todo k,upd p.dst undef e,w,kn⟩
  |none=>none
 |_=>none
def aav(t:Tmp)(rest:Code)(ca:List Value):Option JS->Option JS
 |some ⟨.fin _,_,w,kn⟩=>some ⟨.code rest [],upd (some t) .nilIface (mC 0 ca),w,⟨kn.c,[]⟩⟩
 |_=>none
def rwS:Option JS->Option (List Sg)
 |some s=>some s.rw
 |none=>none
attribute [irreducible] skO aav rwS dfV
def w6(r ck:Nat)(seen:List Nat):Obj:= .mapIter (some r) ck ⟨seen⟩ ck
def gK(es:Array MapEntry)(seen:List Nat):List MapEntry:=es.toList.filter λe=> !seen.contains e.born
theorem J9(es:Array MapEntry):gK es []=es.toList:=by simp[gK]
theorem ajU{es:Array MapEntry}{b:Nat}{e:MapEntry}:e∈gK es (seen++[b])↔e∈gK es seen/\e.born≠b:=by
 simp only[gK,cN,az,List.contains_eq_mem,bI,aV,ak,not_or,and_assoc]
theorem DK{es:Array MapEntry}{e:MapEntry}(h:e∈gK es seen):(gK es (seen++[e.born])).length <(gK es seen).length:=by
 have:gK es (seen++[e.born])=(gK es seen).filter λx=> !decide (x.born=e.born):=by
  grind [gK,List.filter_filter]
 rw[this];exact List.length_filter_lt_length_iff_exists.2 ⟨e,h,by simp⟩
def mrV(P:Program)(n:Nat)(p:Oper)(e:Env):Option Value:=match p.op with
 | .range T x=>match cV P T with
  |some ⟨.map _ _,_,_,_⟩=>dv n e x
  |_=>none
 |_=>none
def nmV(n:Nat)(p:Oper)(e:Env):Option Value:=match p.op with
 | .next x false=>dv n e x
 |_=>none
def enV(n:Nat)(p:Oper)(e:Env):Option Value:=match p.op with
 | .entry x=>dv n e x
 |_=>none
def Tk{P:Program}{s:St}{Q:β->St->Prop}{E:Halt->St->Prop}{k:Nat->Sem β}(hn:0 <n)(h:∀j,j <n->eJ P (k j) s Q E):eJ P (choose (.mapNext n) >>= k) s Q E:=by
 show (if (Question.mapNext n).forced=true then _ else _);split
 .exact h 0 hn
 exact λq=>h _ (Nat.mod_lt _ hn)
section
variable {X:Cx} {o:Option JS}
def jmR{es:Array MapEntry}(hm:X.ro r=some (.map es ck))(hj:∀b,J X (rV [] (.pointer (some ⟨b,0,none⟩)) [(b,w6 r ck [])] o))(hv:iC X.n (mrV X.P X.n) o=some (.map (some r)):=by kernel_rfl)(hB:fT [] o=some []:=by kernel_rfl):J X o:=by
 refine jS (Φ:=λv L'=>∃b,v= .pointer (some ⟨b,0,none⟩)/\L'=[(b,w6 r ck [])]) [] [] hv hB (λp e hf=>?_) (λv L' uz=>?_)
 .unfold mrV at hf;split at hf<;>try (cases hf;done)
  rename_i T x a8;split at hf<;>try (cases hf;done)
  rename_i ig;obtain⟨dL,tf⟩:=bA ig;refine⟨by rw[a8];simp,λR Q E hQ=>?_⟩;simp only[execOp,a8,Instr.range,aH,cY tf,bZ hf];refine fL (.inl hm) rfl rfl ?_;simp only[aH,aQ,u7];refine⟨rfl,?_⟩;intro b hb;exact hQ _ _ ⟨b,rfl,rfl⟩
 obtain⟨b,rfl,rfl⟩:=uz;exact hj b
def jmN{kv:κ->Value}{F:List (κ×Value)}{es:Array MapEntry}(i:Nat)(hm:X.ro r=some (.map es ck))(hE:yH kv F es ck)
 (hT:∀k v e,(k,v)∈F->e∈gK es seen->e.key=kv k->e.val=v->J X (rV [i] (.tuple ⟨[.bool true,kv k,v]⟩) [(it,w6 r ck (seen++[e.born]))] o))
 (hF:gK es seen=[]->J X (rV [i] (.tuple ⟨[.bool false]⟩) [(it,w6 r ck seen)] o))
 (hv:iC X.n (nmV X.n) o=some (.pointer (some ⟨it,0,none⟩)):=by kernel_rfl)(hB:fT [i] o=some [(it,w6 r ck seen)]:=by kernel_rfl):J X o:=by
 refine jS (Φ:=λv L'=>(∃e,e∈gK es seen/\v= .tuple ⟨[.bool true,e.key,e.val]⟩/\L'=[(it,w6 r ck (seen++[e.born]))])\/(gK es seen=[]/\v= .tuple ⟨[.bool false]⟩/\L'=[(it,w6 r ck seen)])) [i] _ hv hB (λp e hf=>?_) (λv L' uz=>?_)
 .unfold nmV at hf;split at hf<;>try (cases hf;done)
  rename_i x a8;refine⟨by rw[a8];simp,λR Q E hQ=>?_⟩;simp only[execOp,a8,Instr.next,aH,bZ hf];have hs:(⟨X.ro,[(it,w6 r ck seen)]++R⟩:St).rw=[]++(it,w6 r ck seen)::R:=rfl;refine fL (o:=w6 r ck seen) (.inr (by rw[hs];exact jE)) rfl rfl ?_;simp only[w6,aH];refine fL (.inl hm) rfl rfl ?_;simp only[aH];have hb:=hE.2.2;have dr:¬((!(⟨seen⟩:Array Nat).isEmpty&& !es.isEmpty&&es.all (·.born>=ck))=true):=by
   intro h;simp only[au,az,Array.all_eq_true,aA] at h;obtain⟨⟨_,h1⟩,h2⟩:=h;have sD:0 <es.size:=by
    rcases Fj es.size with h0|h0
    .simp[Array.isEmpty,h0] at h1
    exact h0
   have:=h2 0 sD;have:=hb es[0] (by simp);omega
  rw[cJ dr];have yV:(es.filter λe=> !(⟨seen⟩:Array Nat).contains e.born)=⟨gK es seen⟩:=by
   rcases es with ⟨l⟩
   simp[gK]
  have hold:((⟨gK es seen⟩:Array MapEntry).filter λe=>decide (e.born <ck))=⟨gK es seen⟩:=by
   have:(gK es seen).filter (λe=>decide (e.born <ck))=gK es seen:=List.filter_eq_self.2 λe he=>cb (hb e (cN.1 he).1);simp[this]
  have A4:((⟨gK es seen⟩:Array MapEntry).filter λe=>decide (e.born>=ck))=⟨[]⟩:=by
   have:(gK es seen).filter (λe=>decide (e.born>=ck))=[]:=List.filter_eq_nil_iff.2 λe he=>by
    have:=hb e (cN.1 he).1;simp only[aA];omega
   simp[this]
  simp only[yV,hold,A4];cases hl:gK es seen with
  |nil=>
   simp only[List.isEmpty_toArray,List.isEmpty_nil,dI];refine Tk (by simp) λj hj=>?_;have hc:(#[(none:Option MapEntry)]++((⟨[]⟩:Array MapEntry)++⟨[]⟩).map some)[j]?=some none:=by
    simp at hj;subst hj;simp
   show eJ X.P ((match (#[(none:Option MapEntry)]++((⟨[]⟩:Array MapEntry)++⟨[]⟩).map some)[j]? with|some (some e)=>_|some none=>_|none=>_) >>= λv=>pure (Next.value v)) _ _ _;rw[hc];exact hQ _ _ (.inr ⟨hl,rfl,rfl⟩)
  |cons e0 l=>
   have hem:(⟨e0::l⟩:Array MapEntry).isEmpty=false:=by simp
   simp only[hem,aX,cF];have Kz:(#[]++((⟨e0::l⟩:Array MapEntry)++⟨[]⟩).map some:Array (Option MapEntry))=⟨(e0::l).map some⟩:=by simp
   rw[Kz];refine Tk (by simp) λk dS=>?_;have dS:k <(e0::l).length:=by simpa using dS
   have hk:(⟨(e0::l).map some⟩:Array (Option MapEntry))[k]?=some (some (e0::l)[k]):=by
    rw[su,eG,af dS];rfl
   show eJ X.P ((match (⟨(e0::l).map some⟩:Array (Option MapEntry))[k]? with|some (some e)=>_|some none=>_|none=>_) >>= λv=>pure (Next.value v)) _ _ _;rw[hk];simp only[aH];have pq:(⟨X.ro,[(it,Obj.mapIter (some r) ck ⟨seen⟩ ck)]++R⟩:St).rw=[]++(it,Obj.mapIter (some r) ck ⟨seen⟩ ck)::R:=rfl;refine iX (o:= .mapIter (some r) ck ((⟨seen⟩:Array Nat).push (e0::l)[k].born) ck) rfl pq rfl ?_;have hp:(⟨seen⟩:Array Nat).push (e0::l)[k].born=⟨seen++[(e0::l)[k].born]⟩:=by simp
   rw[hp];have:=hQ (.tuple ⟨[.bool true,(e0::l)[k].key,(e0::l)[k].val]⟩) [(it,w6 r ck (seen++[(e0::l)[k].born]))] (.inl ⟨_,by rw[hl];exact Au dS,rfl,rfl⟩);exact this
 rcases uz with ⟨e,he,rfl,rfl⟩| ⟨h1,rfl,rfl⟩
 .have:(e.key,e.val)∈F.map (λx=>(kv x.1,x.2)):=by
   rw[<-hE.1];exact dR (f:=λe:MapEntry=>(e.key,e.val)) (cN.1 he).1
  obtain⟨⟨k,v⟩,h1,h2⟩:=bB.1 this;simp only[bP] at h2;have:=hT k v e h1 he h2.1.symm h2.2.symm;rwa[h2.1,h2.2] at this
 exact hF h1
def jmE{kv:κ->Value}{F:List (κ×Value)}{es:Array MapEntry}{e:MapEntry}{k:κ}{v:Value}(i:Nat)(hm:X.ro r=some (.map es ck))(hE:yH kv F es ck)(he:e∈gK es seen)(hk:e.key=kv k)(hvl:e.val=v)
 (hj:J X (rV [i] (.tuple ⟨[kv k,v]⟩) [(it,w6 r ck (seen++[e.born]))] o))
 (hv:iC X.n (enV X.n) o=some (.pointer (some ⟨it,0,none⟩)):=by kernel_rfl)(hB:fT [i] o=some [(it,w6 r ck (seen++[e.born]))]:=by kernel_rfl):J X o:=by
 refine jS (Φ:=λw L'=>w= .tuple ⟨[kv k,v]⟩/\L'=[(it,w6 r ck (seen++[e.born]))]) [i] _ hv hB (λp en hf=>?_) (λw L' uz=>?_)
 .unfold enV at hf;split at hf<;>try (cases hf;done)
  rename_i x a8;refine⟨by rw[a8];simp,λR Q E hQ=>?_⟩;simp only[execOp,a8,Instr.entry,aH,bZ hf];have hs:(⟨X.ro,[(it,w6 r ck (seen++[e.born]))]++R⟩:St).rw=[]++(it,w6 r ck (seen++[e.born]))::R:=rfl;refine fL (o:=w6 r ck (seen++[e.born])) (.inr (by rw[hs];exact jE)) rfl rfl ?_;have hbk:(⟨seen++[e.born]⟩:Array Nat).back?=some e.born:=by simp[Array.back?]
  simp only[w6,hbk,aH];refine fL (.inl hm) rfl rfl ?_;have hfe:es.find? (λx=>x.born==e.born)=some e:=by
   rcases es with ⟨l⟩
   have hel:e∈l:=(cN.1 he).1;have kP:(l.map (·.born)).Nodup:=hE.2.1;simp only[List.find?_toArray];clear hm hE he hj hv hB hs hQ
   induction l with
   |nil=>cases hel
   |cons y l ih=>
    simp only[bV,j8,bB,not_exists,not_and] at kP;rcases aS.1 hel with rfl|h
    .simp
    have:y.born≠e.born:=λh2=>kP.1 e h h2.symm;rw[List.find?_cons_of_neg (by simpa using this)];exact ih h kP.2
  simp only[bne_self_eq_false,aX,cF,hfe,aQ,aH];exact hQ _ _ ⟨by rw[hk,hvl],rfl⟩
 obtain⟨rfl,rfl⟩:=uz;exact hj
end
theorem ad5{kv:κ->Value}{F:List (κ×Value)}{es:Array MapEntry}(hE:yH kv F es ck){e x:MapEntry}(he:e∈gK es seen)(hx:x∈gK es seen):x=e\/x∈gK es (seen++[e.born]):=by
 by_cases h:x.born=e.born
 .have kP:=hE.2.1;have h1:=(cN.1 he).1;have h2:=(cN.1 hx).1;generalize es.toList=l at kP h1 h2
  induction l with
  |nil=>cases h1
  |cons y l ih=>
   grind
 grind [ajU]
def msV(P:Program)(n:Nat)(p:Oper)(e:Env):Option (TypeId×List Value):=match p.op with
 | .makeSlice T x y=>match cV P T with
  |some ⟨.slice E,_,_,_⟩=>match cV P E with
   |some te=>match dv n e x,dv n e y with
    |some (.int .i64 a),some (.int .i64 b)=>bif (decide (a=2)&&decide (b=2))&&(Nat.beq te.size 1&&Nat.ble (rG P E) 65536) then some (E,te.zero) else none
    |_,_=>none
   |none=>none
  |_=>none
 |_=>none
def jmS{X:Cx}{z:Value}(hj:∀b,J X (rV [] (.slice (some ⟨b,0,none⟩) 2 2) [(b,.cells ⟨[z,z]⟩ E (0,0))] o))(hv:iC X.n (msV X.P X.n) o=some (E,[z]):=by kernel_rfl)(hB:fT [] o=some []:=by kernel_rfl):J X o:=by
 refine jS (Φ:=λv L'=>∃b,v= .slice (some ⟨b,0,none⟩) 2 2/\L'=[(b,.cells ⟨[z,z]⟩ E (0,0))]) [] [] hv hB (λp e hf=>?_) (λv L' uz=>?_)
 .unfold msV at hf;split at hf<;>try (cases hf;done)
  rename_i T x y a8;split at hf<;>try (cases hf;done)
  rename_i E' _ _ _ ig;split at hf<;>try (cases hf;done)
  rename_i te wo;split at hf<;>try (cases hf;done)
  rename_i a b hx hy;cases hc:((decide (a=2)&&decide (b=2))&&(Nat.beq te.size 1&&Nat.ble (rG X.P E') 65536)) with
  |false=>rw[hc] at hf;cases hf
  |true=>
   rw[hc] at hf;simp only[cH,aD,bP] at hf;obtain⟨rfl,hz⟩:=hf;simp only[au,aA,Nat.beq_eq,Cg] at hc;obtain⟨⟨rfl,rfl⟩,sD,hby⟩:=hc;obtain⟨byT,tf⟩:=bA ig;obtain⟨dL,od⟩:=bA wo;obtain⟨i,hi,hi1,R3,hi3⟩:=od.info;have akz:dL<=65536:=by simp only[rG,hi] at hby;omega
   have aeO:¬((dL:Int)*2>2^48):=by omega
   have w2:IntKind.i64.wrap 2=2:=lB 2 (by omega);have kp:(Sf [z] te.agg).cells=⟨[z]⟩:=by rw[<-hz];exact gW od
   have Kz:((Array.range ((2:Int).toNat*1)).map λx=>(⟨[z]⟩:Array Value)[x % (⟨[z]⟩:Array Value).size]!)=⟨[z,z]⟩:=by apply Array.ext';simp[Nat.mod_one,List.range,List.range.loop]
   refine⟨by rw[a8];simp,λR Q E hQ=>?_⟩;simp only[execOp,a8,Instr.makeSlice,bZ hx,bZ hy,asInt,asIntOf,aH,cY tf,aQ,qd hi,R3,w2,aeO,show ¬((2:Int) <0) by omega,show ¬((2:Int)>2) by omega,decide_false,Bool.or_self,aX,cF];refine uj ?_;simp only[aH,ez od,sD,show ¬((2:Int).toNat*1=0) by decide,cF,oF od,aQ,hz,kp,Kz,lP];intro b hb;exact hQ _ _ ⟨b,rfl,rfl⟩
 obtain⟨b,rfl,rfl⟩:=uz;exact hj b
def azm(body:Code):Option JS->Option (JS×Nat)
 |some ⟨.fin .normal,e,.b c oc:: .b b (.loop r)::w,kn⟩=>match r.state with
  | .ready=>some (⟨.code body [],e,.b c oc:: .b b (.loop {r with state:= .busy})::w,kn⟩,b)
  |_=>none
 |_=>none
def aGt{X:Cx}(h:J (X.re bl ro Φ) (NJ (azm body o)))(h1:ac8 (azm body o)=some bl:=by kernel_rfl):J (X.rd bl ro Φ body) o:=by
 unfold azm at h h1;split at h<;>try (unfold NJ at h;exact h.elim)
 rename_i e c oc b r w kn;split at h<;>try (unfold NJ at h;exact h.elim)
 rename_i dr;unfold ac8 at h1;unfold NJ at h;simp only[dr,aD] at h1;subst h1;intro ep;have hw:=h ep;refine⟨[(c,oc)],r,den w,by rw[p6,p6];rfl,dr,?_⟩;simp only[JP,p6] at hw;exact hw
theorem aRk{P:Program}{hm:P.follows .mixedOrders=true}(own:List Sg)(kn:Cells)(hk:Knows ro kn)(h:J (XM P hm f ro R) (pI P f args own kn)):Fn (CP P) P f ⟨args⟩ ⟨ro,den own⟩ R:=by
 unfold pI at h;split at h<;>try exact h.elim
 rename_i fn hf;split at h<;>try exact h.elim
 rename_i c hc;cases hl:Nat.ble args.length fn.ntmps with
 |false=>rw[hl] at h;exact h.elim
 |true=>
  rw[hl] at h;have CM:x6 P f=fn:=by simp only[x6,hf]
  have:=h hk;simp only[JP,XM,KQ,CM] at this
  grind [UB,kH,ry,cT]
section
variable {X:Cx} {o:Option JS}
def bdR(hq:QM X R B7)(v:Value)(pm hs ps:List Nat)(Y:Cells)(lG:Sub wY X.ro)(hR:R (.returned v) ⟨wY,Y⟩)(h0:fT pm o=some (mk B7):=by kernel_rfl)(h1:yF (nz X.P X.n X.fn hs (Q8 pm o))=some v:=by kernel_rfl)(h2:Yf (nz X.P X.n X.fn hs (Q8 pm o))=Ye (nz X.P X.n X.fn hs (Q8 pm o)):=by kernel_rfl)(h3:fT ps (Q8 pm o)=some Y:=by kernel_rfl)(h4:Ha o=true:=by kernel_rfl):J X o:=by
 obtain⟨ex,e,w,kn,rfl,hex⟩:=A8 h4;simp only[Q8,nz] at h1 h2 h3;cases hr:JJ X.P X.n e (gz pm 0 w) kn.c hs (x6 X.P X.fn).results.toList with
 |none=>simp only[hr,yF] at h1;cases h1
 |some x=>
  rcases x with ⟨vs,q⟩
  simp only[hr,yF,aD,Yf,Ye] at h1 h2;intro ep;have Ad:=Bz ep hr (sg h2);have hp:=dN h3;have Qi:=YZ (s0:=⟨wY,Y⟩) (R:=R) hex Ad h1 (gG hp lG) hR;have ht:eJ X.P (results (x6 X.P X.fn) (A X.n e X.D).tmps) ⟨X.ro,den (gz pm 0 w)⟩ (λv s'=>∃s0,s0.le s'/\R (.returned v) s0) (λ_ _=>False):=by
   rcases hex with rfl|rfl<;>exact Qi.2
  show X.Q ex (A X.n e X.D) ⟨X.ro,den w⟩;rw[hq.q];have hm:∃B7 rest,(A X.n e X.D).defers=B7.map jM/\(den w).Perm (mk B7++rest)/\eJ X.P (results (x6 X.P X.fn) (A X.n e X.D).tmps) ⟨X.ro,rest⟩ _ (λ_ _=>False):=⟨B7,_,hq.d,dN h0,ht⟩;rcases hex with rfl|rfl<;>exact hm
end
attribute [irreducible] mrV nmV enV w6 msV azm
def rnM(P:Program):Sem α->List Nat->Cells->List (Nat×Nat)->Option (α×Cells×List (Nat×Nat))
 | .pure a,_,B,q=>some (a,B,q)
 | .load m a k,h::hs,B,q=>match m,a.spot,B[h]? with
  | .plain,none,some (b,.cells c _ _)=>match c[a.off]? with
   |some v=>rnM P (k v) hs B ((a.block,b)::q)
   |none=>none
  |_,_,_=>none
 | .shape r k,h::hs,B,q=>match B[h]? with
  |some (b,o)=>rnM P (k (Obj.shapeOf o)) hs B ((r,b)::q)
  |none=>none
 | .program k,hs,B,q=>rnM P (k P) hs B q
 |_,_,_,_=>none
def aEW{P:Program}:∀(m:Sem α) {hs:List Nat} {B B':Cells} {q q':List (Nat×Nat)} {v:α},rnM P m hs B q=some (v,B',q')->(∀p∈q',p.1=p.2)->
 (∀p∈q,p∈q')/\B'=B/\∀(s:St) (Q:α->St->Prop) (E:Halt->St->Prop),(∀x∈B,s.has x.1 x.2)->Q v s->eJ P m s Q E:=by
 intro m
 induction m with
 |pure a=>intro hs B B' q q' v h _;simp only[rnM,aD,bP] at h;obtain⟨rfl,rfl,rfl⟩:=h;exact⟨λ_ h=>h,rfl,λ_ _ _ _ h=>h⟩
 |load m a k ih=>
  intro hs B B' q q' v h hq;cases hs with
  |nil=>cases h
  |cons j hs=>
   unfold rnM at h;split at h<;>try (cases h;done)
   rename_i b c t fz Ud hB;split at h<;>try (cases h;done)
   rename_i u hu;obtain⟨h1,h2,h3⟩:=ih _ h hq;have Iv:a.block=b:=hq _ (h1 _ dX);refine⟨λp hp=>h1 p (cm _ hp),h2,λs Q E hs hQ=>⟨rfl,Ud,c,t,fz,u,?_,hu,h3 s Q E hs hQ⟩⟩;left;rw[Iv];exact hs _ (aj hB)
 |shape r k ih=>
  intro hs B B' q q' v h hq;cases hs with
  |nil=>cases h
  |cons j hs=>
   simp only[rnM] at h;split at h<;>try (cases h;done)
   rename_i b o hB;obtain⟨h1,h2,h3⟩:=ih _ h hq;have Iv:r=b:=hq _ (h1 _ dX);refine⟨λp hp=>h1 p (cm _ hp),h2,λs Q E hs hQ=>⟨o,?_,h3 s Q E hs hQ⟩⟩;rw[Iv];exact hs _ (aj hB)
 |program k ih=>
  intro hs B B' q q' v h hq;simp only[rnM] at h;exact ih _ h hq
 |store=>intro hs B B' q q' v h hq;cases hs<;>cases h
 |new=>intro hs B B' q q' v h hq;cases hs<;>cases h
 |freeze=>intro hs B B' q q' v h hq;cases hs<;>cases h
 |frozen=>intro hs B B' q q' v h hq;cases hs<;>cases h
 |getObj=>intro hs B B' q q' v h hq;cases hs<;>cases h
 |setObj=>intro hs B B' q q' v h hq;cases hs<;>cases h
 |choose=>intro hs B B' q q' v h hq;cases hs<;>cases h
 |sys=>intro hs B B' q q' v h hq;cases hs<;>cases h
 |mark=>intro hs B B' q q' v h hq;cases hs<;>cases h
 |halt=>intro hs B B' q q' v h hq;cases hs<;>cases h
def ano:Op->Option (List Operand)
 | .call ⟨.builtin _,xs,_⟩=>some xs.toList
 |op=>PD op
theorem YT{o:Oper}{xs:List Operand}(h:ano o.op=some xs){f g:Operand->Value}(hfg:∀x∈xs,f x=g x):execOp f o=execOp g o:=by
 unfold ano at h;split at h
 .rename_i b xs at_ heq;simp only[aD] at h;subst h;have:xs.map f=xs.map g:=Array.map_congr_left λa ha=>hfg a (by simpa using ha);simp only[execOp,heq,resolve,this]
 exact BC h hfg
def smV(P:Program)(n:Nat)(hs:List Nat)(B:Cells)(p:Oper)(e:Env):Option (Value×List (Nat×Nat)):=match ano p.op with
 |some xs=>match FK n e xs with
  |some _=>match rnM P (execOp (evj n e) p) hs B [] with
   |some (.value v,_,q)=>some (v,q)
   |_=>none
  |none=>none
 |none=>none
theorem Jt{γ:Type}{f:Oper->Env->Option β}{g:β->γ}:iC n (λp e=>(f p e).map g) o=(iC n f o).map g:=by
 unfold iC
 grind [fp]
def smA(P:Program)(n:Nat)(hs:List Nat)(B:Cells)(p:Oper)(e:Env):Option Value:=(smV P n hs B p e).map (·.1)
def smL(P:Program)(n:Nat)(hs:List Nat)(B:Cells)(p:Oper)(e:Env):Option (List Nat):=(smV P n hs B p e).map λx=>afa x.2
def smR(P:Program)(n:Nat)(hs:List Nat)(B:Cells)(p:Oper)(e:Env):Option (List Nat):=(smV P n hs B p e).map λx=>ac7 x.2
section
variable {X:Cx} {o:Option JS}
def jmo(ps hs:List Nat)(B:Cells)(v:Value)(hj:J X (rV ps v B o))(hv:iC X.n (smA X.P X.n hs B) o=some v:=by kernel_rfl)(hq:iC X.n (smL X.P X.n hs B) o=iC X.n (smR X.P X.n hs B) o:=by kernel_rfl)(hB:fT ps o=some B:=by kernel_rfl):J X o:=by
 rw[show smA X.P X.n hs B=λp e=>(smV X.P X.n hs B p e).map (·.1) from rfl,Jt] at hv;rw[show smL X.P X.n hs B=λp e=>(smV X.P X.n hs B p e).map (λx=>afa x.2) from rfl,show smR X.P X.n hs B=λp e=>(smV X.P X.n hs B p e).map (λx=>ac7 x.2) from rfl,Jt,Jt] at hq;cases hx:iC X.n (smV X.P X.n hs B) o with
 |none=>rw[hx] at hv;cases hv
 |some x=>
  rcases x with ⟨v',q⟩
  rw[hx] at hv hq;simp only[di,aD] at hv hq;subst hv;refine jS (Φ:=λu L'=>u=v'/\L'=B) ps B hx hB (λp e hf=>?_) (λu L' uz=>by obtain⟨rfl,rfl⟩:=uz;exact hj);unfold smV at hf;split at hf<;>try (cases hf;done)
  rename_i xs a8;split at hf<;>try (cases hf;done)
  rename_i ws WA;split at hf<;>try (cases hf;done)
  rename_i u B' q2 dz;simp only[aD,bP] at hf;obtain⟨rfl,rfl⟩:=hf;refine⟨λc hc=>?_,λR Q E hQ=>?_⟩
  .rw[hc] at a8;cases a8
  rw[YT a8 (Xf (f:=ev X.n e) (λx v h=>bZ h) WA)];obtain⟨_,_,h3⟩:=aEW _ dz (sg hq);exact h3 _ _ _ (λx hx=> .inr (cR _ hx)) (hQ _ _ ⟨rfl,rfl⟩)
theorem Ra:∀(n t:Nat) (acc:Array Value),(Extern.BytealgMakeNoZero.digits n t acc).size=acc.size+n
 |0,_,_=>rfl
 |n+1,t,acc=>by
  simp only[Extern.BytealgMakeNoZero.digits,Ra n,Array.size_push];omega
def jnz{ps rs:Array TypeId}(ef:EF X.P f (Extern.BytealgMakeNoZero.makeNoZero ps rs))(hT:rs[0]?=some T) (tf:TF X.P T (.slice E) sz dL z ag) (hn:n<=1000)
 (hj:∀b l,n<=l.length->J X (rV [] (.slice (some ⟨b,0,none⟩) n l.length) [(b,.cells ⟨l⟩ E (0,0))] o)) (hv:iC X.n (asW X.n) o=some (f,[.int .i64 (n:Int)]):=by kernel_rfl) (hB:fT [] o=some []:=by kernel_rfl):J X o:=by
 obtain⟨ops,i,todo,k,e,w,kn,p,rfl,ho,hw,hc⟩:=gF hv;obtain⟨xs,at_,a8,hx⟩:=Xe hc;intro ep;rcases p with ⟨dst,op,ty,pos,fX,g⟩
 dsimp only at a8;subst a8;refine aoJ X.hC ho hw ef hx ?_;have eM:Extern.BytealgMakeNoZero.makeNoZero ps rs ⟨[Value.int .i64 (n:Int)]⟩=(do
  let some t:=rs[0]?|stuck "bytealg.MakeNoZero: no result type"
  let .slice elem <-underlying t|stuck "bytealg.MakeNoZero: slice type expected"
  if (n:Int) <0||(n:Int)>2^48 then runtimePanic (.error "makeslice: len out of range")
  let cap <-choose (.appendCap (n:Int).toNat 0 elem)
  askRoom cap
  let bytes <-choose (.extern "internal/bytealg.MakeNoZero.bytes" 0)
  let a <-newRow elem (Extern.BytealgMakeNoZero.digits cap bytes #[])
  pure (.slice (some a) (n:Int).toNat cap)):=rfl
 rw[eM];simp only[hT,cY tf];rw[cJ (by simp only[aF,aA];omega)];refine amV rfl λq=>?_;refine uj ?_;show (if (Question.extern "internal/bytealg.MakeNoZero.bytes" 0).forced=true then _ else _)
 have key:∀cap bytes,n<=cap->eJ X.P (newRow E (Extern.BytealgMakeNoZero.digits cap bytes #[]) >>= λa=>pure (Value.slice (some a) ((n:Int).toNat) cap)) ⟨X.ro,den w⟩ (λv s'=>aR X.C X.fn X.bR ops todo (KQ X k) (A X.n (upd dst v e) X.D) s') (λ_ _=>False):=by
  intro cap bytes iR;rw[lP];intro b hb;have hl:(Extern.BytealgMakeNoZero.digits cap bytes #[]).toList.length=cap:=by
   rw[Ym,Ra];simp
  have:=hj b (Extern.BytealgMakeNoZero.digits cap bytes #[]).toList (by omega);rw[tx ho] at this;have:=this ep;simp only[JP,lv,hl,E6] at this;exact this
 split
 .exact key _ _ (by show n<=(n:Int).toNat+_;rw[LI];exact Nat.le_add_right _ _)
 exact λq2=>key _ _ (by show n<=(n:Int).toNat+_;rw[LI];exact Nat.le_add_right _ _)
def sdV(n:Nat)(p:Oper)(e:Env):Option (Addr×Nat×Nat):=match p.op with
 | .call ⟨.builtin .unsafeSliceData,xs,_⟩=>match FK n e xs.toList with
  |some [.slice (some a) l c]=>some (a,l,c)
  |_=>none
 |_=>none
def jsd{a:Addr}{l c:Nat}(h:c≠0)(hj:J X (rV [] (.pointer (some a)) [] o))(hv:iC X.n (sdV X.n) o=some (a,l,c):=by kernel_rfl)(hB:fT [] o=some []:=by kernel_rfl):J X o:=by
 refine jS (Φ:=λu L'=>u= .pointer (some a)/\L'=[]) [] [] hv hB (λp e hf=>?_) (λu L' uz=>by obtain⟨rfl,rfl⟩:=uz;exact hj);unfold sdV at hf;split at hf<;>try (cases hf;done)
 rename_i xs at_ a8;split at hf<;>try (cases hf;done)
 rename_i a' l' c' hx;simp only[aD,bP] at hf;obtain⟨rfl,rfl,rfl⟩:=hf;refine⟨by rw[a8];simp,λR Q E hQ=>?_⟩;have e1:Builtin.unsafeSliceData_ at_ p.type ⟨[.slice (some a') l' c']⟩=pure (.pointer (some a')):=by
  show (if c'≠0 then _ else _)=_;rw[dW h]
 simp only[execOp,a8,resolve,yd (show Am X.n e xs=_ from hx),aQ,invoke,builtin,e1];exact hQ _ _ ⟨rfl,rfl⟩
def usV(P:Program)(n:Nat)(p:Oper)(e:Env):Option (Nat×TypeId):=match p.op with
 | .call ⟨.builtin .unsafeString,xs,at_⟩=>match at_[0]? with
  |some pt=>match cV P pt with
   |some ⟨.pointer E,_,_,_⟩=>bif Nat.beq (P.cellsOf E) 1 then (match FK n e xs.toList with
    |some [.pointer (some ⟨b,0,none⟩),.int .i64 1]=>some (b,E)
    |_=>none) else none
   |_=>none
  |none=>none
 |_=>none
def jus{b:Nat}(ps:List Nat)(x:Int)(l:List Value)(hj:∀L',J X (rV ps (.string ⟨#[x.toNat.toUInt8]⟩) L' o))(hv:iC X.n (usV X.P X.n) o=some (b,E):=by kernel_rfl)(hB:fT ps o=some [(b,.cells ⟨.int .u8 x::l⟩ E (0,0))]:=by kernel_rfl):J X o:=by
 refine jS (Φ:=λu L'=>u= .string ⟨#[x.toNat.toUInt8]⟩) ps _ hv hB (λp e hf=>?_) (λu L' uz=>by subst uz;exact hj L');unfold usV at hf;split at hf<;>try (cases hf;done)
 rename_i xs at_ a8;split at hf<;>try (cases hf;done)
 rename_i pt hpt;split at hf<;>try (cases hf;done)
 rename_i E' _ _ _ ig;cases hc:Nat.beq (X.P.cellsOf E') 1 with
 |false=>rw[hc] at hf;cases hf
 |true=>
  rw[hc] at hf;simp only[cH] at hf;split at hf<;>try (cases hf;done)
  rename_i b' hx;simp only[aD,bP] at hf;obtain⟨rfl,rfl⟩:=hf;have hc:=eC hc;obtain⟨dL,tf⟩:=bA ig;refine⟨by rw[a8];simp,λR Q Er hQ=>?_⟩;have e1:Builtin.unsafeString_ at_ p.type ⟨[.pointer (some ⟨b',0,none⟩),.int .i64 1]⟩=(do
   let n <-asInt (.int .i64 1)
   let some pt:=at_[0]?|stuck "unsafe.String: no argument types"
   if n <0 then runtimePanic (.error "unsafe.String: len out of range")
   if n>IntKind.i64.max then unsupported (.unsafePointer "String: a length above the largest int")
   if n=0 then pure (.string .empty)
   else if <-variablesAt ⟨b',0,none⟩ (<-elemOf pt) n.toNat then do
    let s <-loadBytes ⟨b',0,none⟩ .empty n.toNat
    freeze ⟨b',0,none⟩ n.toNat
    pure (.string s)
   else unsupported (.unsafePointer "String: not so many bytes at ptr")):=rfl
  simp only[execOp,a8,resolve,yd (show Am X.n e xs=_ from hx),aQ,invoke,builtin,e1];simp only[asInt,asIntOf,aH,aQ,hpt,show ¬((1:Int) <0) by omega,show ¬((1:Int)>IntKind.i64.max) by decide,show ¬((1:Int)=0) by omega,cF,elemOf,cY tf,variablesAt,jH];have hs:(⟨X.ro,[(b',Obj.cells ⟨Value.int .u8 x::l⟩ E' (0,0))]++R⟩:St).rw=[]++(b',Obj.cells ⟨Value.int .u8 x::l⟩ E' (0,0))::R:=rfl;have hm:(⟨X.ro,[(b',Obj.cells ⟨Value.int .u8 x::l⟩ E' (0,0))]++R⟩:St).has b' (.cells ⟨Value.int .u8 x::l⟩ E' (0,0)):= .inr (by rw[hs];exact jE);refine⟨_,hm,?_⟩;have aSO:=Go.Lib.liesAt_bytes (P:=X.P) hc ((Value.int .u8 x::l).length / X.P.cellsOf E') 1 (by rw[hc];simp);have pb:∀ {α β:Type} (a:α) (f:α->Sem β),(Sem.pure a).bind f=f a:=λ_ _=>rfl;simp only[Obj.shapeOf,List.size_toArray,aH,aQ,pb];rw[show (1:Int).toNat=1 from rfl,aSO];simp only[aQ,aH,dI,loadBytes];refine⟨rfl,rfl,_,_,_,.int .u8 x,.inl hm,rfl,?_⟩;simp only[aH,aQ];refine(cJ (by omega:¬(1:Nat)=0)).mpr ?_;refine⟨[],_,R,hs,?_⟩;exact hQ (.string ⟨#[x.toNat.toUInt8]⟩) [(b',_)] rfl
def pnV(P:Program)(n:Nat)(p:Oper)(e:Env):Option (Nat×Nat):=match p.op with
 | .binOp .neq T x y _=>match cV P T with
  |some ⟨.pointer E,_,_,_⟩=>match cV P E with
   |some te=>bif Nat.blt 0 te.size then (match dv n e x with
    |some (.pointer (some ⟨b,0,none⟩))=>match dv n e y with
     |some (.pointer (some ⟨c,0,none⟩))=>some (b,c)
     |_=>none
    |_=>none) else none
   |none=>none
  |_=>none
 |_=>none
theorem ay0{P:Program}{sz2 CX:Nat}{z2:List Value}{ag2:Bool}(tf:TF P t (.pointer E) sz dL z ag){d:TypeDesc}(tK:TF P E d sz2 CX z2 ag2)(hs:sz2≠0)(a:Addr):EqD P (dep+1) t (.pointer (some a)) (.pointer (some a)) true:=by
 intro α s kk Q Er;simp only[Op.equalIn,aH,cY tf,ez tK,hs,ne_eq,not_false_eq_true,dI,sameAddr,beq_self_eq_true,aQ]
def jpn{b:Nat}(hj:J X (rV [] (.bool false) [] o))(hv:iC X.n (pnV X.P X.n) o=some (b,b):=by kernel_rfl)(hB:fT [] o=some []:=by kernel_rfl):J X o:=by
 refine jS (Φ:=λu L'=>u= .bool false/\L'=[]) [] [] hv hB (λp e hf=>?_) (λu L' uz=>by obtain⟨rfl,rfl⟩:=uz;exact hj);unfold pnV at hf;split at hf<;>try (cases hf;done)
 rename_i T x y T2 a8;split at hf<;>try (cases hf;done)
 rename_i E' _ _ _ ig;split at hf<;>try (cases hf;done)
 rename_i te wo;cases hc:Nat.blt 0 te.size with
 |false=>rw[hc] at hf;cases hf
 |true=>
  rw[hc] at hf;simp only[cH] at hf;split at hf<;>try (cases hf;done)
  rename_i b' hx;split at hf<;>try (cases hf;done)
  rename_i c' hy;simp only[aD,bP] at hf;obtain⟨rfl,rfl⟩:=hf;obtain⟨dL,tf⟩:=bA ig;obtain⟨CX,tK⟩:=bA wo;have hc:0 <te.size:=by rwa[af4] at hc
  refine⟨by rw[a8];simp,λR Q Er hQ=>?_⟩;have hs:te.size≠0:=by omega
  simp only[execOp,a8,bZ hx,bZ hy,eqGuard,aH,binOp,Op.equal,Op.maxDepth];simp only[pG,aX,cF,aQ,aH];rw[ay0 (dep:=9999) tf tK hs];exact hQ _ _ ⟨rfl,rfl⟩
end
attribute [irreducible] smV smA smL smR sdV usV pnV
section
variable {X:Cx} {o:Option JS}
def s0V(P:Program)(n:Nat)(p:Oper)(e:Env):Option (Addr×Nat×Nat):=match p.op with
 | .slice T x none (some y) none=>match cV P T with
  |some ⟨.slice E,_,_,_⟩=>match cV P E with
   |some _=>match dv n e x with
    |some (.slice (some ⟨b,0,none⟩) l c)=>match dv n e y with
     |some (.int .i64 0)=>some (⟨b,0,none⟩,l,c)
     |_=>none
    |_=>none
   |none=>none
  |_=>none
 |_=>none
def js0{a:Addr}{l c:Nat}(hj:J X (lT (.slice (some a) 0 c) o))(hv:fp X.n (s0V X.P X.n) o=some (a,l,c):=by kernel_rfl):J X o:=by
 refine jG hv (λs p e ho hh hf=>?_) hj;unfold s0V at hf;split at hf<;>try (cases hf;done)
 rename_i T x y a8;split at hf<;>try (cases hf;done)
 rename_i E _ _ _ ig;split at hf<;>try (cases hf;done)
 rename_i te wo;split at hf<;>try (cases hf;done)
 rename_i b l' c' hx;split at hf<;>try (cases hf;done)
 rename_i hy;simp only[aD,bP] at hf;obtain⟨rfl,rfl,rfl⟩:=hf;obtain⟨dL,tf⟩:=bA ig;obtain⟨CX,tK⟩:=bA wo;have key:∀s,Yields X.P X.n e p s (.slice (some ⟨b,0,none⟩) 0 c'):=by
  intro s s' pq f hf K E hK;have hb:(0:Int)<=0/\(0:Int)<=(c':Int):=by omega
  simp only[execOp,a8,di,j7,Instr.sliceAt,Instr.slice,hf _ _ hx,hf _ _ hy,aH,cY tf,Instr.sliceBounds,Instr.sliceBound,asIntOf,aQ,hb,LC,dI,ez tK];have he:(if c'=0 then (some ⟨b,0,none⟩:Option Addr) else some ((⟨b,0,none⟩:Addr).add (0*te.size)))=some ⟨b,0,none⟩:=by
   split
   .rfl
   simp[gY]
  rw[show (0:Int).toNat=0 from rfl,he];exact hK
 exact⟨by rw[a8];rfl,λ_=>key _,λ_=>key⟩
end
attribute [irreducible] s0V
section
variable {X:Cx} {o:Option JS}
def cpV(P:Program)(n:Nat)(p:Oper)(e:Env):Option Nat:=match p.op with
 | .call ⟨.builtin .cap,⟨[x]⟩,⟨[T]⟩⟩=>match cV P T with
  |some ⟨.slice _,_,_,_⟩=>match dv n e x with
   |some (.slice _ _ c)=>some c
   |_=>none
  |_=>none
 |_=>none
def jcp{c:Nat}(hj:J X (lT (.int .i64 (c:Int)) o))(hv:fp X.n (cpV X.P X.n) o=some c:=by kernel_rfl):J X o:=by
 refine jG hv (λs p e ho hh hf=>?_) hj;unfold cpV at hf;split at hf<;>try (cases hf;done)
 rename_i x T a8;split at hf<;>try (cases hf;done)
 rename_i ig;split at hf<;>try (cases hf;done)
 rename_i a l c' hx;simp only[aD] at hf;subst hf;obtain⟨dL,tf⟩:=bA ig;have key:∀s,Yields X.P X.n e p s (.int .i64 (c':Int)):=by
  intro s s' pq f hf K E hK;simp only[execOp,a8,resolve,invoke,builtin,oV,bV,lN,hf _ _ hx,aQ,aH,Builtin.cap_,su,jN,cY tf];exact hK
 exact⟨by rw[a8];rfl,λ_=>key _,λ_=>key⟩
end
attribute [irreducible] cpV
end Go.L
