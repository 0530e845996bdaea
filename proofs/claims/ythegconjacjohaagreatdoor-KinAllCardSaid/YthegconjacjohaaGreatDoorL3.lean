/- Part 3 of the proof. -/
import Derived.Test.YthegconjacjohaaGreatDoorL2
import Derived.KernelRfl
import Derived.Lib.UnsafeStr
import Derived.Test.YthegconjacjohaaGreatDoorProg
set_option maxRecDepth 100000
set_option linter.all false
namespace Go.L
open Go Go.Conc
variable {ro qk aF:Nat→Option Obj} {Φ:Value→Cells→Prop} {P:Program} {f g:FuncId} {R:Ending→St→Prop} {o o1:Option JS} {α κ ι β:Type} {args vs ca l z:List Value} {xs al:List Int} {todo seen vq:List Nat} {n i sz k d bL r dep off bd bl id ck nc nh q it:Nat} {X X1:Cx} {vd vm vc vh s0 s1 s2 t0 t1 ru vb va:Value} {T E t U T2:TypeId} {e rest:Env} {b nm:ByteArray} {p:Oper} {ats:Array TypeId} {s s':St} {fn:Func} {cs:List Frame} {hi lo many af gone new:Int} {ag main:Bool} {D:List Deferred} {fz:Nat×Nat} {fr kn:Cells} {body:Code} {x y:Operand} {aD:Option Nat} {A6:List Item} {C:Class}
def rh(P:Program)(f:FuncId):Func:=match P.funcs[f]? with
 |some fn=>fn
 |none=>default
abbrev RX(ro:Nat→Option Obj)(Φ:Value→Cells→Prop):Ending→St→Prop:=fun en s'=>∃v X,en= .returned v∧s'=⟨ro,X⟩∧Φ v X
def X0(P:Program)(hm:P.follows .mixedOrders=true)(f:FuncId)(ro:Nat→Option Obj)(R:Ending→St→Prop):Cx:=⟨P,CP P,fw,hm,f,none,(rh P f).ntmps,[],ro,sI P (rh P f) R⟩
def j6(P:Program)(f:FuncId)(args:List Value)(own:List Sg)(kn:Cells):Option JS:=match P.funcs[f]? with
 |some fn=>match fn.body with
  |some c=>bif Nat.ble args.length fn.ntmps then some ⟨.code c [],gu 0 args,own,⟨kn,[]⟩⟩ else none
  |none=>none
 |none=>none
theorem aFO{hm:P.follows .mixedOrders=true}(own:List Sg)(kn:Cells)(hk:Knows ro kn)(h:J (X0 P hm f ro R) (j6 P f args own kn)):Fn (CP P) P f ⟨args⟩ ⟨ro,den own⟩ R:=by
 unfold j6 at h
 split at h<;>try exact h.elim
 rename_i fn hf
 split at h<;>try exact h.elim
 rename_i c hc
 cases hl:Nat.ble args.length fn.ntmps with
 |false=>rw[hl] at h;exact h.elim
 |true=>
  rw[hl] at h
  have vV:rh P f=fn:=by simp only[rh,hf]
  have:=h hk
  simp only[JP,X0,KQ,vV] at this
  exact To fw hf hc rfl hl this
theorem bK(hm:P.follows .mixedOrders=true){L:Cells}(own:List Sg)(kn:Cells)(hk:Knows ro kn)(h:J (X0 P hm f ro (RX ro Φ)) (j6 P f args own kn))(hL:den own=L:=by rfl):ee P f args ro L Φ:=by
 subst hL;exact aFO own kn hk h
def Di(P:Program)(n:Nat)(e:Env)(w:List Sg)(kn:Cells):List Nat→List ResultVar→Option (List Value×List (Nat×Nat))
 |_,[]=>some ([],[])
 |hs,.tmp t::rs=>match bE n e (.tmp t) with
  |some v=>match Di P n e w kn hs rs with
   |some (vs,q)=>some (v::vs,q)
   |none=>none
  |none=>none
 |h::hs,.cell t T::rs=>match bE n e (.tmp t) with
  |some (.pointer (some ⟨b,off,none⟩))=>match Cr w kn h with
   |some (b',l)=>match ldv P T l off with
    |some v=>match Di P n e w kn hs rs with
     |some (vs,q)=>some (v::vs,(b',b)::q)
     |none=>none
    |none=>none
   |none=>none
  |_=>none
 | [],.cell _ _::_=>none
def iU(P:Program)(n:Nat)(f:FuncId)(hs:List Nat):Option JS→Option (Value×List (Nat×Nat))
 |some ⟨.fin _,e,w,kn⟩=>match Di P n e w kn.c hs (rh P f).results.toList with
  |some (vs,q)=>some (vK vs,q)
  |none=>none
 |_=>none
def rR:Option (Value×List (Nat×Nat))→Option Value
 |some (v,_)=>some v
 |none=>none
def Qm:Option (Value×List (Nat×Nat))→List Nat
 |some (_,q)=>Xl q
 |none=>[0]
def Ql:Option (Value×List (Nat×Nat))→List Nat
 |some (_,q)=>Vh q
 |none=>[1]
theorem uM{w:List Sg}(cv:Knows X.ro kn):∀ {hs:List Nat} {rs:List ResultVar} {vs:List Value} {q:List (Nat×Nat)},Di X.P X.n e w kn hs rs=some (vs,q)→(∀p∈q,p.1=p.2)→Gi X.P ⟨X.ro,den w⟩ X.n e rs vs
 |_,[],vs,q,h,_=>by simp only[Di,Option.some.injEq,Prod.mk.injEq] at h;obtain⟨rfl,rfl⟩:=h;exact .nil
 |hs,.tmp t::rs,vs,q,h,hq=>by
  simp only[Di] at h
  split at h<;>try (cases h;done)
  rename_i v hv
  split at h<;>try (cases h;done)
  rename_i oJ q' hr
  simp only[Option.some.injEq,Prod.mk.injEq] at h;obtain⟨rfl,rfl⟩:=h
  exact .tmp hv (uM cv hr hq)
 | [],.cell _ _::_,vs,q,h,_=>by simp only[Di] at h;cases h
 |h0::hs,.cell t T::rs,vs,q,h,hq=>by
  simp only[Di] at h
  split at h<;>try (cases h;done)
  rename_i b off hv
  split at h<;>try (cases h;done)
  rename_i b' l hc
  split at h<;>try (cases h;done)
  rename_i v hld
  split at h<;>try (cases h;done)
  rename_i oJ q' hr
  simp only[Option.some.injEq,Prod.mk.injEq] at h;obtain⟨rfl,rfl⟩:=h
  have hb:b'=b:=hq _ List.mem_cons_self
  subst hb
  obtain⟨t',fz,hh⟩:=AY (X:=X) cv hc
  have ih:=uM cv hr fun p hp=>hq p (List.mem_cons_of_mem _ hp)
  unfold ldv at hld
  split at hld<;>try (cases hld;done)
  rename_i ti dS
  obtain⟨bL,tf⟩:=ay dS
  cases ha:ti.agg with
  |true=>
   rw[ha] at hld tf;simp only[cond_true] at hld
   split at hld<;>try (cases hld;done)
   rename_i vs2 FY
   cases hld
   exact .agg tf hv ⟨_,_,_,hh,FY⟩ ih
  |false=>
   rw[ha] at hld tf;simp only[cond_false] at hld
   exact .cell tf hv ⟨_,_,_,hh,hld⟩ ih
def AS:Option JS→Bool
 |some ⟨.fin .ret,_,_,_⟩=>true
 |some ⟨.fin .normal,_,_,_⟩=>true
 |_=>false
theorem ui(h:AS o=true):∃ex e w kn,o=some ⟨.fin ex,e,w,kn⟩∧(ex= .ret∨ex= .normal):=by
 unfold AS at h
 split at h
 ·exact⟨_,_,_,_,rfl,.inl rfl⟩
 ·exact⟨_,_,_,_,rfl,.inr rfl⟩
 cases h
def agX:Option JS→Bool
 |some ⟨.ops ..,_,_,_⟩=>true
 |some ⟨.code ..,_,_,_⟩=>true
 |_=>false
structure QR(X:Cx)(R:Ending→St→Prop):Prop where
 q:X.Q=sI X.P (rh X.P X.fn) R
 d:X.D=[]
theorem q0{hm:P.follows .mixedOrders=true}:QR (X0 P hm f ro R) R:=⟨rfl,rfl⟩
theorem QR.a(h:QR X R):QR (X.at ro) R:=⟨h.q,h.d⟩
theorem bp:Knows ro []:=fun _ h=>by cases h
section
variable {X:Cx} {o:Option JS}
theorem aN(hq:QR X R)(v:Value)(hs ps:List Nat)(Y:Cells)(fT:Sub qk X.ro)(hR:R (.returned v) ⟨qk,Y⟩)(h1:rR (iU X.P X.n X.fn hs o)=some v:=by kernel_rfl)(h2:Qm (iU X.P X.n X.fn hs o)=Ql (iU X.P X.n X.fn hs o):=by kernel_rfl)(h3:dO ps o=some Y:=by kernel_rfl)(h4:AS o=true:=by kernel_rfl):J X o:=by
 obtain⟨ex,e,w,kn,rfl,hex⟩:=ui h4
 simp only[iU] at h1 h2
 cases hr:Di X.P X.n e w kn.c hs (rh X.P X.fn).results.toList with
 |none=>rw[hr] at h1;cases h1
 |some x=>
  rcases x with ⟨vs,q⟩
  simp only[hr,rR,Option.some.injEq,Qm,Ql] at h1 h2
  intro cv
  have th:=uM cv hr (mO h2)
  have hp:=bO h3
  show X.Q ex (A X.n e X.D) ⟨X.ro,den w⟩
  rw[hq.q,hq.d]
  exact Ri (s0:=⟨qk,Y⟩) hex th h1 (dY hp fT) hR
def rH(X:Cx)(K:Act→St→Prop)(ef:ι→Env)(wf:ι→List Sg)(Inv:ι→Prop)(μ:ι→Nat)(m:Nat):Prop:=
 ∀j,Inv j→μ j <m→∀(e:Env) (s:St),lv e (ef j)→(⟨X.ro,den (wf j)⟩:St).le s→K (A X.n e X.D) s
def y8:List Nat→List (Act→St→Prop)→Code→List KI→Option (Code×List KI)
 | [],_,c,k=>some (c,k)
 |0::p,Ks,.seq a b,k=>y8 p Ks a (.seq b::k)
 |1::p,Ks,.seq _ b,k=>y8 p Ks b k
 |2::p,K::Ks,.seq a _,k=>y8 p Ks a (.next K::k)
 |_::p,Ks,.block id c,k=>y8 p Ks c (.block id::k)
 |_::p,Ks,.scope c,k=>y8 p Ks c k
 |0::p,Ks,.cond _ a _,k=>y8 p Ks a k
 |_::p,Ks,.cond _ _ b,k=>y8 p Ks b k
 |_::p,K::Ks,.loop c,k=>y8 p Ks c (.next K::k)
 |_::p,Ks,.rangeFunc _ _ _ b,_=>y8 p Ks b []
 |_,_,_,_=>none
def Lj(P:Program)(f:FuncId)(p:List Nat)(Ks:List (Act→St→Prop)):Option (Code×List KI):=match (rh P f).body with
 |some c=>y8 p Ks c []
 |none=>none
def stC(e:Env)(w:List Sg):Option (Code×List KI)→Option JS
 |some (c,k)=>some ⟨.code c k,e,w,⟨[],[]⟩⟩
 |none=>none
def stW(P:Program)(f:FuncId)(p:List Nat)(Ks:List (Act→St→Prop))(e:Env)(w:List Sg):Option JS:=stC e w (Lj P f p Ks)
def zo:Option JS→Option (Code×List KI)
 |some ⟨.code c k,_,_,_⟩=>some (c,k)
 |_=>none
def lpB(K:Act→St→Prop):Option (Code×List KI)→Option (Code×List KI)
 |some (.loop c,k)=>some (c,.next K::k)
 |_=>none
theorem dH(p:List Nat)(Ks:List (Act→St→Prop))(ef:ι→Env)(wf:ι→List Sg)(Inv:ι→Prop)(μ:ι→Nat)(i0:ι)(h0:Inv i0)(ps:List Nat)(hb:∀i,Inv i→∀K,rH X K ef wf Inv μ (μ i)→∀rest,J X (stW X.P X.fn p (Ks++[K]) (ef i++rest) (wf i)))
 (h1:oR (lU (ef i0)) o=some (ef i0):=by kernel_rfl)(hd:∀i,lkE (lU (ef i)) (ef i)=some (ef i):=by intro _;kernel_rfl)(h2:p7 ps o=some (wf i0):=by kernel_rfl)(hp:∀K,Lj X.P X.fn p (Ks++[K])=lpB K (zo o):=by intro _;kernel_rfl):J X o:=by
 have hT:∀i,rH X (fun _ _=>True) ef wf Inv μ (μ i):=fun _ _ _ _ _ _ _ _=>trivial
 have bad:∀(K:Act→St→Prop),lpB K (zo o)=none→(∀i,rH X K ef wf Inv μ (μ i))→J X o:=fun K h hK=>by
  have:=hb i0 h0 K (hK i0) []
  simp only[stW,hp,h,stC] at this
  exact this.elim
 cases o with
 |none=>exact bad _ rfl hT
 |some s=>
  rcases s with ⟨q,e,w,kn⟩
  cases q with
  |code c k=>
   cases c with
   |loop c=>
    intro cv
    refine aei X.hC ef (fun i=>⟨X.ro,den (wf i)⟩) Inv μ i0 h0 (lf (by rw[tU] at h1;exact h1)) (lf (hd i0)) (dY (mr h2) (Sub.refl _)) fun i hi rest=>?_
    have:=hb i hi _ (fun j hj hm e s hc hle=>an5 j hj hm hc (lf (hd j)) hle) rest
    simp only[stW,hp,zo,lpB,stC] at this
    exact this fun _ h=>(List.not_mem_nil h).elim
   |_=>exact bad _ rfl hT
  |_=>exact bad _ rfl hT
def Oi:Option JS→Option (Act→St→Prop)
 |some ⟨.nxt K,_,_,_⟩=>some K
 |_=>none
theorem bF{K:Act→St→Prop}{ef:ι→Env}{wf:ι→List Sg}{Inv:ι→Prop}{μ:ι→Nat}{m:Nat}(hK:rH X1 K ef wf Inv μ m)(j:ι)(h:Inv j)(hm:μ j <m)(ps:List Nat)(hs:Sub X1.ro X.ro)
 (h0:Oi o=some K:=by kernel_rfl)(h1:oR (lU (ef j)) o=some (ef j):=by kernel_rfl)(h2:p7 ps o=some (wf j):=by kernel_rfl)(hn:X1.n=X.n:=by rfl)(hD:X1.D=X.D:=by rfl):J X o:=by
 unfold Oi at h0
 split at h0<;>try (cases h0;done)
 rename_i K' e w kn
 cases h0
 intro _
 rw[tU] at h1
 have:=hK j h hm e ⟨X.ro,den w⟩ (lf h1) (dY (mr h2) hs)
 rw[hn,hD] at this
 exact this
def gS:List (List Nat)→List Sg→Option (List Cells)
 | [],_=>some []
 |p::r,w=>match Rv p w with
  |some x=>match gS r w with
   |some y=>some (den x::y)
   |none=>none
  |none=>none
def gO(ps:List (List Nat)):Option JS→Option (List Cells)
 |some s=>bif HG ps.flatten then gS ps s.rw else none
 |none=>none
def Vn:List Sg→List Cells
 | []=>[]
 |x::w=>den [x]::Vn w
theorem Hj:∀(w:List Sg),(Vn w).flatten=den w
 | []=>rfl
 | .b i o::w=>by simp[Vn,jq,Hj w];rfl
 | .l L::w=>by simp[Vn,gZ,Hj w];rfl
theorem Y6:∀ {a b:List Nat} {w x y:List Sg},Rv a w=some x→Rv b w=some y→Rv (a++b) w=some (x++y)
 | [],b,w,x,y,h,h2=>by simp only[Rv,Option.some.injEq] at h;subst h;exact h2
 |i::a,b,w,x,y,h,h2=>by
  simp only[Rv] at h
  split at h<;>try (cases h;done)
  rename_i z hz
  split at h<;>try (cases h;done)
  rename_i r hr
  cases h
  simp only[List.cons_append,Rv,hz,Y6 hr h2]
theorem asQ:∀ {ps:List (List Nat)} {w:List Sg} {l:List Cells},gS ps w=some l→∃z,Rv ps.flatten w=some z∧den z=l.flatten
 | [],w,l,h=>by simp only[gS,Option.some.injEq] at h;subst h;exact⟨[],rfl,rfl⟩
 |p::r,w,l,h=>by
  simp only[gS] at h
  split at h<;>try (cases h;done)
  rename_i x hx
  split at h<;>try (cases h;done)
  rename_i y hy
  cases h
  obtain⟨z,h1,h2⟩:=asQ hy
  exact⟨x++z,by simpa using Y6 hx h1,by simp[me,h2]⟩
theorem FQ{K:Act→St→Prop}{ef:ι→Env}{wf:ι→List Sg}{Inv:ι→Prop}{μ:ι→Nat}{m:Nat}(hK:rH X1 K ef wf Inv μ m)(j:ι)(h:Inv j)(hm:μ j <m)(ps:List (List Nat))(hs:Sub X1.ro X.ro)
 (h0:Oi o=some K:=by kernel_rfl)(h1:oR (lU (ef j)) o=some (ef j):=by kernel_rfl)(h2:gO ps o=some (Vn (wf j)):=by kernel_rfl)(hn:X1.n=X.n:=by rfl)(hD:X1.D=X.D:=by rfl):J X o:=by
 unfold Oi at h0
 split at h0<;>try (cases h0;done)
 rename_i K' e w kn
 cases h0
 intro _
 rw[tU] at h1
 have hp:(den w).Perm (den (wf j)++den (dL ps.flatten 0 w)):=by
  simp only[gO] at h2
  cases ho:HG ps.flatten with
  |false=>rw[ho] at h2;cases h2
  |true=>
   rw[ho] at h2
   obtain⟨z,h3,h4⟩:=asQ h2
   rw[Hj] at h4
   rw[←h4]
   exact yg h3 ho
 have:=hK j h hm e ⟨X.ro,den w⟩ (lf h1) (dY hp hs)
 rw[hn,hD] at this
 exact this
def aLo:Option (Code×List KI)→Option (Code×List KI)
 |some (_,.seq y::k)=>some (y,k)
 |_=>none
def azL(K:Act→St→Prop):Option JS→Option JS
 |some ⟨.code x (.seq _::k),e,w,kn⟩=>some ⟨.code x (.next K::k),e,w,kn⟩
 |_=>none
theorem GD(p:List Nat)(Ks:List (Act→St→Prop))(ef:ι→Env)(wf:ι→List Sg)(Inv:ι→Prop)(hj:∀i,Inv i→∀rest,J X (stW X.P X.fn p Ks (ef i++rest) (wf i)))(h:∀K,rH X K ef wf Inv (fun _=>0) 1→J X (azL K o))(hd:∀i,lkE (lU (ef i)) (ef i)=some (ef i):=by intro _;kernel_rfl)(hp:Lj X.P X.fn p Ks=aLo (zo o):=by kernel_rfl):J X o:=by
 unfold azL at h
 split at h
 ·rename_i x y k e w kn
  intro cv
  refine h (fun a s=>Wp X.C X.fn X.aD y (KQ X k) a s) (fun j hI _ e s hc hle=>?_) cv
  obtain⟨r,hr⟩:=gI (n:=X.n) (D:=X.D) hc (lf (hd j))
  rw[hr]
  have:=hj j hI r
  simp only[stW,hp,zo,aLo,stC] at this
  exact(this fun _ h=>(List.not_mem_nil h).elim).more X.hC hle
 exact(h (fun _ _=>True) fun _ _ _ _ _ _ _=>trivial).elim
def expand:Cells→List Sg
 | []=>[]
 |x::l=> .b x.1 x.2::expand l
def Xu:Nat→List Sg→List Sg
 |_,[]=>[]
 |0,.l L::w=>expand L++w
 |0,x::w=>x::w
 |i+1,x::w=>x::Xu i w
theorem X9{kn:Kn}{w w':List Sg}{p:Pos}(h:den w'=den w)(hj:JP X kn e w' p):JP X kn e w p:=by
 cases p<;>simp only[JP,h] at hj ⊢ <;>exact hj
def aKC(i:Nat):Option JS→Option JS
 |some s=>some {s with rw:=Xu i s.rw}
 |none=>none
def aaR:List Sg→Cells
 | []=>[]
 | .b i o::w=>(i,o)::aaR w
 | .l _::w=>aaR w
theorem yF:∀ {w:List Sg} {x:Nat×Obj},x∈aaR w→x∈den w
 | .b i o::w,x,h=>by
  rw[jq]
  rcases List.mem_cons.1 h with rfl|h
  ·exact List.mem_cons_self
  exact List.mem_cons_of_mem _ (yF h)
 | .l L::w,x,h=>by rw[gZ];exact List.mem_append_right _ (yF (w:=w) h)
def ap0(ps:List Nat):Option JS→Option JS
 |some s=>match Rv ps s.rw with
  |some w=>some {s with rw:=dL ps 0 s.rw,kn:=⟨aaR w++s.kn.c,s.kn.nd⟩}
  |none=>none
 |none=>none
theorem JD:∀(k:List KI),KQ (X.at aF) k=KQ X k
 | []=>rfl
 | .seq _::k=>by simp only[KQ,JD k];rfl
 | .block _::k=>by simp only[KQ,JD k]
 | .next _::k=>by simp only[KQ,JD k]
theorem jf(ps:List Nat)(L:Cells)(h:∀aF,Sub X.ro aF→Knows aF L→J (X.at aF) (ap0 ps o))(h2:dO ps o=some L:=by kernel_rfl)(hp:agX o=true:=by kernel_rfl):J X o:=by
 have hpk:∀ {s:JS},dO ps (some s)=some L→∃w,Rv ps s.rw=some w∧den w=L:=by
  intro s hs
  simp only[dO,p7] at hs
  cases hk:HG ps with
  |false=>rw[hk] at hs;cases hs
  |true=>
   rw[hk] at hs;simp only[cond_true] at hs
   split at hs<;>try (cases hs;done)
   rename_i w hw
   cases hs
   exact⟨w,hw,rfl⟩
 unfold agX at hp
 split at hp
 ·rename_i ops todo k e w kn
  intro cv
  obtain⟨w1,hw1,rfl⟩:=hpk h2
  refine VP X.hC (bO h2) fun aF hs hk=>?_
  have:=h aF hs hk
  simp only[ap0,hw1] at this
  have:=this (fun x hx=>(List.mem_append.1 hx).elim (fun hx=>hk x (yF hx)) fun hx=>hs _ _ (cv x hx))
  simp only[JP,JD] at this
  exact this
 ·rename_i c k e w kn
  intro cv
  obtain⟨w1,hw1,rfl⟩:=hpk h2
  refine abe X.hC (bO h2) fun aF hs hk=>?_
  have:=h aF hs hk
  simp only[ap0,hw1] at this
  have:=this (fun x hx=>(List.mem_append.1 hx).elim (fun hx=>hk x (yF hx)) fun hx=>hs _ _ (cv x hx))
  simp only[JP,JD] at this
  exact this
 cases hp
def geO:Option JS→Option JS
 |some s=>some {s with rw:= .l []::s.rw}
 |none=>none
theorem my(h:J X (geO o)):J X o:=by
 cases o with
 |none=>exact h
 |some s=>exact fun cv=>X9 (by simp[gZ]) (h cv)
def sgS:Nat→List Sg→List Sg→List Sg
 |_,_,[]=>[]
 |0,l,_::w=>l++w
 |i+1,l,x::w=>x::sgS i l w
theorem YC{l:List Sg}:∀ {i:Nat} {w:List Sg} {x:Sg},Au w i=some x→den [x]=den l→den (sgS i l w)=den w
 |_,[],_,h,_=>by cases h
 |0,y::w,x,h,hd=>by
  simp only[Au,Option.some.injEq] at h;subst h
  have:den (y::w)=den [y]++den w:=by rw[←me];rfl
  rw[this,hd,←me];rfl
 |i+1,y::w,x,h,hd=>by
  have:=YC (w:=w) (i:=i) h hd
  cases y<;>simp[sgS,jq,gZ,this]
def sgO(i:Nat)(l:List Sg):Option JS→Option JS
 |some s=>some {s with rw:=sgS i l s.rw}
 |none=>none
theorem jg(i:Nat)(l:List Sg)(h:J X (sgO i l o))(h2:dO [i] o=some (den l):=by kernel_rfl):J X o:=by
 cases o with
 |none=>exact h
 |some s=>
  have hn:∃x,Au s.rw i=some x∧den [x]=den l:=by
   simp only[dO,p7,HG,bA,Rv,Bool.not_false,Bool.true_and,cond_true] at h2
   cases hx:Au s.rw i with
   |none=>rw[hx] at h2;cases h2
   |some x=>rw[hx] at h2;simp only[Option.some.injEq] at h2;exact⟨x,rfl,h2⟩
  obtain⟨x,hx,hd⟩:=hn
  exact fun cv=>X9 (YC hx hd) (h cv)
theorem jmw(i:Nat)(l:List Sg){L:Cells}(h:L=den l)(hj:J X (sgO i l o))(h2:dO [i] o=some L:=by kernel_rfl):J X o:=by
 subst h;exact jg i l hj h2
end
def Cx.wd(X:Cx)(D:List Deferred):Cx:={X with D:=D}
theorem Ue:∀(k:List KI),KQ (X.wd D) k=KQ X k
 | []=>rfl
 | .seq _::k=>by simp only[KQ,Ue k];rfl
 | .block _::k=>by simp only[KQ,Ue k]
 | .next _::k=>by simp only[KQ,Ue k]
def GV(X:Cx)(K:Act→St→Prop)(ef:ι→Env)(wf:ι→List Sg)(df:ι→List Deferred)(Inv:ι→Prop)(μ:ι→Nat)(m:Nat):Prop:=
 ∀j,Inv j→μ j <m→∀(e:Env) (s:St),lv e (ef j)→(⟨X.ro,den (wf j)⟩:St).le s→K (A X.n e (df j)) s
section
variable {X:Cx} {o:Option JS}
theorem aej{fn:FuncId}{Q:Post}{env:Env}(hC:∀main T,C main T→Closed X.P main T)(qt:ι→Env)(sf:ι→St)(df:ι→List Deferred)(Inv:ι→Prop)(μ:ι→Nat){c:Code}(i0:ι)(h0:Inv i0)(hc:lv env (qt i0))(hd:∀i,lv (qt i) (qt i))(hs:(sf i0).le s)
 (round:∀i,Inv i→∀rest,Wp C fn aD c (mD (fun a s=>∃j,Inv j∧μ j <μ i∧(∃e,lv e (qt j)∧a=A n e (df j))∧(sf j).le s) Q) (A n (qt i++rest) (df i)) (sf i)):Wp C fn aD (.loop c) Q (A n env (df i0)) s:=by
 obtain⟨r0,wG⟩:=gI (n:=n) (D:=df i0) hc (hd i0)
 rw[wG]
 intro main T hT b k cs h1 h2 h3 h4
 have key:∀m i rest s,μ i=m→Inv i→(sf i).le s→T (G (aM b (A n (qt i++rest) (df i)) (.code c:: .inLoop c::k)) cs) s:=by
  intro m
  induction m using Nat.strongRecOn with
  |_ m ih=>
   intro i rest s hm hI hle
   refine(hC main T hT).mono _ _ _ hle ?_
   refine round i hI rest main T hT b (.inLoop c::k) cs h1 h2 h3 fun e a' s' q=>?_
   cases e with
   |normal=>
    obtain⟨j,AQ,cO,⟨e,he,rfl⟩,yW⟩:=q
    obtain⟨afo,hr⟩:=gI (n:=n) (D:=df j) he (hd j)
    rw[hr]
    exact(hC main T hT).go rfl rfl (g':=G (aM b _ (.code c:: .inLoop c::k)) cs) (fun w=>by simp[G,stepG,stepG.exec,aM]) (ih _ (hm▸cO) j afo s' rfl AQ yW)
   |exit id=>exact(h4 _ _ _ q).push rfl (by simp)
   |ret=>exact(h4 _ _ _ q).push (x:= .inLoop c) rfl (by simp)
   |panic ch=>exact(h4 _ _ _ q).push (x:= .inLoop c) rfl (by simp)
   |goto l=>exact(h4 _ _ _ q).elim
   |outgrown=>exact(h4 _ _ _ q).elim
 exact(hC main T hT).go rfl rfl (g':=G (aM b (A n (qt i0++r0) (df i0)) (.code c:: .inLoop c::k)) cs) (fun w=>by simp[G,stepG,stepG.exec,aM]) (key _ i0 r0 s rfl h0 hs)
theorem aFT(p:List Nat)(Ks:List (Act→St→Prop))(ef:ι→Env)(wf:ι→List Sg)(df:ι→List Deferred)(Inv:ι→Prop)(μ:ι→Nat)(i0:ι)(h0:Inv i0)(ps:List Nat)(hb:∀i,Inv i→∀K,GV X K ef wf df Inv μ (μ i)→∀rest,J (X.wd (df i)) (stW X.P X.fn p (Ks++[K]) (ef i++rest) (wf i)))
 (h1:oR (lU (ef i0)) o=some (ef i0):=by kernel_rfl)(hd:∀i,lkE (lU (ef i)) (ef i)=some (ef i):=by intro _;kernel_rfl)(h2:p7 ps o=some (wf i0):=by kernel_rfl)(hp:∀K,Lj X.P X.fn p (Ks++[K])=lpB K (zo o):=by intro _;kernel_rfl)(hD:X.D=df i0:=by rfl):J X o:=by
 have hT:∀i,GV X (fun _ _=>True) ef wf df Inv μ (μ i):=fun _ _ _ _ _ _ _ _=>trivial
 have bad:∀(K:Act→St→Prop),lpB K (zo o)=none→(∀i,GV X K ef wf df Inv μ (μ i))→J X o:=fun K h hK=>by
  have:=hb i0 h0 K (hK i0) []
  simp only[stW,hp,h,stC] at this
  exact this.elim
 cases o with
 |none=>exact bad _ rfl hT
 |some s=>
  rcases s with ⟨q,e,w,kn⟩
  cases q with
  |code c k=>
   cases c with
   |loop c=>
    intro cv
    show Wp X.C X.fn X.aD (.loop c) (KQ X k) (A X.n e X.D) ⟨X.ro,den w⟩
    rw[hD]
    refine aej (X:=X) X.hC ef (fun i=>(⟨X.ro,den (wf i)⟩:St)) df Inv μ i0 h0 (lf (by rw[tU] at h1;exact h1)) (fun i=>lf (hd i)) (dY (mr h2) (Sub.refl _)) fun i hi rest=>?_
    have:=hb i hi (fun a s=>∃j,Inv j∧μ j <μ i∧(∃e,lv e (ef j)∧a=A X.n e (df j))∧(⟨X.ro,den (wf j)⟩:St).le s) (fun j hj hm e s hc hle=>⟨j,hj,hm,⟨e,hc,rfl⟩,hle⟩) rest
    simp only[stW,hp,zo,lpB,stC] at this
    have:=this fun _ h=>(List.not_mem_nil h).elim
    simp only[JP,KQ,Ue] at this
    exact this
   |_=>exact bad _ rfl hT
  |_=>exact bad _ rfl hT
theorem jnD{K:Act→St→Prop}{ef:ι→Env}{wf:ι→List Sg}{df:ι→List Deferred}{Inv:ι→Prop}{μ:ι→Nat}{m:Nat}(hK:GV X1 K ef wf df Inv μ m)(j:ι)(h:Inv j)(hm:μ j <m)(ps:List (List Nat))(hs:Sub X1.ro X.ro)
 (h0:Oi o=some K:=by kernel_rfl)(h1:oR (lU (ef j)) o=some (ef j):=by kernel_rfl)(h2:gO ps o=some (Vn (wf j)):=by kernel_rfl)(hn:X1.n=X.n:=by rfl)(hD:X.D=df j:=by rfl):J X o:=by
 have hK':rH (X1.wd (df j)) K ef wf (fun i=>i=j) μ m:=fun i hi hm e s hc hle=>by subst hi;exact hK _ h hm e s hc hle
 exact FQ hK' j rfl hm ps hs h0 h1 h2 hn hD.symm
end
attribute [irreducible] gO geO rh j6 azL stW zo Lj aKC ap0 sgO AS agX iU Qm Ql rR Oi
section
variable {X:Cx} {o:Option JS}
def PM(n:Nat)(p:Oper)(e:Env):Option (BinOp×TypeId×Value×Value):=match p.op with
 | .binOp op T x y _=>match bE n e x with
  |some v=>match bE n e y with
   |some w=>some (op,T,v,w)
   |none=>none
  |none=>none
 |_=>none
theorem vk{op:BinOp}{v w:Value}(h:PM n p e=some (op,T,v,w)):∃x y T',p.op= .binOp op T x y T'∧bE n e x=some v∧bE n e y=some w:=by
 unfold PM at h
 split at h<;>try (cases h;done)
 rename_i aC
 split at h<;>try (cases h;done)
 rename_i hx
 split at h<;>try (cases h;done)
 rename_i hy
 cases h
 exact⟨_,_,_,aC,hx,hy⟩
theorem jsa{a:ByteArray}(T:TypeId)(hb:(a.size:Int)+b.size≤9223372036854775807)(hj:J X (j8 (.string (a++b)) o))(hv:dE X.n (PM X.n) o=some (.add,T,.string a,.string b):=by kernel_rfl):J X o:=by
 refine Uo hv (fun s p e _ hf=>?_) hj
 obtain⟨x,y,T',aC,hx,hy⟩:=vk hf
 rcases p with ⟨dst,op,ty,pos,dt,g⟩
 dsimp only at aC;subst aC
 exact fun s0 ops i ub rest hw s' hs todo Q hk=>avp X.hC ub hw (bB hx) (bB hy) hb hk
theorem jrm{k:IntKind}{a b:Int}(T:TypeId)(hb:b≠0)(hj:J X (j8 (.int k (a.tmod b)) o))(hv:dE X.n (PM X.n) o=some (.rem,T,.int k a,.int k b):=by kernel_rfl):J X o:=by
 refine Uo hv (fun s p e _ hf=>?_) hj
 obtain⟨x,y,T',aC,hx,hy⟩:=vk hf
 rcases p with ⟨dst,op,ty,pos,dt,g⟩
 dsimp only at aC;subst aC
 exact fun s0 ops i ub rest hw s' hs todo Q hk=>aEW X.hC ub hw (bB hx) (bB hy) hb hk
theorem jsr{k k':IntKind}{a b:Int}(T:TypeId)(hb:0≤b)(hj:J X (j8 (.int k (aV k a b)) o))(hv:dE X.n (PM X.n) o=some (.shr,T,.int k a,.int k' b):=by kernel_rfl):J X o:=by
 refine Uo hv (fun s p e _ hf=>?_) hj
 obtain⟨x,y,T',aC,hx,hy⟩:=vk hf
 rcases p with ⟨dst,op,ty,pos,dt,g⟩
 dsimp only at aC;subst aC
 exact fun s0 ops i ub rest hw s' hs todo Q hk=>aEU X.hC ub hw (bB hx) (bB hy) hb hk
theorem jsh{k k':IntKind}{a b:Int}(T:TypeId)(hb:0≤b)(hj:J X (j8 (.int k (dZ k a b)) o))(hv:dE X.n (PM X.n) o=some (.shl,T,.int k a,.int k' b):=by kernel_rfl):J X o:=by
 refine Uo hv (fun s p e _ hf=>?_) hj
 obtain⟨x,y,T',aC,hx,hy⟩:=vk hf
 rcases p with ⟨dst,op,ty,pos,dt,g⟩
 dsimp only at aC;subst aC
 exact fun s0 ops i ub rest hw s' hs todo Q hk=>aEV X.hC ub hw (bB hx) (bB hy) hb hk
theorem jeq{m:List Value}{r:Bool}(hg:nv X.P T)(he:EqV X.P T (.agg ⟨l⟩) (.agg ⟨m⟩) r)(hj:J X (j8 (.bool r) o))(hv:dE X.n (PM X.n) o=some (.eql,T,.agg ⟨l⟩,.agg ⟨m⟩):=by kernel_rfl):J X o:=by
 refine Uo hv (fun s p e _ hf=>?_) hj
 obtain⟨x,y,T',aC,hx,hy⟩:=vk hf
 rcases p with ⟨dst,op,ty,pos,dt,g⟩
 dsimp only at aC;subst aC
 exact fun s0 ops i ub rest hw s' hs todo Q hk=>anZ X.hC ub hw (bB hx) (bB hy) hg he hk
theorem jne{m:List Value}{r:Bool}(hg:nv X.P T)(he:EqV X.P T (.agg ⟨l⟩) (.agg ⟨m⟩) r)(hj:J X (j8 (.bool !r) o))(hv:dE X.n (PM X.n) o=some (.neq,T,.agg ⟨l⟩,.agg ⟨m⟩):=by kernel_rfl):J X o:=by
 refine Uo hv (fun s p e _ hf=>?_) hj
 obtain⟨x,y,T',aC,hx,hy⟩:=vk hf
 rcases p with ⟨dst,op,ty,pos,dt,g⟩
 dsimp only at aC;subst aC
 exact fun s0 ops i ub rest hw s' hs todo Q hk=>agj X.hC ub hw (bB hx) (bB hy) hg he hk
def H3(P:Program)(T:TypeId):Bool:=match a8 P T with
 |some ⟨.slice _,_,_,_⟩=>true
 |_=>false
theorem H2(h:H3 P T=true):∃E sz bL z ag,TF P T (.slice E) sz bL z ag:=by
 unfold H3 at h
 split at h<;>try (cases h;done)
 rename_i dS
 obtain⟨bL,tf⟩:=ay dS
 exact⟨_,_,_,_,_,tf⟩
theorem jsn{a:Option Addr}{l c:Nat}(T:TypeId)(hj:J X (j8 (.bool a.isNone) o))(hv:dE X.n (PM X.n) o=some (.eql,T,.slice a l c,.slice none 0 0):=by kernel_rfl)(hT:H3 X.P T=true:=by kernel_rfl):J X o:=by
 refine Uo hv (fun s p e _ hf=>?_) hj
 obtain⟨x,y,T',aC,hx,hy⟩:=vk hf
 obtain⟨E,sz,bL,z,ag,tf⟩:=H2 hT
 rcases p with ⟨dst,op,ty,pos,dt,g⟩
 dsimp only at aC;subst aC
 exact fun s0 ops i ub rest hw s' hs todo Q hk=>anU X.hC ub hw tf (bB hx) (bB hy) hk
def FM(n:Nat)(e:Env):Option Operand→Option (Option Int)
 |none=>some none
 |some x=>match bE n e x with
  |some (.int _ a)=>some (some a)
  |_=>none
def ae3(P:Program)(n:Nat)(p:Oper)(e:Env):Option (ByteArray×Option Int×Option Int):=match p.op with
 | .slice T x y z none=>match a8 P T with
  |some ⟨.string,_,_,_⟩=>match bE n e x with
   |some (.string b)=>match FM n e y with
    |some lo=>match FM n e z with
     |some hi=>some (b,lo,hi)
     |none=>none
    |none=>none
   |_=>none
  |_=>none
 |_=>none
def ani(P:Program)(n:Nat)(p:Oper)(e:Env):Option (Value×Option Int×Option Int×Nat):=match p.op with
 | .slice T x y z none=>match a8 P T with
  |some ⟨.slice E,_,_,_⟩=>match a8 P E with
   |some te=>match bE n e x with
    |some v=>match FM n e y with
     |some lo=>match FM n e z with
      |some hi=>some (v,lo,hi,te.size)
      |none=>none
     |none=>none
    |none=>none
   |none=>none
  |_=>none
 |_=>none
theorem nZ{x:Option Operand}{a:Int}(h:FM n e x=some (some a)):∃y k,x=some y∧bE n e y=some (.int k a):=by
 unfold FM at h
 split at h
 ·cases h
 split at h<;>try (cases h;done)
 rename_i hx
 cases h
 exact⟨_,_,rfl,hx⟩
theorem DF{x:Option Operand}(h:FM n e x=some none):x=none:=by
 unfold FM at h
 split at h
 ·rfl
 split at h<;>cases h
theorem NR{lo hi:Option Int}(h:ae3 P n p e=some (b,lo,hi)):∃T x y z sz bL zz ag,p.op= .slice T x y z none∧TF P T .string sz bL zz ag∧bE n e x=some (.string b)∧FM n e y=some lo∧FM n e z=some hi:=by
 unfold ae3 at h
 split at h<;>try (cases h;done)
 rename_i aC
 split at h<;>try (cases h;done)
 rename_i dS
 obtain⟨bL,tf⟩:=ay dS
 split at h<;>try (cases h;done)
 rename_i hx
 split at h<;>try (cases h;done)
 rename_i hy
 split at h<;>try (cases h;done)
 rename_i hz
 cases h
 exact⟨_,_,_,_,_,_,_,_,aC,tf,hx,hy,hz⟩
theorem YB{v:Value}{lo hi:Option Int}(h:ani P n p e=some (v,lo,hi,k)):∃T x y z E sz bL zz ag d Ct z2 ag2,p.op= .slice T x y z none∧TF P T (.slice E) sz bL zz ag∧TF P E d k Ct z2 ag2∧bE n e x=some v∧FM n e y=some lo∧FM n e z=some hi:=by
 unfold ani at h
 split at h<;>try (cases h;done)
 rename_i aC
 split at h<;>try (cases h;done)
 rename_i dS
 obtain⟨bL,tf⟩:=ay dS
 split at h<;>try (cases h;done)
 rename_i te tX
 obtain⟨Ct,rM⟩:=ay tX
 split at h<;>try (cases h;done)
 rename_i hx
 split at h<;>try (cases h;done)
 rename_i hy
 split at h<;>try (cases h;done)
 rename_i hz
 cases h
 exact⟨_,_,_,_,_,_,_,_,_,_,_,_,_,aC,tf,rM,hx,hy,hz⟩
theorem jtB(hl:0≤lo∧lo≤hi∧hi≤b.size)(hj:J X (j8 (.string (b.extract lo.toNat hi.toNat)) o))(hv:dE X.n (ae3 X.P X.n) o=some (b,some lo,some hi):=by kernel_rfl):J X o:=by
 refine Uo hv (fun s p e _ hf=>?_) hj
 obtain⟨T,x,y,z,sz,bL,zz,ag,aC,tf,hx,hy,hz⟩:=NR hf
 obtain⟨y,k,rfl,H4⟩:=nZ hy
 obtain⟨z,k',rfl,hz1⟩:=nZ hz
 rcases p with ⟨dst,op,ty,pos,dt,g⟩
 dsimp only at aC;subst aC
 exact fun s0 ops i ub rest hw s' hs todo Q hk=>VS X.hC ub hw tf (bB hx) (bB H4) (bB hz1) hl hk
theorem jtH(hl:0≤hi∧hi≤b.size)(hj:J X (j8 (.string (b.extract 0 hi.toNat)) o))(hv:dE X.n (ae3 X.P X.n) o=some (b,none,some hi):=by kernel_rfl):J X o:=by
 refine Uo hv (fun s p e _ hf=>?_) hj
 obtain⟨T,x,y,z,sz,bL,zz,ag,aC,tf,hx,hy,hz⟩:=NR hf
 have hy:=DF hy;subst hy
 obtain⟨z,k',rfl,hz1⟩:=nZ hz
 rcases p with ⟨dst,op,ty,pos,dt,g⟩
 dsimp only at aC;subst aC
 exact fun s0 ops i ub rest hw s' hs todo Q hk=>RP X.hC ub hw tf (bB hx) (bB hz1) hl hk
theorem jtL(hl:0≤lo∧lo≤b.size)(hj:J X (j8 (.string (b.extract lo.toNat b.size)) o))(hv:dE X.n (ae3 X.P X.n) o=some (b,some lo,none):=by kernel_rfl):J X o:=by
 refine Uo hv (fun s p e _ hf=>?_) hj
 obtain⟨T,x,y,z,sz,bL,zz,ag,aC,tf,hx,hy,hz⟩:=NR hf
 have hz:=DF hz;subst hz
 obtain⟨y,k,rfl,H4⟩:=nZ hy
 rcases p with ⟨dst,op,ty,pos,dt,g⟩
 dsimp only at aC;subst aC
 exact fun s0 ops i ub rest hw s' hs todo Q hk=>RN X.hC ub hw tf (bB hx) (bB H4) hl hk
theorem jcH{v:Value}{enc:α→List Value}{ps:List α}(hs:bJ X.ro v sz enc ps)(hl:0≤hi∧hi≤ps.length)(hj:∀v',bJ X.ro v' sz enc (ps.take hi.toNat)→J X (j8 v' o))(hv:dE X.n (ani X.P X.n) o=some (v,none,some hi,sz):=by kernel_rfl):J X o:=by
 obtain⟨a,b,off,cap,rfl,h2,h3,h4⟩:=id hs
 have hp:=bJ.part hs (l:=0) (h:=hi.toNat) (by omega) (by omega)
 rw[List.drop_zero] at hp
 refine Uo hv (fun s p e _ hf=>?_) (hj _ hp)
 obtain⟨T,x,y,z,E,s1,bL,zz,ag,d,Ct,z2,ag2,aC,tf,rM,hx,hy,hz⟩:=YB hf
 have hy:=DF hy;subst hy
 obtain⟨z,k',rfl,hz1⟩:=nZ hz
 rcases p with ⟨dst,op,ty,pos,dt,g⟩
 dsimp only at aC;subst aC
 intro s0 ops i ub rest hw s' nH todo Q hk
 refine cd X.hC ub hw (by simp) ?_
 have hb:0≤hi∧hi≤(cap:Int):=by omega
 have fE:(0:Int)≤0∧(0:Int)≤(hi.toNat:Int):=by omega
 rw[←bu] at hk
 simp only[execOp,Option.map_some,Option.map_none,Instr.sliceAt,Instr.slice,aH (bB (rest:=rest) hx),aH (bB (rest:=rest) hz1),ae,bk tf,Instr.sliceBounds,Instr.sliceBound,asIntOf,ah,hb,fE,and_self,if_true,cy rM]
 exact hk
theorem jcB{v:Value}{enc:α→List Value}{ps:List α}(hs:bJ X.ro v sz enc ps)(hl:0≤lo∧lo≤hi∧hi≤ps.length)(hj:∀v',bJ X.ro v' sz enc ((ps.take hi.toNat).drop lo.toNat)→J X (j8 v' o))(hv:dE X.n (ani X.P X.n) o=some (v,some lo,some hi,sz):=by kernel_rfl):J X o:=by
 obtain⟨a,b,off,cap,rfl,h2,h3,h4⟩:=id hs
 have hp:=bJ.part hs (l:=lo.toNat) (h:=hi.toNat) (by omega) (by omega)
 refine Uo hv (fun s p e _ hf=>?_) (hj _ hp)
 obtain⟨T,x,y,z,E,s1,bL,zz,ag,d,Ct,z2,ag2,aC,tf,rM,hx,hy,hz⟩:=YB hf
 obtain⟨y,k,rfl,H4⟩:=nZ hy
 obtain⟨z,k',rfl,hz1⟩:=nZ hz
 rcases p with ⟨dst,op,ty,pos,dt,g⟩
 dsimp only at aC;subst aC
 intro s0 ops i ub rest hw s' nH todo Q hk
 refine cd X.hC ub hw (by simp) ?_
 have hb:0≤hi∧hi≤(cap:Int):=by omega
 have fE:0≤lo∧lo≤(hi.toNat:Int):=by omega
 rw[←bu] at hk
 simp only[execOp,Option.map_some,Option.map_none,Instr.sliceAt,Instr.slice,aH (bB (rest:=rest) hx),aH (bB (rest:=rest) H4),aH (bB (rest:=rest) hz1),ae,bk tf,Instr.sliceBounds,Instr.sliceBound,asIntOf,ah,hb,fE,and_self,if_true,cy rM]
 exact hk
def lnV(P:Program)(n:Nat)(p:Oper)(e:Env):Option Value:=match p.op with
 | .call ⟨.builtin .len,⟨[x]⟩,⟨[T]⟩⟩=>bif H3 P T then bE n e x else none
 |_=>none
theorem FP{v:Value}{enc:α→List Value}{ps:List α}{L:Cells}(jm:aA v sz T2 enc ps L)(hj:J X (j8 (.int .i64 ps.length) o))(hv:dE X.n (lnV X.P X.n) o=some v:=by kernel_rfl):J X o:=by
 refine Uo hv (fun s p e _ hf=>?_) hj
 unfold lnV at hf
 split at hf<;>try (cases hf;done)
 rename_i x T aC
 cases hT:H3 X.P T with
 |false=>rw[hT] at hf;cases hf
 |true=>
  rw[hT] at hf;simp only[cond_true] at hf
  obtain⟨E,s1,bL,z,ag,tf⟩:=H2 hT
  rcases p with ⟨dst,op,ty,pos,dt,g⟩
  dsimp only at aC;subst aC
  exact fun s0 ops i ub rest hw s' hs todo Q hk=>agk X.hC ub hw tf (bB hf) jm hk
def VW(ps:List Nat)(v:Value)(L':Cells):Option JS→Option JS:=nq ps v L'
theorem Zh{ops:Array Oper}{k:List KI}{w:List Sg}{kn:Kn}{ps:List Nat}{v:Value}{L':Cells}(ho:ops[i]?=some p):VW ps v L' (some ⟨.ops ops (i::todo) k,e,w,kn⟩)=some ⟨.ops ops todo k,upd p.dst v e,.l L'::dL ps 0 w,kn⟩:=by
 unfold VW
 simp only[oH ho]
def anf(P:Program)(n:Nat)(p:Oper)(e:Env):Option (Addr×List Value×Nat):=match p.op with
 | .store T x y=>match a8 P T with
  |some ti=>match bE n e x with
   |some (.pointer (some a))=>match bE n e y with
    |some v=>some (a,ep v,ti.size)
    |none=>none
   |_=>none
  |none=>none
 |_=>none
theorem Yy{a:Addr}(h:anf P n p e=some (a,l,sz)):∃T x y d bL z ag v,p.op= .store T x y∧TF P T d sz bL z ag∧bE n e x=some (.pointer (some a))∧bE n e y=some v∧v.cells=⟨l⟩:=by
 unfold anf at h
 split at h<;>try (cases h;done)
 rename_i aC
 split at h<;>try (cases h;done)
 rename_i ti dS
 obtain⟨bL,tf⟩:=ay dS
 split at h<;>try (cases h;done)
 rename_i hx
 split at h<;>try (cases h;done)
 rename_i hy
 cases h
 exact⟨_,_,_,_,_,_,_,_,aC,tf,hx,hy,by rw[mP]⟩
theorem Qc{v:Value}{enc:α→List Value}{ps:List α}{L:Cells}{b:Nat}{a:α}(i f:Nat)(c:List Value)(e:α)(jm:aA v sz E enc ps L)(hb:Lc v b)(hk:ps[k]?=some a) (he:enc e=dK (enc a) f c) (h1:c.all single=true) (hf:f+c.length≤sz) (hj:∀L',aA v sz E enc (ps.set k e) L'→J X (VW [i] undef L' o)) (hv:e8 X.n (anf X.P X.n) o=some (⟨b,k*sz+f,none⟩,c,c.length):=by kernel_rfl) (h2:dO [i] o=some L:=by kernel_rfl):J X o:=by
 obtain⟨ops,i0,todo,kk,ev,w,kn,p,rfl,ho,hw,hc⟩:=dJ hv
 obtain⟨T,x,y,d,bL,z,ag,u,aC,tf,hx,hy,hu⟩:=Yy hc
 intro cv
 rcases p with ⟨dst,op,ty,pos,dt,g⟩
 dsimp only at aC;subst aC
 refine w9 X.hC (bO h2)<|aEQ X.hC ho hw tf hx hy hu rfl (List.all_eq_true.1 h1) jm hb hk he hf fun L' hL'=>?_
 have:=hj L' hL'
 rw[Zh ho] at this
 have:=this cv
 simp only[JP,gZ] at this
 exact this
def apV(P:Program)(n:Nat)(p:Oper)(e:Env):Option (Value×Value×TypeId×Nat):=match p.op with
 | .call ⟨.builtin .append,⟨[x,y]⟩,⟨[T,U]⟩⟩=>match a8 P T with
  |some ⟨.slice E,_,_,_⟩=>bif H3 P U then (match a8 P E with
   |some te=>match P.info? E with
    |some ie=>bif Nat.beq te.zero.length te.size&&Nat.ble ie.bytes 65536 then (match bE n e x with
     |some v=>match bE n e y with
      |some w=>some (v,w,E,te.size)
      |none=>none
     |none=>none) else none
    |none=>none
   |none=>none) else none
  |_=>none
 |_=>none
theorem az2{v w:Value}(h:apV P n p e=some (v,w,E,sz)):∃x y T U s1 b1 z1 a1 E2 s2 b2 z2 a2 d bL z ag,p.op= .call ⟨.builtin .append,#[x,y],#[T,U]⟩∧TF P T (.slice E) s1 b1 z1 a1∧TF P U (.slice E2) s2 b2 z2 a2∧TF P E d sz bL z ag∧z.length=sz∧bL≤65536∧bE n e x=some v∧bE n e y=some w:=by
 unfold apV at h
 split at h<;>try (cases h;done)
 rename_i x y T U aC
 split at h<;>try (cases h;done)
 rename_i E' _ _ _ dS
 obtain⟨b1,tf1⟩:=ay dS
 cases hU:H3 P U with
 |false=>rw[hU] at h;cases h
 |true=>
  rw[hU] at h;simp only[cond_true] at h
  obtain⟨E2,s2,b2,z2,a2,rM⟩:=H2 hU
  split at h<;>try (cases h;done)
  rename_i te tX
  obtain⟨b3,tf3⟩:=ay tX
  split at h<;>try (cases h;done)
  rename_i ie hie
  cases hb:(Nat.beq te.zero.length te.size&&Nat.ble ie.bytes 65536) with
  |false=>rw[hb] at h;cases h
  |true=>
   rw[hb] at h;simp only[cond_true] at h
   split at h<;>try (cases h;done)
   rename_i hx
   split at h<;>try (cases h;done)
   rename_i hy
   simp only[Option.some.injEq,Prod.mk.injEq] at h
   obtain⟨rfl,rfl,rfl,rfl⟩:=h
   simp only[Bool.and_eq_true,Nat.ble_eq] at hb
   obtain⟨i2,g1,_,g3,_⟩:=tf3.info
   rw[hie] at g1;cases g1
   exact⟨x,y,T,U,_,b1,_,_,E2,s2,b2,z2,a2,_,b3,_,_,aC,tf1,rM,tf3,Nat.eq_of_beq_eq_true hb.1,by omega,hx,hy⟩
theorem BS{v w:Value}{enc:α→List Value}{ps qs:List α}{L:Cells}(is lp:List Nat)(B:Cells)(jm:aA v sz E enc ps L)(MQ:∀s:St,Ext ⟨X.ro,[]⟩ s→(∀x∈B,s.has x.1 x.2)→Sl s w sz enc qs)(hq:∀p∈qs,∀c∈enc p,single c=true)(hb:ps.length+qs.length≤1048576)(hj:∀v' L',aA v' sz E enc (ps++qs) L'→J X (VW is v' L' o))
 (hv:e8 X.n (apV X.P X.n) o=some (v,w,E,sz):=by kernel_rfl)(h2:dO is o=some L:=by kernel_rfl)(h3:dO lp o=some B:=by kernel_rfl):J X o:=by
 obtain⟨ops,i0,todo,kk,ev,w0,kn,p,rfl,ho,hw,hc⟩:=dJ hv
 obtain⟨x,y,T,U,s1,b1,z1,a1,E2,s2,b2,z2,a2,d,bL,z,ag,aC,tf1,rM,tf3,hz,hby,hx,hy⟩:=az2 hc
 intro cv
 rcases p with ⟨dst,op,ty,pos,dt,g⟩
 dsimp only at aC;subst aC
 have hp:=bO h2
 refine w9 X.hC hp<|oap X.hC ho hw tf1 rM tf3 hz hx hy jm (MQ _ Po fun u hu=>?_) hq ⟨hb,hby⟩ fun v' L' hL'=>?_
 ·rcases TJ (X:=X) h3 u hu with h|h
  ·exact .inl h
  exact .inr (hp.mem_iff.1 h)
 have:=hj v' L' hL'
 rw[Zh ho] at this
 have:=this cv
 simp only[JP,gZ] at this
 exact this
theorem aTH{w:Value}(enc:α→List Value){qs:List α}(lp:List Nat)(B:Cells)(MQ:∀s:St,Ext ⟨X.ro,[]⟩ s→(∀x∈B,s.has x.1 x.2)→Sl s w sz enc qs)(hq:∀p∈qs,∀c∈enc p,single c=true)(hb:qs.length≤1048576)(hj:∀v' L',aA v' sz E enc qs L'→J X (VW [] v' L' o))
 (hv:e8 X.n (apV X.P X.n) o=some (.slice none 0 0,w,E,sz):=by kernel_rfl)(h3:dO lp o=some B:=by kernel_rfl)(h2:dO [] o=some []:=by kernel_rfl):J X o:=
 BS (ps:=[]) [] lp B (aA.nil sz E enc) MQ hq (by simpa using hb) (fun v' L' h=>hj v' L' h) hv h2 h3
end
attribute [irreducible] VW
section
variable {X:Cx} {o:Option JS}
def nxV(n:Nat)(p:Oper)(e:Env):Option Nat:=match p.op with
 | .next x true=>match bE n e x with
  |some (.pointer (some ⟨r,0,none⟩))=>some r
  |_=>none
 |_=>none
theorem agq(h:nxV n p e=some r):∃x,p.op= .next x true∧bE n e x=some (.pointer (some ⟨r,0,none⟩)):=by
 unfold nxV at h
 split at h<;>try (cases h;done)
 rename_i aC
 split at h<;>try (cases h;done)
 rename_i hx
 cases h
 exact⟨_,aC,hx⟩
def Vm(i:Nat)(v:Value)(b:Nat)(ob:Obj):Option JS→Option JS
 |some ⟨.ops ops (j::todo) k,e,w,kn⟩=>match ops[j]? with
  |some p=>some ⟨.ops ops todo k,upd p.dst v e,.b b ob::dL [i] 0 w,kn⟩
  |none=>none
 |_=>none
theorem jnA{p:Nat}{c:UInt8}(r i:Nat)(hp:b.data.toList[p]?=some c) (ha:c.toNat <128) (hj:J X (Vm i (.tuple ⟨[.bool true,.int .i64 p,.int .i32 c.toNat]⟩) r (.stringIter b (p+1)) o))
 (hv:e8 X.n (nxV X.n) o=some r:=by kernel_rfl) (hB:dO [i] o=some [(r,.stringIter b p)]:=by kernel_rfl):J X o:=by
 obtain⟨ops,i0,todo,kk,ev,w0,kn,q,rfl,ho,hw,hc⟩:=dJ hv
 obtain⟨x,aC,hx⟩:=agq hc
 intro cv
 rcases q with ⟨dst,op,ty,pos,dt,g⟩
 dsimp only at aC;subst aC
 refine w9 X.hC (bO hB) (anY X.hC ho hw hx hp ha ?_)
 simp only[Vm,ho] at hj
 have:=hj cv
 simp only[JP,jq] at this
 exact this
theorem jnZ{p:Nat}(r i:Nat)(hp:b.data.toList[p]?=none) (hj:J X (Vm i (.tuple ⟨[.bool false]⟩) r (.stringIter b p) o))
 (hv:e8 X.n (nxV X.n) o=some r:=by kernel_rfl) (hB:dO [i] o=some [(r,.stringIter b p)]:=by kernel_rfl):J X o:=by
 obtain⟨ops,i0,todo,kk,ev,w0,kn,q,rfl,ho,hw,hc⟩:=dJ hv
 obtain⟨x,aC,hx⟩:=agq hc
 intro cv
 rcases q with ⟨dst,op,ty,pos,dt,g⟩
 dsimp only at aC;subst aC
 refine w9 X.hC (bO hB) (anX X.hC ho hw hx hp ?_)
 simp only[Vm,ho] at hj
 have:=hj cv
 simp only[JP,jq] at this
 exact this
theorem jcG{own:Cells}{Φ:Value→(Nat→Option Obj)→Cells→Prop}(ps:List Nat)(hf:FnG X.P f vs X.ro own Φ)(hj:∀v aF Y,Sub X.ro aF→Φ v aF Y→J (X.at aF) (nq ps v Y o))(h1:e8 X.n (zt X.P X.n) o=some (f,vs):=by kernel_rfl)(h2:dO ps o=some own:=by kernel_rfl):J X o:=by
 obtain⟨ops,i,todo,k,e,w,kn,p,rfl,ho,hw,hc⟩:=dJ h1
 obtain⟨ff,x,xs,at_,fi,ca,ws,aC,hx,td,rfl⟩:=rB hc
 intro cv
 rcases p with ⟨dst,op,ty,pos,dt,g⟩
 dsimp only at aC;subst aC
 have hp:=bO h2
 refine u3 (fi:=⟨fi⟩) (ca:=⟨ca⟩) (ws:=fi++ws++ca) X.hC ho hw hx ff td (T4 fi ws ca) (Fn.weaken X.hC (FnG.use (s:=⟨X.ro,den w⟩) hp hf)) (fun v' s' hr=>?_) (fun ch s' hr=>by obtain⟨_,_,_,e,_⟩:=hr;cases e) (fun s' hr=>by obtain⟨_,_,_,e,_⟩:=hr;cases e)
 obtain⟨v,aF,Y,hv,hs,ql,hle⟩:=hr
 cases hv
 have:=hj _ aF Y hs ql
 rw[oH ho] at this
 have:=this (cv.up hs)
 simp only[JP,gZ,JD] at this
 exact this.more X.hC hle
def aku(n:Nat)(p:Oper)(e:Env):Option (FuncId×List Value):=match p.op with
 | .call ⟨.value (.func f),xs,_⟩=>match y5 n e xs.toList with
  |some vs=>some (f,vs)
  |none=>none
 |_=>none
theorem Pp(h:aku n p e=some (f,vs)):∃xs at_,p.op= .call ⟨.value (.func f),xs,at_⟩∧y5 n e xs.toList=some vs:=by
 unfold aku at h
 split at h<;>try (cases h;done)
 rename_i aC
 split at h<;>try (cases h;done)
 rename_i hx
 cases h
 exact⟨_,_,aC,hx⟩
theorem jib{a:ByteArray}{b:Int}(ef:EF X.P f Extern.BytealgIndexByte.indexByte)(hj:J X (j8 (.int .i64 (Sm a b.toNat.toUInt8)) o))(hv:dE X.n (aku X.n) o=some (f,[.string a,.int .u8 b]):=by kernel_rfl):J X o:=by
 refine jGS hv (fun s p e _ hf=>?_) hj
 obtain⟨xs,at_,aC,hx⟩:=Pp hf
 rcases p with ⟨dst,op,ty,pos,dt,g⟩
 dsimp only at aC;subst aC
 exact⟨fun ops i ub rest hw s' hs todo Q hk=>agl X.hC ub hw ef (yy hx) hk,fun hk=>by cases hk⟩
theorem aTv{v:Value}(ef:EF X.P f Extern.AbiNoEscape.same)(hj:J X (j8 v o))(hv:dE X.n (aku X.n) o=some (f,[v]):=by kernel_rfl):J X o:=by
 refine jGS hv (fun s p e _ hf=>?_) hj
 obtain⟨xs,at_,aC,hx⟩:=Pp hf
 rcases p with ⟨dst,op,ty,pos,dt,g⟩
 dsimp only at aC;subst aC
 exact⟨fun ops i ub rest hw s' hs todo Q hk=>anW X.hC ub hw ef (yy hx) hk,fun hk=>by cases hk⟩
def mmV(n:Nat)(p:Oper)(e:Env):Option (Bool×Value×Value):=match p.op with
 | .call ⟨.builtin .min,⟨[x,y]⟩,⟨[_,_]⟩⟩=>match bE n e x with
  |some v=>match bE n e y with
   |some w=>some (true,v,w)
   |none=>none
  |none=>none
 | .call ⟨.builtin .max,⟨[x,y]⟩,⟨[_,_]⟩⟩=>match bE n e x with
  |some v=>match bE n e y with
   |some w=>some (false,v,w)
   |none=>none
  |none=>none
 |_=>none
theorem jmn{k:IntKind}{a b:Int}(hj:J X (j8 (.int k (min a b)) o))(hv:dE X.n (mmV X.n) o=some (true,.int k a,.int k b):=by kernel_rfl):J X o:=by
 refine Uo hv (fun s p e _ hf=>?_) hj
 unfold mmV at hf
 split at hf<;>try (cases hf;done)
 ·rename_i aC
  split at hf<;>try (cases hf;done)
  rename_i hx
  split at hf<;>try (cases hf;done)
  rename_i hy
  cases hf
  rcases p with ⟨dst,op,ty,pos,dt,g⟩
  dsimp only at aC;subst aC
  exact fun s0 ops i ub rest hw s' hs todo Q hk=>avs X.hC ub hw (bB hx) (bB hy) hk
 split at hf<;>try (cases hf;done)
 split at hf<;>cases hf
theorem jmx{k:IntKind}{a b:Int}(hj:J X (j8 (.int k (max a b)) o))(hv:dE X.n (mmV X.n) o=some (false,.int k a,.int k b):=by kernel_rfl):J X o:=by
 refine Uo hv (fun s p e _ hf=>?_) hj
 unfold mmV at hf
 split at hf<;>try (cases hf;done)
 ·split at hf<;>try (cases hf;done)
  split at hf<;>cases hf
 rename_i aC
 split at hf<;>try (cases hf;done)
 rename_i hx
 split at hf<;>try (cases hf;done)
 rename_i hy
 cases hf
 rcases p with ⟨dst,op,ty,pos,dt,g⟩
 dsimp only at aC;subst aC
 exact fun s0 ops i ub rest hw s' hs todo Q hk=>avt X.hC ub hw (bB hx) (bB hy) hk
theorem jsx(i b off:Nat)(c l:List Value)(t:TypeId)(h1:∀v∈l,single v=true)(hb:Nat.ble (off+l.length) c.length=true)(hj:J X (Vm i undef b (.cells ⟨dK c off l⟩ t (0,0)) o))(hv:e8 X.n (anf X.P X.n) o=some (⟨b,off,none⟩,l,l.length):=by kernel_rfl)(h2:dO [i] o=some [(b,.cells ⟨c⟩ t (0,0))]:=by kernel_rfl):J X o:=by
 obtain⟨ops,i0,todo,kk,ev,w,kn,p,rfl,ho,hw,hc⟩:=dJ hv
 obtain⟨T,x,y,d,bL,z,ag,u,aC,tf,hx,hy,hu⟩:=Yy hc
 intro cv
 rcases p with ⟨dst,op,ty,pos,dt,g⟩
 dsimp only at aC;subst aC
 refine w9 X.hC (bO h2)<|ost X.hC ho hw tf hx hy hu rfl h1 (Nat.le_of_ble_eq_true hb) ?_
 simp only[Vm,ho] at hj
 have:=hj cv
 simp only[JP,jq] at this
 exact this
def aiV(P:Program)(n:Nat)(p:Oper)(e:Env):Option (List Value×Int×Nat×Nat×Bool):=match p.op with
 | .index T x y=>match a8 P T with
  |some ⟨.array len E,_,_,_⟩=>match a8 P E with
   |some te=>match bE n e x with
    |some (.agg ⟨l⟩)=>match bE n e y with
     |some (.int _ ix)=>some (l,ix,len,te.size,te.agg)
     |_=>none
    |_=>none
   |none=>none
  |_=>none
 |_=>none
theorem jai{v:Value}(ix:Int)(len sz:Nat)(ag:Bool)(hi:0≤ix∧ix <len)(hp:HD ag l (ix.toNat*sz) sz=some v)(hj:J X (j8 v o))(hv:dE X.n (aiV X.P X.n) o=some (l,ix,len,sz,ag):=by kernel_rfl):J X o:=by
 refine Uo hv (fun s p e _ hf=>?_) hj
 unfold aiV at hf
 split at hf<;>try (cases hf;done)
 rename_i aC
 split at hf<;>try (cases hf;done)
 rename_i dS
 split at hf<;>try (cases hf;done)
 rename_i te tX
 split at hf<;>try (cases hf;done)
 rename_i hx
 split at hf<;>try (cases hf;done)
 rename_i hy
 cases hf
 obtain⟨b1,tf⟩:=ay dS
 obtain⟨b2,rM⟩:=ay tX
 rcases p with ⟨dst,op,ty,pos,dt,g⟩
 dsimp only at aC;subst aC
 exact fun s0 ops i ub rest hw s' hs todo Q hk=>agm X.hC ub hw tf rM (bB hx) (bB hy) hi hp hk
def uj(m:Nat)(e:Env):Option JS→Option JS
 |some ⟨.ops ops todo k,_,w,kn⟩=>some ⟨.ops ops (todo.drop m) k,e,w,kn⟩
 |_=>none
theorem jj(m:Nat)(e:Env)(hj:∀rest,J X (uj m (e++rest) o))(h:(∀o',uj 0 [] o'=uj m [] o→oR (lU e) o'=some e→J X o')→J X o)(hd:lkE (lU e) e=some e:=by kernel_rfl):J X o:=by
 refine h fun o' h1 h2=>?_
 cases o' with
 |none=>simp[oR] at h2
 |some s'=>
  rcases s' with ⟨p',e',w',kn'⟩
  cases o with
  |none=>exact(hj []).elim
  |some s=>
   rcases s with ⟨p,e0,w,kn⟩
   cases p' with
   |ops bia aeL k'=>
    cases p with
    |ops ops todo k=>
     simp only[uj,Option.some.injEq,JS.mk.injEq,Pos.ops.injEq,List.drop_zero,true_and] at h1
     obtain⟨⟨rfl,rfl,rfl⟩,rfl,rfl⟩:=h1
     rw[tU] at h2
     obtain⟨r,hr⟩:=gI (n:=X.n) (D:=X.D) (lf h2) (lf hd)
     intro cv
     have:=hj r cv
     show ai _ _ _ _ _ _ (A X.n e' X.D) _
     rw[hr]
     exact this
    |_=>simp[uj] at h1
   |_=>cases p<;>simp[uj] at h1<;>exact(hj []).elim
end
attribute [irreducible] uj Vm
section
variable {X:Cx} {o:Option JS}
def avM(i:Nat)(rest:Env)(todo:List Nat):Option JS→Option JS
 |some ⟨.I1 ops base Pl _ k,_,w,kn⟩=>some ⟨.ops ops (i::todo) k,cE ops base i Pl++rest,w,kn⟩
 |_=>none
def LK(X:Cx)(i:Nat)(o:Option JS)(rest:Env)(todo:List Nat):Prop:=match o with
 |some ⟨.I1 ops base Pl Sl k,_,w,kn⟩=>∀v s',(∀j u,(j,u)∈pending ops i Sl→tN ops X.n base Pl j=false→(∀B,(j,B)∈kn.nd→Ext ⟨X.ro,[]⟩ s'→(∀x∈B,s'.has x.1 x.2)→fp X.C X.fn X.aD ops X.n X.D j u (cE ops base j Pl) s')→fp X.C X.fn X.aD ops X.n X.D j u (cE ops base j Pl) ⟨X.ro,den w⟩→fp X.C X.fn X.aD ops X.n X.D j u (cE ops base j Pl) s')→
  (PF X kn.nd ops base ((i,v)::Pl) (pending ops i Sl)→ux X.C X.fn X.aD ops X.n X.D base ((i,v)::Pl) (pending ops i Sl) (KQ X k) s')→ai X.C X.fn X.aD ops todo (KQ X k) (A X.n (upd (aT ops i) v (cE ops base i Pl++rest)) X.D) s'
 |_=>True
def Zs(is:List Nat):Option JS→Bool
 |some ⟨.I1 ops _ Pl Sl _,_,_,_⟩=>fY ops&&((is.all fun i=>Nat.blt i ops.size&& !bA i (au Pl))&&(nodupB (au Pl)&&(pQ ops (au Pl)&&(fZ (au Sl) (au Pl)&&(age ops (au Pl) is&& !is.isEmpty)))))
 |_=>false
def alF(X:Cx)(o:Option JS):List Nat→Prop
 | []=>True
 |i::is=>(∀rest todo,LK X i o rest todo→J X (avM i rest todo o))∧alF X o is
theorem ze(is:List Nat)(h:alF X o is)(hb:Zs is o=true:=by kernel_rfl):J X o:=by
 unfold Zs at hb
 split at hb<;>try (cases hb;done)
 rename_i ops base Pl Sl k e w kn
 simp only[Bool.and_eq_true,Bool.not_eq_true'] at hb
 obtain⟨h1,h2,h3,h4,h5,h6,h7⟩:=hb
 intro cv hpf
 refine adw is h1 h2 h3 h4 h5 h6 ?_ h7
 clear h6 h7
 induction is with
 |nil=>trivial
 |cons i is ih=>
  simp only[List.all_cons,Bool.and_eq_true,Bool.not_eq_true'] at h2
  refine⟨fun rest todo hk=>h.1 rest todo (fun v s' hp ha=>?_) cv,ih h.2 h2.2⟩
  have jM:∀x,x∈pending ops i Sl→x∈Sl:=fun x hx=>(List.mem_filter.1 hx).1
  refine hk v s' (fun j u JR cg=>?_) (ha ⟨fun j u JR hpb s0=>?_,fun j u B JR hB s0 H9 wA=>?_⟩)
  ·cases hpb:tN ops X.n base Pl j with
   |true=>exact hpf.1 j u (jM _ JR) hpb s'
   |false=>exact hp j u JR hpb (fun B hB hx hb=>hpf.2 j u B (jM _ JR) hB s' hx hb) cg
  ·have Qh:j∈au Sl:=aR.2 ⟨u,jM _ JR⟩
   have rK:i∉bG ops j:=fun hd=>by
    have h8:=bR.1 h5 j Qh
    have h9:=bR.1 (List.all_eq_true.1 h4 j h8) i hd
    rw[aL.2 h9] at h2;exact absurd h2.1.2 (by simp)
   rw[da rK]
   exact hpf.1 j u (jM _ JR) (by simp only[tN,da rK] at hpb;exact hpb) s0
  have Qh:j∈au Sl:=aR.2 ⟨u,jM _ JR⟩
  have rK:i∉bG ops j:=fun hd=>by
   have h8:=bR.1 h5 j Qh
   have h9:=bR.1 (List.all_eq_true.1 h4 j h8) i hd
   rw[aL.2 h9] at h2;exact absurd h2.1.2 (by simp)
  rw[da rK]
  exact hpf.2 j u B (jM _ JR) hB s0 H9 wA
theorem aP(i:Nat)(h:∀rest todo,LK X i o rest todo→J X (avM i rest todo o))(hb:Zs [i] o=true:=by kernel_rfl):J X o:=ze [i] ⟨h,trivial⟩ hb
def XP(i:Nat):Option JS→Option JS→Option JS
 |some ⟨.I1 ops base Pl Sl k,e,_,kn⟩,some ⟨.ops _ _ _,e',w',kn'⟩=>some ⟨.I1 ops base ((i,match aT ops i with
  |some d=>(iD e' d).getD undef
  |none=>undef)::Pl) (pending ops i Sl) k,e,w',⟨kn'.c,kn.nd⟩⟩
 |_,_=>none
def bkL(i:Nat)(rest:Env)(todo:List Nat):Option JS→Option JS→Option JS
 |some ⟨.I1 ops base Pl _ k,_,_,_⟩,some ⟨_,e',w',kn'⟩=>some ⟨.ops ops todo k,upd (aT ops i) (match aT ops i with
  |some d=>(iD e' d).getD undef
  |none=>undef) (cE ops base i Pl++rest),w',kn'⟩
 |_,_=>none
theorem XK(h:bkL i rest todo o o1=o1)(h1:o1≠none):∃ops base Pl Sl k e w kn v w' kn',o=some ⟨.I1 ops base Pl Sl k,e,w,kn⟩∧o1=some ⟨.ops ops todo k,upd (aT ops i) v (cE ops base i Pl++rest),w',kn'⟩:=by
 unfold bkL at h
 split at h
 ·simp only[Option.some.injEq,JS.mk.injEq] at h
  obtain⟨rfl,h,_⟩:=h
  exact⟨_,_,_,_,_,_,_,_,_,_,_,rfl,by rw[h]⟩
 exact(h1 h.symm).elim
def rwO:Option JS→List Sg
 |some s=>s.rw
 |none=>[]
theorem dW(hK:LK X i o rest todo)(is:List Nat)(hj:J X (XP i o o1))(hc:bkL i rest todo o o1=o1:=by kernel_rfl)(h2:p7 is o1=some (rwO o):=by kernel_rfl):J X o1:=by
 by_cases dQ:o1=none
 ·subst dQ
  cases o with
  |none=>exact hj
  |some s=>rcases s with ⟨p,e,w,kn⟩;cases p<;>exact hj
 obtain⟨kR,base,Pl,Sl,k,e,w,kn,v,w',kn',rfl,rfl⟩:=XK hc dQ
 intro cv
 have hp:=mr h2
 have hv:(match aT kR i with
  |some d=>(iD (upd (aT kR i) v (cE kR base i Pl++rest)) d).getD undef
  |none=>undef)=v∨aT kR i=none:=by
  cases hd:aT kR i with
  |none=>exact .inr rfl
  |some d=>left;simp[upd,iD]
 have hj:=hj cv
 simp only[XP,JP] at hj
 have key:=hK (match aT kR i with
  |some d=>(iD (upd (aT kR i) v (cE kR base i Pl++rest)) d).getD undef
  |none=>undef) ⟨X.ro,den w'⟩ (fun j u _ _ _ hs=>hs.ext fun b ob hb=>?_) hj
 ·show ai _ _ _ _ _ _ _ _
  rcases hv with hv|hv
  ·rw[hv] at key;exact key
  rw[hv] at key ⊢;exact key
 rcases hb with hb|hb
 ·exact .inl hb
 exact .inr (hp.mem_iff.2 (List.mem_append_left _ hb))
def afZ(i:Nat):Option JS→Bool
 |some ⟨.I1 ops _ _ Sl _,_,_,_⟩=>(pending ops i Sl).isEmpty
 |_=>false
theorem eB(hK:LK X i o rest todo)(hj:J X (XP i o o1))(hc:bkL i rest todo o o1=o1:=by kernel_rfl)(h2:afZ i o=true:=by kernel_rfl):J X o1:=by
 by_cases dQ:o1=none
 ·subst dQ
  cases o with
  |none=>exact hj
  |some s=>rcases s with ⟨p,e,w,kn⟩;cases p<;>exact hj
 obtain⟨kR,base,Pl,Sl,k,e,w,kn,v,w',kn',rfl,rfl⟩:=XK hc dQ
 intro cv
 have hv:(match aT kR i with
  |some d=>(iD (upd (aT kR i) v (cE kR base i Pl++rest)) d).getD undef
  |none=>undef)=v∨aT kR i=none:=by
  cases hd:aT kR i with
  |none=>exact .inr rfl
  |some d=>left;simp[upd,iD]
 have hj:=hj cv
 simp only[XP,JP] at hj
 have hpe:pending kR i Sl=[]:=by simpa [afZ] using h2
 have key:=hK (match aT kR i with
  |some d=>(iD (upd (aT kR i) v (cE kR base i Pl++rest)) d).getD undef
  |none=>undef) ⟨X.ro,den w'⟩ (fun j u JR=>by rw[hpe] at JR;cases JR) hj
 show ai _ _ _ _ _ _ _ _
 rcases hv with hv|hv
 ·rw[hv] at key;exact key
 rw[hv] at key ⊢;exact key
def ndG:List (Nat×Cells)→Nat→Option Cells
 | [],_=>none
 | (i,B)::l,j=>bif Nat.beq i j then some B else ndG l j
theorem Zi{j:Nat}{B:Cells}:∀ {l:List (Nat×Cells)},ndG l j=some B→(j,B)∈l
 | (i,C)::l,h=>by
  simp only[ndG] at h
  cases hb:Nat.beq i j with
  |true=>
   rw[hb] at h;simp only[cond_true,Option.some.injEq] at h;subst h
   have:=Nat.eq_of_beq_eq_true hb;subst this
   exact List.mem_cons_self
  |false=>rw[hb] at h;simp only[cond_false] at h;exact List.mem_cons_of_mem _ (Zi h)
structure Rk where
 a:List Value
 b:List Value
 c:List (Option Cells)
 d:List (Option Cells)
def aKL(ps:List Nat)(w:List Sg):Option Cells:=bif HG ps then (match Rv ps w with
 |some x=>some (den x)
 |none=>none) else none
def rkL(P:Program)(n:Nat)(ops:Array Oper)(base:Env)(Pl:List (Nat×Value))(nd:List (Nat×Cells))(w:List Sg)(kn:Cells):List (List Nat)→List (Nat×Value)→Option Rk
 |_,[]=>some ⟨[],[],[],[]⟩
 |hs,(j,u)::r=>bif tN ops n base Pl j then rkL P n ops base Pl nd w kn hs r else (match hs with
  |h::hs=>match ndG nd j with
   |some B=>match rkL P n ops base Pl nd w kn hs r with
    |some ⟨a,b,c,d⟩=>some ⟨a,b,aKL h w::c,some B::d⟩
    |none=>none
   |none=>match ops[j]? with
    |some p=>match xA ops n (cE ops base j Pl) p.guard with
     |some true=>match p.op with
      | .load T x=>match bE n (cE ops base j Pl) x with
       |some (.pointer (some ⟨b,off,none⟩))=>match Cr w kn (h.headD 0) with
        |some (b',l)=>match ldv P T l off with
         |some v=>match rkL P n ops base Pl nd w kn hs r with
          |some ⟨a1,b1,c,d⟩=>some ⟨v:: .int .i64 b'::a1,u:: .int .i64 b::b1,c,d⟩
          |none=>none
         |none=>none
        |none=>none
       |_=>none
      |_=>none
     |_=>none
    |none=>none
  | []=>none)
theorem NY{ops:Array Oper}{base:Env}{Pl:List (Nat×Value)}{nd:List (Nat×Cells)}{w:List Sg}(cv:Knows X.ro kn):∀ {l:List (Nat×Value)} {hs:List (List Nat)} {k:Rk},rkL X.P X.n ops base Pl nd w kn hs l=some k→k.a=k.b→k.c=k.d→∀j u,(j,u)∈l→tN ops X.n base Pl j=false→
 (∀B,(j,B)∈nd→Ext ⟨X.ro,[]⟩ ⟨X.ro,den w⟩→(∀x∈B,(⟨X.ro,den w⟩:St).has x.1 x.2)→fp X.C X.fn X.aD ops X.n X.D j u (cE ops base j Pl) ⟨X.ro,den w⟩)→fp X.C X.fn X.aD ops X.n X.D j u (cE ops base j Pl) ⟨X.ro,den w⟩
 | [],_,_,_,_,_,j,u,h,_,_=>by cases h
 | (j0,u0)::r,hs,k,h,Eh,hcd,j,u,hm,hpj,mJ=>by
  simp only[rkL] at h
  cases hpb:tN ops X.n base Pl j0 with
  |true=>
   rw[hpb] at h;simp only[cond_true] at h
   rcases List.mem_cons.1 hm with h1|h1
   ·cases h1;rw[hpb] at hpj;cases hpj
   exact NY cv h Eh hcd j u h1 hpj mJ
  |false=>
   rw[hpb] at h;simp only[cond_false] at h
   split at h<;>try (cases h;done)
   rename_i h0 cu
   split at h
   ·rename_i B hB
    split at h<;>try (cases h;done)
    rename_i a b c d hr
    cases h
    simp only[List.cons.injEq] at hcd
    rcases List.mem_cons.1 hm with h1|h1
    ·cases h1
     refine mJ B (Zi hB) Po fun x hx=> .inr ?_
     have hw:=hcd.1
     unfold aKL at hw
     cases ho:HG h0 with
     |false=>rw[ho] at hw;cases hw
     |true=>
      rw[ho] at hw;simp only[cond_true] at hw
      split at hw<;>try (cases hw;done)
      rename_i y hy
      simp only[Option.some.injEq] at hw;subst hw
      exact(yg hy ho).mem_iff.2 (List.mem_append_left _ hx)
    exact NY cv hr Eh hcd.2 j u h1 hpj mJ
   split at h<;>try (cases h;done)
   rename_i p hp
   have F5:aT ops j0=p.dst:=by simp only[aT,hp,Option.bind_some]
   split at h<;>try (cases h;done)
   rename_i hg
   split at h<;>try (cases h;done)
   rename_i T x aC
   split at h<;>try (cases h;done)
   rename_i b0 off hx
   split at h<;>try (cases h;done)
   rename_i b' l hc
   split at h<;>try (cases h;done)
   rename_i v hv
   split at h<;>try (cases h;done)
   rename_i a1 b1 c d hr
   cases h
   simp only[List.cons.injEq,Value.int.injEq,true_and] at Eh
   obtain⟨rfl,hb,Eh⟩:=Eh
   have hb:b'=b0:=by omega
   subst hb
   rcases List.mem_cons.1 hm with h1|h1
   ·cases h1
    obtain⟨t,fz,hh⟩:=AY (X:=X) cv hc
    intro s1 D6 rest todo Q hk
    rw[F5] at hk
    exact mv X.hC hp rest (oe hg rest) (by rw[aC];rfl) (ag1 aC hx hh hv) D6 hk
   exact NY cv hr Eh hcd j u h1 hpj mJ
def rkO(P:Program)(n i:Nat)(hs:List (List Nat)):Option JS→Option JS→Option Rk
 |some ⟨.I1 ops base Pl Sl _,_,_,kn⟩,some s1=>rkL P n ops base Pl kn.nd s1.rw s1.kn.c hs (pending ops i Sl)
 |_,_=>none
def rkA:Option Rk→Option (List Value×List (Option Cells))
 |some k=>some (k.a,k.c)
 |none=>some ([],[])
def rkB:Option Rk→Option (List Value×List (Option Cells))
 |some k=>some (k.b,k.d)
 |none=>none
theorem eW(hK:LK X i o rest todo)(hs:List (List Nat))(hj:J X (XP i o o1))(hc:bkL i rest todo o o1=o1:=by kernel_rfl)(h2:rkA (rkO X.P X.n i hs o o1)=rkB (rkO X.P X.n i hs o o1):=by kernel_rfl):J X o1:=by
 by_cases dQ:o1=none
 ·subst dQ
  cases o with
  |none=>exact hj
  |some s=>rcases s with ⟨p,e,w,kn⟩;cases p<;>exact hj
 obtain⟨kR,base,Pl,Sl,k,e,w,kn,v,w',kn',rfl,rfl⟩:=XK hc dQ
 intro cv
 have hv:(match aT kR i with
  |some d=>(iD (upd (aT kR i) v (cE kR base i Pl++rest)) d).getD undef
  |none=>undef)=v∨aT kR i=none:=by
  cases hd:aT kR i with
  |none=>exact .inr rfl
  |some d=>left;simp[upd,iD]
 have hj:=hj cv
 simp only[XP,JP] at hj
 have cg:∀j u,(j,u)∈pending kR i Sl→tN kR X.n base Pl j=false→(∀B,(j,B)∈kn.nd→Ext ⟨X.ro,[]⟩ ⟨X.ro,den w'⟩→(∀x∈B,(⟨X.ro,den w'⟩:St).has x.1 x.2)→fp X.C X.fn X.aD kR X.n X.D j u (cE kR base j Pl) ⟨X.ro,den w'⟩)→fp X.C X.fn X.aD kR X.n X.D j u (cE kR base j Pl) ⟨X.ro,den w'⟩:=by
  simp only[rkO] at h2
  cases hr:rkL X.P X.n kR base Pl kn.nd w' kn'.c hs (pending kR i Sl) with
  |none=>rw[hr] at h2;cases h2
  |some x=>
   rw[hr] at h2
   simp only[rkA,rkB,Option.some.injEq,Prod.mk.injEq] at h2
   exact NY cv hr h2.1 h2.2
 have key:=hK (match aT kR i with
  |some d=>(iD (upd (aT kR i) v (cE kR base i Pl++rest)) d).getD undef
  |none=>undef) ⟨X.ro,den w'⟩ (fun j u JR hpb hn _=>cg j u JR hpb hn) hj
 show ai _ _ _ _ _ _ _ _
 rcases hv with hv|hv
 ·rw[hv] at key;exact key
 rw[hv] at key ⊢;exact key
end
attribute [irreducible] rkO rkA rkB avM Zs XP bkL rwO afZ
abbrev RY(ro:Nat→Option Obj)(Φ:Value→Cells→Prop):Ending→St→Prop:=fun en s'=>∃v X,en= .returned v∧(⟨ro,X⟩:St).le s'∧Φ v X
theorem Round.mono{C:Class}{l:Nat}{f:FuncId}{tm:Array Value}{ab bd:Code}{s:St}{R R':Ending→St→Prop}(h:Round C l f tm ab bd s R)(hr:∀e s,R e s→R' e s):Round C l f tm ab bd s R':=
 fun main T hT c cs k1 k2=>h main T hT c cs (fun v s' hv=>k1 v s' (hr _ _ hv)) (fun ch s' hv=>k2 ch s' (hr _ _ hv))
theorem Round.weaken{C C':Class}(hc:∀main T,C' main T→C main T){l:Nat}{f:FuncId}{tm:Array Value}{ab bd:Code}{s:St}{R:Ending→St→Prop}(h:Round C l f tm ab bd s R):Round C' l f tm ab bd s R:=
 fun main T hT=>h main T (hc main T hT)
theorem Round.frame{P:Program}{l:Nat}{f:FuncId}{tm:Array Value}{ab bd:Code}{s1 s:St}{R:Ending→St→Prop}{fr B:Cells}{ro:Nat→Option Obj}(hf:Round (CP P) l f tm ab bd s1 R)(hB:∀x∈B,x∈fr)(hc:adJ fr B ro s1 s):
 Round (CP P) l f tm ab bd s (fun en s'=>∃Ag,R en Ag∧adJ fr B ro Ag s'):=
 fun main T hT c cs k1 k2=>hf main _ (Ca hT hB ro) c cs (fun v Ag hv _ s' ue=>k1 v s' ⟨Ag,hv,ue⟩) (fun ch Ag hv _ s' ue=>k2 ch s' ⟨Ag,hv,ue⟩) rfl s hc
def ad8(r:Loop)(vs:List Value):Array Value:=(r.params.zip ⟨vs⟩).foldl (fun tmps (x:Tmp×Value)=>tmps.setIfInBounds x.1 x.2) r.tmps
def YX(P:Program)(bl:Nat)(vs:List Value)(ro:Nat→Option Obj)(own:Cells)(Φ:Value→Cells→Prop):Prop:=
 ∃r,(bl,.loop r)∈own∧vs.length=r.params.size∧Round (CP P) bl r.fn (ad8 r vs) r.assign r.body ⟨ro,own⟩ (RY ro Φ)
theorem YX.use{P:Program}{bl:Nat}{vs:List Value}{ro:Nat→Option Obj}{own fr:Cells}{Φ:Value→Cells→Prop}{s:St}(hy:YX P bl vs ro own Φ)(hs:Sub ro s.ro)(hp:s.rw.Perm (own++fr)){Q:Next→St→Prop}{E:Halt→St→Prop}
 (h:∀l f tm ab bd,Round (CP P) l f tm ab bd s (fun en s'=>∃v X,en= .returned v∧Φ v X∧(⟨s.ro,X++fr⟩:St).le s')→Q (.round l f tm ab bd) s):bU P (Instr.yield bl ⟨vs⟩) s Q E:=by
 obtain⟨r,h1,h2,h3⟩:=hy
 simp only[Instr.yield,Instr.getLoop,ae]
 refine cM (o:= .loop r) (.inr (hp.mem_iff.2 (List.mem_append_left _ h1))) rfl rfl ?_
 have uA:¬(⟨vs⟩:Array Value).size≠r.params.size:=by simpa using h2
 simp only[ah,if_neg uA]
 refine h _ _ _ _ _ (Round.mono (Round.frame (fr:=fr) (B:=[]) (ro:=s.ro) (s:=s) h3 (fun _ h=>(by cases h)) ⟨hp,fun b o hb=> .inl (hs b o hb),Sub.refl _⟩) fun en s' Ff=>?_)
 obtain⟨Ag,⟨v,X,rfl,⟨R,hR1,hR2⟩,ql⟩,hc⟩:=Ff
 refine⟨v,X,rfl,ql,R,?_,fun b o hb=> .inl (hc.keep b o hb)⟩
 refine hc.rw.trans ((hR1.append_right fr).trans ?_)
 simp only[List.append_assoc]
 exact List.Perm.append_left _ List.perm_append_comm
section
variable {X:Cx} {o:Option JS}
def atq(n:Nat)(p:Oper)(e:Env):Option (Nat×List Value):=match p.op with
 | .call ⟨.value x,xs,_⟩=>match bE n e x with
  |some (.func (.yield bl) ⟨[]⟩ ⟨[]⟩)=>match y5 n e xs.toList with
   |some vs=>some (bl,vs)
   |none=>none
  |_=>none
 |_=>none
theorem jyc{bl:Nat}{vs:List Value}{qk:Nat→Option Obj}{own:Cells}{Φ:Value→Cells→Prop}(ps:List Nat)(hy:YX X.P bl vs qk own Φ)(fT:Sub qk X.ro)(hj:∀v Y,Φ v Y→J X (nq ps v Y o))(h1:e8 X.n (atq X.n) o=some (bl,vs):=by kernel_rfl)(h2:dO ps o=some own:=by kernel_rfl):J X o:=by
 obtain⟨ops,i,todo,k,e,w,kn,p,rfl,ho,hw,hc⟩:=dJ h1
 intro cv
 unfold atq at hc
 split at hc<;>try (cases hc;done)
 rename_i x xs at_ aC
 split at hc<;>try (cases hc;done)
 rename_i bl' hx
 split at hc<;>try (cases hc;done)
 rename_i oJ FY
 cases hc
 rcases p with ⟨dst,op,ty,pos,dt,g⟩
 dsimp only at aC;subst aC
 have hp:=bO h2
 refine cd X.hC ho hw (by simp) ?_
 have Ux:xs.map (ev X.n e)=⟨vs⟩:=tq FY
 simp only[execOp,resolve,aH hx,Deferred.ofValue,ah,Ux]
 have hiv:(invoke (.fn (.yield bl) ⟨[]⟩) (⟨[]⟩++⟨vs⟩):Sem Next)=Instr.yield bl ⟨vs⟩:=by simp[invoke]
 rw[hiv]
 refine YX.use hy fT hp fun l f tm ab bd hR=>?_
 show Round X.C l f tm ab bd _ _
 refine Round.mono (Round.weaken X.hC hR) fun en s' Ff=>?_
 obtain⟨v,Y,rfl,ql,hle⟩:=Ff
 have:=hj v Y ql
 rw[oH ho] at this
 have:=this cv
 simp only[JP,gZ] at this
 have:=this.more X.hC hle
 show ai _ _ _ _ _ _ _ _
 rw[bu]
 exact this
end
attribute [irreducible] atq
def mk:List Nat→Cells
 | []=>[]
 |b::r=>(b,.deferred (some []))::mk r
def agI(P:Program)(fn:Func)(R:Ending→St→Prop):Post
 | .normal,a,s| .ret,a,s=>∃vq rest,a.defers=vq.map eC∧s.rw.Perm (mk vq++rest)∧bU P (results fn a.tmps) ⟨s.ro,rest⟩ (fun v s'=>∃s0,s0.le s'∧R (.returned v) s0) (fun _ _=>False)
 |_,_,_=>False
section
variable {P:Program} {C:Class}
theorem Bq(hC:∀main T,C main T→Closed P main T){T:Goroutine→St→Prop}(hT:C main T){rest:Cells}:∀(vq:List Nat) (fr:Frame) (s:St),fr.mode= .returning→fr.defers=vq.map eC→s.rw.Perm (mk vq++rest)→T (G {fr with defers:=[]} cs) ⟨s.ro,rest⟩→T (G fr cs) s
 | [],fr,s,_,hd,hp,h=>by
  have:fr={fr with defers:=[]}:=by rcases fr with ⟨a,b,c,d,e,f,g⟩;simp only[List.map_nil] at hd;subst hd;rfl
  rw[this]
  exact(hC main T hT).mono _ ⟨s.ro,rest⟩ _ ⟨[],by simpa [mk] using hp,fun b o hb=> .inl hb⟩ h
 |b::r,fr,s,hm,hd,hp,h=>by
  obtain⟨L,Rr,hs⟩:=List.append_of_mem (hp.mem_iff.2 (List.mem_append_left _ List.mem_cons_self))
  refine unwind_mark hC hT (.inl hm) (ds:=r.map eC) (by simpa using hd) hs ?_
  have Us:(L++Rr).Perm (mk r++rest):=by
   rw[hs] at hp
   exact(List.perm_middle.symm.trans hp).cons_inv
  refine(hC main T hT).mono _ ⟨s.ro,L++Rr⟩ _ ⟨[(b,.deferred none)],?_,fun b o hb=> .inl hb⟩ (Bq hC hT r _ _ hm rfl Us h)
  exact List.perm_middle.trans (List.perm_append_singleton _ _).symm
theorem Na(hC:∀main T,C main T→Closed P main T){c:Code}{args:Array Value} 
 (hf:P.funcs[f]?=some fn) (hb:fn.body=some c) (h:Wp C f none c (agI P fn R) ⟨args++Array.replicate (fn.ntmps-args.size) undef,[]⟩ s):Fn C P f args s R:=by
 intro main T hT cl cs k1 k2
 let b:Frame:={(default:Frame) with fn:=f,kind:= .normal,roundOf:=none}
 have iM:Frame.enter P f args .normal=aM b ⟨args++Array.replicate (fn.ntmps-args.size) undef,[]⟩ [.code c]:=by
  simp[Frame.enter,aM,hf,hb,b]
 rw[iM]
 refine h main T hT b [] (cl::cs) rfl (by simp[b]) rfl fun e a' s' q=>?_
 have th:∀(todo:List Item),(∃vq rest,a'.defers=vq.map eC∧s'.rw.Perm (mk vq++rest)∧bU P (results fn a'.tmps) ⟨s'.ro,rest⟩ (fun v s'=>∃s0,s0.le s'∧R (.returned v) s0) (fun _ _=>False))→T (G {aM b a' todo with mode:= .returning} (cl::cs)) s':=by
  intro todo ⟨vq,rest,hd,hp,hr⟩
  exact Bq hC hT vq _ _ rfl hd hp (tM hC hT hf rfl rfl rfl rfl hr k1)
 cases e with
 |normal=>
  exact(hC main T hT).go rfl rfl (g':=G {aM b a' [] with mode:= .returning} (cl::cs)) (fun w=>by simp[G,stepG,stepG.exec,aM,b]) (th _ q)
 |ret=>
  exact fun todo=>(hC main T hT).go rfl rfl (g':=G {aM b a' (.code .ret::todo) with mode:= .returning} (cl::cs)) (fun w=>by simp[G,stepG,stepG.exec,aM,b]) (th _ q)
 |panic ch=>exact q.elim
 |exit id=>exact q.elim
 |goto l=>exact q.elim
 |outgrown=>exact q.elim
end
def XM(P:Program)(hm:P.follows .mixedOrders=true)(f:FuncId)(ro:Nat→Option Obj)(R:Ending→St→Prop):Cx:=⟨P,CP P,fw,hm,f,none,(rh P f).ntmps,[],ro,agI P (rh P f) R⟩
theorem aoN(hm:P.follows .mixedOrders=true){L:Cells}(own:List Sg)(kn:Cells)(hk:Knows ro kn)(h:J (XM P hm f ro (RX ro Φ)) (j6 P f args own kn))(hL:den own=L:=by rfl):ee P f args ro L Φ:=by
 subst hL
 unfold j6 at h
 split at h<;>try exact h.elim
 rename_i fn hf
 split at h<;>try exact h.elim
 rename_i c hc
 cases hl:Nat.ble args.length fn.ntmps with
 |false=>rw[hl] at h;exact h.elim
 |true=>
  rw[hl] at h
  have vV:rh P f=fn:=by simp only[rh,hf]
  have:=h hk
  simp only[JP,XM,KQ,vV] at this
  refine Na fw hf hc ?_
  have he:=lj args fn.ntmps (Nat.le_of_ble_eq_true hl)
  rw[←he] at this
  exact this
structure QM(X:Cx)(R:Ending→St→Prop)(vq:List Nat):Prop where
 q:X.Q=agI X.P (rh X.P X.fn) R
 d:X.D=vq.map eC
def Cx.dm(X:Cx)(bd:Nat):Cx:={X with D:=eC bd::X.D}
theorem qm0{hm:P.follows .mixedOrders=true}:QM (XM P hm f ro R) R []:=⟨rfl,rfl⟩
theorem QM.a(h:QM X R vq):QM (X.at ro) R vq:=⟨h.q,h.d⟩
theorem QM.m(h:QM X R vq):QM (X.dm bd) R (bd::vq):=⟨h.q,by simp[Cx.dm,h.d]⟩
theorem QM.w{aK0:List Nat}(h:QM X R vq):QM (X.wd (aK0.map eC)) R aK0:=⟨h.q,rfl⟩
def Ex(pm:List Nat):Option JS→Option JS
 |some ⟨p,e,w,kn⟩=>some ⟨p,e,dL pm 0 w,kn⟩
 |none=>none
section
variable {X:Cx} {o:Option JS}
theorem jrM(hq:QM X (RX qk Φ) vq)(v:Value)(pm hs ps:List Nat)(Y:Cells)(fT:Sub qk X.ro)(hR:Φ v Y)(h0:dO pm o=some (mk vq):=by kernel_rfl)(h1:rR (iU X.P X.n X.fn hs (Ex pm o))=some v:=by kernel_rfl)(h2:Qm (iU X.P X.n X.fn hs (Ex pm o))=Ql (iU X.P X.n X.fn hs (Ex pm o)):=by kernel_rfl)(h3:dO ps (Ex pm o)=some Y:=by kernel_rfl)(h4:AS o=true:=by kernel_rfl):J X o:=by
 obtain⟨ex,e,w,kn,rfl,hex⟩:=ui h4
 simp only[Ex,iU] at h1 h2 h3
 cases hr:Di X.P X.n e (dL pm 0 w) kn.c hs (rh X.P X.fn).results.toList with
 |none=>simp only[hr,rR] at h1;cases h1
 |some x=>
  rcases x with ⟨vs,q⟩
  simp only[hr,rR,Option.some.injEq,Qm,Ql] at h1 h2
  intro cv
  have th:=uM cv hr (mO h2)
  have hp:=bO h3
  have GH:=Ri (s0:=⟨qk,Y⟩) (R:=RX qk Φ) hex th h1 (dY hp fT) ⟨v,Y,rfl,rfl,hR⟩
  have ht:bU X.P (results (rh X.P X.fn) (A X.n e X.D).tmps) ⟨X.ro,den (dL pm 0 w)⟩ (fun v s'=>∃s0,s0.le s'∧RX qk Φ (.returned v) s0) (fun _ _=>False):=by
   rcases hex with rfl|rfl<;>exact GH.2
  show X.Q ex (A X.n e X.D) ⟨X.ro,den w⟩
  rw[hq.q]
  have hm:∃vq rest,(A X.n e X.D).defers=vq.map eC∧(den w).Perm (mk vq++rest)∧bU X.P (results (rh X.P X.fn) (A X.n e X.D).tmps) ⟨X.ro,rest⟩ (fun v s'=>∃s0,s0.le s'∧RX qk Φ (.returned v) s0) (fun _ _=>False):=⟨vq,_,hq.d,bO h0,ht⟩
  rcases hex with rfl|rfl<;>exact hm
end
attribute [irreducible] Ex
def upQ(Q:Post):Post:=fun e a s=>∃s0,s0.le s∧Q e a s0
theorem kG.more{T:Goroutine→St→Prop}(hT:Closed P main T){b:Frame}{k:List Item}(hl:s.le s'):∀ {e:Exit} {a:Act},kG T b k cs e a s→kG T b k cs e a s'
 | .normal,_,h=>hT.mono _ _ _ hl h
 | .exit id,a,h=>by
  simp only[kG] at h ⊢
  cases hk:exitTo id k with
  |some k'=>rw[hk] at h;exact hT.mono _ _ _ hl h
  |none=>rw[hk] at h;exact fun todo ht=>hT.mono _ _ _ hl (h todo ht)
 | .ret,_,h=>fun todo=>hT.mono _ _ _ hl (h todo)
 | .panic _,_,h=>fun todo=>hT.mono _ _ _ hl (h todo)
 | .goto _,_,h=>h.elim
 | .outgrown,_,h=>h.elim
theorem aBQ(hC:∀main T,C main T→Closed P main T){fn:FuncId}{c:Code}{Q:Post}{a:Act}(h:Wp C fn aD c (upQ Q) a s):Wp C fn aD c Q a s:=
 fun main T hT b k cs h1 h2 h3 h4=>h main T hT b k cs h1 h2 h3 fun _ _ _ ⟨_,hl,hq⟩=>kG.more (hC _ _ hT) hl (h4 _ _ _ hq)
def ItX(P:Program)(g:FuncId)(fi ca:List Value)(ro:Nat→Option Obj)(own:Cells)(N:Nat)(El:(Nat→Option Obj)→Nat→List Value→Cells→Prop)(Ψ:Cells→Prop):Prop:=
 ∀(bl:Nat) (aJ:Nat→Option Obj) (Inv:Nat→Cells→Prop) (Stop:Cells→Prop),Sub ro aJ→
  (∀k vs LL B k7,k <N→El k7 k vs LL→Inv k B→Sub aJ k7→YX P bl vs k7 (LL++B) (fun r B'=>(r= .bool true∧Inv (k+1) B')∨(r= .bool false∧Stop B')))→
  ∀B,Inv 0 B→ee P g (fi++[.func (.yield bl) #[] #[]]++ca) aJ (own++B) (fun _ Y=>∃Z B',Y=Z++B'∧Ψ Z∧(Inv N B'∨Stop B'))
theorem Round.more{P:Program}{C:Class}(hC:∀main T,C main T→Closed P main T){l:Nat}{f:FuncId}{tm:Array Value}{ab bd:Code}{s s':St}{R:Ending→St→Prop}(hl:s.le s')(h:Round C l f tm ab bd s R):Round C l f tm ab bd s' R:=
 fun main T hT c cs k1 k2=>(hC _ _ hT).mono _ _ _ hl (h main T hT c cs k1 k2)
def rfV(P:Program)(n:Nat):Option JS→Option (FuncId×List Value×List Value×Nat)
 |some ⟨.code (.rangeFunc x ps _ _) _,e,_,_⟩=>match bE n e x with
  |some (.func (.func g) ⟨fi⟩ ⟨ca⟩)=>bif C2 P g then some (g,fi,ca,ps.size) else none
  |_=>none
 |_=>none
def lpO(X:Cx)(bd:Nat):Option JS→Loop
 |some ⟨.code (.rangeFunc _ ps a b) _,e,_,_⟩=>iW X.fn (A X.n e X.D).tmps ps a b bd
 |_=>iW X.fn #[] #[] .ret .ret bd
def aKW:Option JS→Code
 |some ⟨.code (.rangeFunc _ _ _ b) _,_,_,_⟩=>b
 |_=> .ret
def Ra:List Tmp→List Value→Env→Env
 |t::ts,v::vs,e=>Ra ts vs (upd (some t) v e)
 |_,_,e=>e
theorem Q9:∀(ts:List Tmp) (vs:List Value) (e:Env),(ts.zip vs).foldl (fun(tm:Array Value) (x:Tmp×Value)=>tm.setIfInBounds x.1 x.2) (A n e D).tmps=(A n (Ra ts vs e) D).tmps
 | [],_,_=>rfl
 |_::_,[],_=>rfl
 |t::ts,v::vs,e=>by
  have:=bu n e D (some t) v
  simp only[Act.put] at this
  simp only[List.zip_cons_cons,List.foldl_cons,Ra]
  rw[←Q9 ts vs,←this]
def rdO(X:Cx)(bl bd:Nat)(vs:List Value)(w:List Sg)(o:Option JS):Option JS:=match o with
 |some ⟨.code (.rangeFunc _ ps a _) _,e,_,kn⟩=>some ⟨.code a [],Ra ps.toList vs e,.b bl (.loop (lpO X bd o))::w,⟨kn.c,[]⟩⟩
 |_=>none
def afO(jump:Option Code)(bd:Nat)(Z:Cells)(wi:List Sg)(is:List Nat):Option JS→Option JS
 |some ⟨.code _ k,e,w,kn⟩=>match jump with
  |none=>some ⟨Rt k,e,.b bd (.deferred (some [])):: .l Z::(wi++dL is 0 w),⟨kn.c,[]⟩⟩
  |some .ret=>some ⟨.fin .ret,e,.b bd (.deferred (some [])):: .l Z::(wi++dL is 0 w),⟨kn.c,[]⟩⟩
  |some (.exit id)=>match Ci id k with
   |some p=>some ⟨p,e,.b bd (.deferred (some [])):: .l Z::(wi++dL is 0 w),⟨kn.c,[]⟩⟩
   |none=>none
  |_=>none
 |_=>none
def atr(bl:Nat)(Lp:Loop)(wf:ι→List Sg)(Inv:Nat→ι→Prop)(Sp:Code→ι→Prop)(k:Nat):Value→Cells→Prop:=fun r B=>
 (r= .bool true∧∃j,Inv (k+1) j∧B=(bl,.loop Lp)::den (wf j))∨(r= .bool false∧∃jump j,Sp jump j∧B=(bl,.loop {Lp with state:= .done,pending:=some jump})::den (wf j))
def Cx.rd(X:Cx)(bl:Nat)(ro:Nat→Option Obj)(Φ:Value→Cells→Prop)(body:Code):Cx:=⟨X.P,CP X.P,fw,X.hm,X.fn,some bl,X.n,[],ro,Jt (CP X.P) (RY ro Φ) bl X.fn body⟩
def Cx.re(X:Cx)(bl:Nat)(ro:Nat→Option Obj)(Φ:Value→Cells→Prop):Cx:=⟨X.P,CP X.P,fw,X.hm,X.fn,some bl,X.n,[],ro,Dh (RY ro Φ) bl⟩
theorem Nw:∀(k:List KI),KQ (X.dm bd) k=KQ X k
 | []=>rfl
 | .seq _::k=>by simp only[KQ,Nw k];rfl
 | .block _::k=>by simp only[KQ,Nw k]
 | .next _::k=>by simp only[KQ,Nw k]
theorem Mm(Z W R:List α)(x y:α):((Z++x::W)++y::R).Perm (x::y::(Z++(W++R))):=by
 refine List.perm_middle.trans ?_
 rw[List.append_assoc,List.cons_append]
 exact(List.Perm.cons y List.perm_middle).trans (List.Perm.swap _ _ _)
section
variable {X:Cx} {o:Option JS}
theorem jrf{ι:Type}{g:FuncId}{fi ca:List Value}{N np:Nat}{El:(Nat→Option Obj)→Nat→List Value→Cells→Prop}{Ψ:Cells→Prop}(ow:List Sg)(hit:ItX X.P g fi ca X.ro (den ow) N El Ψ)(Uy:∀ro k vs LL,El ro k vs LL→vs.length=np)
 (wf:ι→List Sg)(Inv:Nat→ι→Prop)(Sp:Code→ι→Prop)(i0:ι)(h0:Inv 0 i0)(is:List Nat)
 (hb:∀bl bd k vs LL i k7,k <N→El k7 k vs LL→Inv k i→Sub X.ro k7→J (X.rd bl k7 (atr bl (lpO X bd o) wf Inv Sp k) (aKW o)) (rdO X bl bd vs (wf i++[.l LL]) o))
 (hN:∀bd i Z,Inv N i→Ψ Z→J (X.dm bd) (afO none bd Z (wf i) is o))(hS:∀bd i Z jump,Sp jump i→Ψ Z→J (X.dm bd) (afO (some jump) bd Z (wf i) is o))
 (h1:rfV X.P X.n o=some (g,fi,ca,np):=by kernel_rfl)(h2:p7 is o=some (ow++wf i0):=by kernel_rfl)(hf:(X.P.funcs[X.fn]?).isSome=true:=by kernel_rfl) (hr:X.aD=none:=by rfl):J X o:=by
 unfold rfV at h1
 split at h1<;>try (cases h1;done)
 rename_i x params assign body k e w kn
 split at h1<;>try (cases h1;done)
 rename_i g' Xr AZ hx
 cases CY:C2 X.P g' with
 |false=>rw[CY] at h1;cases h1
 |true=>
  rw[CY] at h1
  simp only[cond_true,Option.some.injEq,Prod.mk.injEq] at h1
  obtain⟨rfl,rfl,rfl,hnp⟩:=h1
  have ff:=lI CY
  intro cv
  have hp:=mr h2
  rw[me] at hp
  obtain⟨fn',vV⟩:=Option.isSome_iff_exists.1 hf
  show Wp X.C X.fn X.aD (.rangeFunc x params assign body) (KQ X k) (A X.n e X.D) ⟨X.ro,den w⟩
  rw[hr]
  refine aBQ X.hC (Bj X.hC (fi:=⟨Xr⟩) (ca:=⟨AZ⟩) (by rw[eG];exact aH hx) ff fun bd bl _ _=>?_)
  rw[T4]
  have hy:=hit bl X.ro (fun k B=>∃i,Inv k i∧B=(bl,.loop (iW X.fn (A X.n e X.D).tmps params assign body bd))::den (wf i))
   (fun B=>∃jump i,Sp jump i∧B=(bl,.loop {iW X.fn (A X.n e X.D).tmps params assign body bd with state:= .done,pending:=some jump})::den (wf i)) (Sub.refl _) (fun k vs LL B k7 hk hv hi hs=>?_) _ ⟨i0,h0,rfl⟩
  rotate_left
  ·obtain⟨i,hi,rfl⟩:=hi
   refine⟨iW X.fn (A X.n e X.D).tmps params assign body bd,List.mem_append_right _ List.mem_cons_self,(Uy _ _ _ _ hv).trans hnp.symm,Round.more fw (s:=⟨k7,((bl,.loop (iW X.fn (A X.n e X.D).tmps params assign body bd))::den (wf i))++LL⟩) ⟨[],by rw[List.append_nil];exact List.perm_append_comm,fun b o hb=> .inl hb⟩ (EZ fw vV ?_)⟩
   have:=hb bl bd k vs LL i k7 hk hv hi hs fun y hy=>hs _ _ (cv y hy)
   have O3:den (.b bl (.loop (iW X.fn (A X.n e X.D).tmps params assign body bd))::(wf i++[.l LL]))=((bl,.loop (iW X.fn (A X.n e X.D).tmps params assign body bd))::den (wf i))++LL:=by rw[jq,me];rfl
   rw[←O3]
   have hyt:ad8 (iW X.fn (A X.n e X.D).tmps params assign body bd) vs=(A X.n (Ra params.toList vs e) X.D).tmps:=by
    rw[←Q9]
    simp only[ad8,iW]
    rw[←Array.foldl_toList,Array.toList_zip]
   rw[hyt]
   exact this
  ·refine Fn.weaken X.hC (Fn.mono (Fn.frame (fr:=(bd,.deferred (some []))::den (dL is 0 w)) (B:=[]) (ro:=X.ro) hy (fun _ h=>(by cases h)) ⟨?_,fun b o hb=> .inl hb,Sub.refl _⟩) fun en s' Ff=>?_)
   ·refine List.Perm.trans (.cons _ (.cons _ ?_)) (Mm _ _ _ _ _).symm
    rw[←List.append_assoc]
    exact hp
   ·obtain⟨Ag,⟨v,Y,rfl,rfl,Z,B',rfl,hΨ,hI⟩,hc⟩:=Ff
    have hc1:s'.rw.Perm ((Z++B')++(bd,.deferred (some []))::den (dL is 0 w)):=hc.rw
    have key:∀(r0:Loop) (i:ι),B'=(bl,.loop r0)::den (wf i)→∃L Rr,s'.rw=L++(bl,.loop r0)::Rr∧∀r1,(⟨X.ro,den (.b bd (.deferred (some [])):: .l Z::(wf i++dL is 0 w))⟩:St).le ⟨s'.ro,L++(bl,.loop r1)::Rr⟩:=by
     intro r0 i hB
     subst hB
     have hc2:=hc1.trans (Mm _ _ _ _ _)
     obtain⟨L,Rr,hs⟩:=List.append_of_mem (hc2.mem_iff.2 List.mem_cons_self)
     refine⟨L,Rr,hs,fun r1=>dY (J:=[(bl,.loop r1)]) ?_ hc.keep⟩
     rw[hs] at hc2
     have hc3:=(List.perm_middle.symm.trans hc2).cons_inv
     rw[jq,gZ,me]
     exact List.perm_middle.trans ((List.Perm.cons _ hc3).trans (List.perm_append_singleton _ _).symm)
    rcases hI with ⟨i,hi,hB⟩| ⟨jump,i,hi,hB⟩
    ·obtain⟨L,Rr,hs,hle⟩:=key _ i hB
     refine⟨L,_,Rr,hs,by simp[iW],?_⟩
     refine⟨_,hle _,?_⟩
     have:=hN bd i Z hi hΨ cv
     rw[←Nw (bd:=bd)]
     exact uU (X:=X.dm bd) (kn:=⟨kn.c,[]⟩) this
    ·obtain⟨L,Rr,hs,hle⟩:=key _ i hB
     refine⟨L,_,Rr,hs,by simp,?_⟩
     have:=hS bd i Z jump hi hΨ
     cases jump with
     |ret=>
      refine⟨_,hle _,?_⟩
      rw[←Nw (bd:=bd)]
      exact Bw (X:=X.dm bd) (this cv) k
     |exit id=>
      simp only[afO] at this
      cases hk:Ci id k with
      |none=>rw[hk] at this;exact this.elim
      |some p=>
       rw[hk] at this
       refine⟨_,hle _,?_⟩
       rw[←Nw (bd:=bd)]
       exact xG (X:=X.dm bd) (kn:=⟨kn.c,[]⟩) hk (this cv)
     |_=>exact this.elim
end
theorem aFm:(lpO X bd o).state= .ready∧(lpO X bd o).pending=none:=by
 unfold lpO
 split<;>exact⟨rfl,rfl⟩
attribute [irreducible] rfV lpO aKW rdO afO
def bgO(body:Code):Option JS→Option (JS×Nat)
 |some ⟨.fin .normal,e,.b b (.loop r)::w,kn⟩=>match r.state with
  | .ready=>some (⟨.code body [],e,.b b (.loop {r with state:= .busy})::w,kn⟩,b)
  |_=>none
 |_=>none
def Gb:Option (JS×Nat)→Option JS
 |some (s,_)=>some s
 |none=>none
def Vi:Option (JS×Nat)→Option Nat
 |some (_,b)=>some b
 |none=>none
def Sk:Option JS→Option (Option Code)
 |some ⟨.fin .normal,_,_,_⟩=>some none
 |some ⟨.fin .ret,_,_,_⟩=>some (some .ret)
 |some ⟨.fin (.exit id),_,_,_⟩=>some (some (.exit id))
 |_=>none
structure QY(X:Cx)(bl:Nat)(ro:Nat→Option Obj)(Φ:Value→Cells→Prop):Prop where
 q:X.Q=Dh (RY ro Φ) bl
theorem qy0:QY (X.re bl ro Φ) bl ro Φ:=⟨rfl⟩
section
variable {X:Cx} {o:Option JS} {bl:Nat} {ro:Nat→Option Obj}
theorem jbg(h:J (X.re bl ro Φ) (Gb (bgO body o)))(h1:Vi (bgO body o)=some bl:=by kernel_rfl):J (X.rd bl ro Φ body) o:=by
 unfold bgO at h h1
 split at h<;>try exact h.elim
 rename_i e b r w kn
 split at h<;>try exact h.elim
 rename_i cg
 simp only[cg,Vi,Option.some.injEq] at h1
 subst h1
 simp only[Gb] at h
 intro cv
 have hw:=h cv
 simp only[JP,Cx.rd,Jt,EM]
 refine⟨[],r,den w,by rw[jq];rfl,cg,?_⟩
 simp only[JP,jq] at hw
 exact hw
theorem jyR{Lp:Loop}{jump:Option Code}{Y:Cells}(hq:QY X bl ro Φ)(fT:Sub ro X.ro)(ps:List Nat)(ql:Φ (.bool jump.isNone) ((bl,.loop {Lp with state:=if jump.isNone then .ready else .done,pending:=jump})::Y))(h1:dO ps o=some ((bl,.loop {Lp with state:= .busy})::Y):=by kernel_rfl)(h2:Sk o=some jump:=by kernel_rfl):J X o:=by
 have main:∀s w kn e,o=some ⟨s,e,w,kn⟩→Xy (RY ro Φ) bl jump ⟨X.ro,den w⟩:=by
  intro s w kn e ho
  subst ho
  have hp:=bO h1
  obtain⟨L,Rr,hs⟩:=List.append_of_mem (hp.mem_iff.2 (List.mem_append_left _ List.mem_cons_self))
  refine⟨L,_,Rr,hs,_,_,rfl,?_,ql⟩
  have nH:den w=L++(bl,.loop {Lp with state:= .busy})::Rr:=hs
  have hp':(den w).Perm (((bl,.loop {Lp with state:= .busy})::Y)++den (dL ps 0 w)):=hp
  rw[nH] at hp'
  have Us:=(List.perm_middle.symm.trans hp').cons_inv
  exact dY (J:=den (dL ps 0 w)) (List.perm_middle.trans (.cons _ Us)) fT
 unfold Sk at h2
 split at h2<;>try (cases h2;done)
 ·rename_i e w kn;cases h2;intro _;show X.Q .normal _ _;rw[hq.q];exact main _ _ _ _ rfl
 ·rename_i e w kn;cases h2;intro _;show X.Q .ret _ _;rw[hq.q];exact main _ _ _ _ rfl
 rename_i id e w kn;cases h2;intro _;show X.Q (.exit id) _ _;rw[hq.q];exact main _ _ _ _ rfl
theorem jyn{Lp:Loop}{wf:ι→List Sg}{Inv:Nat→ι→Prop}{Sp:Code→ι→Prop}(hq:QY X bl ro (atr bl Lp wf Inv Sp k))(fT:Sub ro X.ro)(j:ι)(h:Inv (k+1) j)(ps:List Nat)(hl:Lp.state= .ready∧Lp.pending=none:=by exact aFm)(h1:dO ps o=some ((bl,.loop {Lp with state:= .busy})::den (wf j)):=by kernel_rfl)(h2:Sk o=some none:=by kernel_rfl):J X o:=
 jyR hq fT ps (.inl ⟨rfl,j,h,by rcases Lp with ⟨a,b,c,d,e,f,g,i⟩;obtain⟨h1,h2⟩:=hl;dsimp only at h1 h2;subst h1 h2;rfl⟩) h1 h2
theorem jys{Lp:Loop}{wf:ι→List Sg}{Inv:Nat→ι→Prop}{Sp:Code→ι→Prop}(hq:QY X bl ro (atr bl Lp wf Inv Sp k))(fT:Sub ro X.ro)(jump:Code)(j:ι)(h:Sp jump j)(ps:List Nat)(h1:dO ps o=some ((bl,.loop {Lp with state:= .busy})::den (wf j)):=by kernel_rfl)(h2:Sk o=some (some jump):=by kernel_rfl):J X o:=
 jyR hq fT ps (.inr ⟨rfl,jump,j,h,rfl⟩) h1 h2
end
attribute [irreducible] bgO Gb Vi Sk
def tz[DecidableEq κ](k:κ):List (κ×Value)→Nat→Option (Nat×Value)
 | [],_=>none
 |x::l,i=>if k=x.1 then some (i,x.2) else tz k l (i+1)
def lkM[DecidableEq κ](k:κ)(F:List (κ×Value)):Option Value:=(tz k F 0).map (·.2)
def uK(k:κ)(v:Value):List (κ×Value)→Nat→List (κ×Value)
 | [],_=>[]
 |_::l,0=>(k,v)::l
 |x::l,i+1=>x::uK k v l i
def mS[DecidableEq κ](k:κ)(v:Value)(F:List (κ×Value)):List (κ×Value):=match tz k F 0 with
 |some (i,_)=>uK k v F i
 |none=>F++[(k,v)]
structure Ud(P:Program)(T:TypeId){κ:Type}[DecidableEq κ](kv:κ→Value):Prop where
 chk:∀(b:Bool) (k:κ) {α:Type} {K:Unit→Sem α} {s:St} {Q:α→St→Prop} {E:Halt→St→Prop},bU P (K ()) s Q E→bU P (Instr.checkKey b 10000 T (kv k) >>= K) s Q E
 find:∀(k:κ) (es:List MapEntry) (F:List (κ×Value)),es.map (fun e=>(e.key,e.val))=F.map (fun x=>(kv x.1,x.2))→∀ {α:Type} {K:Option (Nat×Value)→Sem α} {s:St} {Q:α→St→Prop} {E:Halt→St→Prop},bU P (K (tz k F 0)) s Q E→bU P (Instr.findKey T (kv k) es >>= K) s Q E
 stay:∀k,Instr.sameBits 10000 (kv k) (kv k)=true
theorem q9[DecidableEq κ]{k:κ}:∀ {F:List (κ×Value)} {i j:Nat} {v:Value},tz k F i=some (j,v)→i≤j∧F[j-i]?=some (k,v)
 | [],_,_,_,h=>by cases h
 |x::l,i,j,v,h=>by
  simp only[tz] at h
  split at h
  ·rename_i hk
   cases h
   exact⟨Nat.le_refl _,by simp[hk]⟩
  obtain⟨h1,h2⟩:=q9 h
  refine⟨by omega,?_⟩
  rw[show j-i=(j-(i+1))+1 by omega,List.getElem?_cons_succ];exact h2
theorem PQ(a b:ByteArray):(a==b)=decide (a=b):=by
 have h:(a==b)=(a.data==b.data):=by cases a;cases b;rfl
 rw[h,Bool.eq_iff_iff]
 cases a;cases b
 simp
theorem Fj(a:ByteArray):∀(es:List MapEntry) (F:List (ByteArray×Value)) (i:Nat),es.map (fun e=>(e.key,e.val))=F.map (fun x=>(Value.string x.1,x.2))→Instr.findNow .string (.string a) es i=some (tz a F i)
 | [],[],_,_=>rfl
 | [],_::_,_,h=>by simp at h
 |_::_,[],_,h=>by simp at h
 |e::es,x::F,i,h=>by
  simp only[List.map_cons,List.cons.injEq,Prod.mk.injEq] at h
  obtain⟨⟨h1,h2⟩,h3⟩:=h
  simp only[Instr.findNow,h1,Instr.sameNow,tz,PQ]
  by_cases hk:a=x.1
  ·simp[hk,h2]
  simp only[hk,decide_false,if_false]
  exact Fj a es F (i+1) h3
def CkD(P:Program)(dep:Nat)(T:TypeId)(v:Value):Prop:=∀(b:Bool) {α:Type} {K:Unit→Sem α} {s:St} {Q:α→St→Prop} {E:Halt→St→Prop},bU P (Instr.checkKey b dep T v >>= K) s Q E=bU P (K ()) s Q E
theorem aKO(tf:TF P T .string sz bL z ag)(a:ByteArray):CkD P (dep+1) T (.string a):=by
 intro b α K s Q E
 simp only[Instr.checkKey,ae,bk tf,ah]
theorem avX(tf:TF P T .string sz bL z ag):Ud P T (fun(a:ByteArray)=>Value.string a) where
 chk b k α K s Q E h:=by rw[aKO (dep:=9999) tf k b];exact h
 find k es F he α K s Q E h:=by
  simp only[Instr.findKey,ae,bk tf,Fj k es F 0 he,ah]
  exact h
 stay k:=by simp[Instr.sameBits,PQ]
def ahC(P:Program)(T:TypeId):Bool:=match a8 P T with
 |some ⟨.string,_,_,_⟩=>true
 |_=>false
theorem Zy(h:ahC P T=true):Ud P T (fun(a:ByteArray)=>Value.string a):=by
 unfold ahC at h
 split at h
 ·rename_i dS
  obtain⟨bL,tf⟩:=ay dS
  exact avX tf
 cases h
theorem ItX.up{fi:List Value}{own:Cells}{N:Nat}{El:(Nat→Option Obj)→Nat→List Value→Cells→Prop}{Ψ:Cells→Prop}(h:ItX P g fi ca ro own N El Ψ)(hs:Sub ro aF):ItX P g fi ca aF own N El Ψ:=
 fun bl aJ Inv Stop h1=>h bl aJ Inv Stop (hs.trans h1)
def YOK(P:Program)(bl:Nat)(ro:Nat→Option Obj)(N:Nat)(El:(Nat→Option Obj)→Nat→List Value→Cells→Prop)(Inv:Nat→Cells→Prop)(Stop:Cells→Prop):Prop:=
 ∀k vs LL B k7,k <N→El k7 k vs LL→Inv k B→Sub ro k7→YX P bl vs k7 (LL++B) (fun r B'=>(r= .bool true∧Inv (k+1) B')∨(r= .bool false∧Stop B'))
theorem YOK.up{N:Nat}{El:(Nat→Option Obj)→Nat→List Value→Cells→Prop}{Inv:Nat→Cells→Prop}{Stop:Cells→Prop}(h:YOK P bl ro N El Inv Stop)(hs:Sub ro aF):YOK P bl aF N El Inv Stop:=
 fun k vs LL B k7 h1 h2 h3 h4=>h k vs LL B k7 h1 h2 h3 (hs.trans h4)
def Part(L:List α)(p:Nat)(m:List α):Prop:=∃a b,L=a++m++b∧a.length=p
theorem Part.get{L m:List α}{p:Nat}{x:α}(h:Part L p m)(hx:m[i]?=some x):p+i <L.length∧L[p+i]?=some x:=by
 obtain⟨a,b,rfl,rfl⟩:=h
 have hi:=(List.getElem?_eq_some_iff.1 hx).1
 have:(a++m++b)[a.length+i]?=some x:=by
  rw[List.append_assoc,List.getElem?_append_right (by omega),List.getElem?_append_left (by omega),show a.length+i-a.length=i by omega];exact hx
 exact⟨(List.getElem?_eq_some_iff.1 this).1,this⟩
theorem Part.flat{L:List β}{p:Nat}{G:α→List β}{l a b:List α}{s:α}(h:Part L p (l.flatMap G))(hl:l=a++[s]++b):Part L (p+(a.flatMap G).length) (G s):=by
 obtain⟨u,v,rfl,rfl⟩:=h
 subst hl
 exact⟨u++a.flatMap G,b.flatMap G++v,by simp[List.flatMap_append],by simp⟩
theorem QV[DecidableEq κ]{kv:κ→Value}(he:∀a b,EqD P 10000 T (kv a) (kv b) (decide (a=b)))(k:κ):∀(es:List MapEntry) (F:List (κ×Value)) (i:Nat),es.map (fun e=>(e.key,e.val))=F.map (fun x=>(kv x.1,x.2))→∀ {α:Type} {K:Option (Nat×Value)→Sem α} {s:St} {Q:α→St→Prop} {E:Halt→St→Prop},bU P (K (tz k F i)) s Q E→bU P (Instr.findAsking T (kv k) es i >>= K) s Q E
 | [],[],_,_,_,_,_,_,_,h=>h
 | [],_::_,_,h,_,_,_,_,_,_=>by simp at h
 |_::_,[],_,h,_,_,_,_,_,_=>by simp at h
 |e::es,x::F,i,h,α,K,s,Q,E,hK=>by
  simp only[List.map_cons,List.cons.injEq,Prod.mk.injEq] at h
  obtain⟨⟨h1,h2⟩,h3⟩:=h
  simp only[Instr.findAsking,ae,h1,Op.equal]
  rw[show Op.maxDepth=10000 from rfl,he k x.1]
  simp only[tz] at hK
  by_cases hk:k=x.1
  ·rw[if_pos hk] at hK
   simp only[hk,decide_true,if_true,ah,h2]
   exact hK
  rw[if_neg hk] at hK
  simp only[hk,decide_false,Bool.false_eq_true,if_false]
  exact QV he k es F (i+1) h3 hK
theorem Jc{k:IntKind}(tf:TF P T (.int k) sz bL z ag)(a:Int):CkD P (dep+1) T (.int k a):=by
 intro b α K s Q E
 simp only[Instr.checkKey,ae,bk tf,ah]
inductive CJ(P:Program)(dep:Nat)(l:List Value):List Field→Prop
 |nil:CJ P dep l []
 |cons {f:Field} {fs:List Field} {v:Value} (hn:f.name≠ "_") (hv:JC P f.type l f.offset v) (he:CkD P dep f.type v) (ht:CJ P dep l fs):CJ P dep l (f::fs)
theorem TS{fields:Array Field}(tf:TF P T (.struct fields) sz bL z true)(hf:CJ P dep l fields.toList):CkD P (dep+1) T (.agg ⟨l⟩):=by
 intro b α K s Q E
 simp only[Instr.checkKey,ae,bk tf]
 rw[←Array.forIn_toList]
 generalize fields.toList=fl at hf
 clear tf
 induction hf with
 |nil=>simp only[List.forIn_nil,ah,ae]
 | @cons f fs v hn hv he ht ih=>
  simp only[List.forIn_cons,hn,ne_eq,not_false_eq_true,if_true,ae]
  rw[hv]
  simp only[ae]
  rw[he]
  simp only[ah]
  exact ih
theorem ahb[DecidableEq κ]{kv:κ→Value}{d:TypeDesc}(tf:TF P T d sz bL z ag)(hl:∀k,∃l,kv k= .agg l)(hc:∀k,CkD P 10000 T (kv k))(he:∀a b,EqD P 10000 T (kv a) (kv b) (decide (a=b)))(hs:∀k,Instr.sameBits 10000 (kv k) (kv k)=true):Ud P T kv where
 chk b k α K s Q E h:=by rw[hc k b];exact h
 find k es F hm α K s Q E h:=by
  simp only[Instr.findKey,ae,bk tf]
  cases es with
  |nil=>
   cases F with
   |nil=>exact h
   |cons x F=>simp at hm
  |cons e es=>
   have:Instr.findNow d (kv k) (e::es) 0=none:=by
    cases F with
    |nil=>simp at hm
    |cons x F=>
     simp only[List.map_cons,List.cons.injEq,Prod.mk.injEq] at hm
     obtain⟨l,Fe⟩:=hl k
     obtain⟨l2,rO⟩:=hl x.1
     simp only[Instr.findNow,hm.1.1,Fe,rO]
     cases d<;>rfl
   rw[this]
   exact QV he k _ F 0 hm h
 stay:=hs
def uw(kv:κ→Value)(F:List (κ×Value))(es:Array MapEntry)(ck:Nat):Prop:=
 es.toList.map (fun e=>(e.key,e.val))=F.map (fun x=>(kv x.1,x.2))∧(es.toList.map (·.born)).Nodup∧∀e∈es.toList,e.born <ck
def j9(r:Nat)(kv:κ→Value)(F:List (κ×Value))(L:Cells):Prop:=∃es ck,L=[(r,.map es ck)]∧uw kv F es ck
def alK(s:St)(r:Nat)(kv:κ→Value)(F:List (κ×Value)):Prop:=∃es ck,s.has r (.map es ck)∧uw kv F es ck
theorem j9.has{kv:κ→Value}{F:List (κ×Value)}{L:Cells}(h:j9 r kv F L)(hs:∀x∈L,s.has x.1 x.2):alK s r kv F:=by
 obtain⟨es,ck,rfl,hm⟩:=h
 exact⟨es,ck,hs _ List.mem_cons_self,hm⟩
theorem alK.ext{kv:κ→Value}{F:List (κ×Value)}(h:alK s r kv F)(hs:Ext s s'):alK s' r kv F:=by
 obtain⟨es,ck,h1,h2⟩:=h
 exact⟨es,ck,hs _ _ h1,h2⟩
theorem j9.nil(r:Nat)(kv:κ→Value):j9 r kv [] [(r,.map #[] 0)]:=⟨#[],0,rfl,rfl,List.nodup_nil,fun _ h=>(by cases h)⟩
section
variable {X:Cx} {o:Option JS}
def Ox[DecidableEq κ](z:Value)(ok:Bool)(k:κ)(F:List (κ×Value)):Value:=match lkM k F with
 |some v=>bif ok then .tuple ⟨[v,.bool true]⟩ else v
 |none=>bif ok then .tuple ⟨[z,.bool false]⟩ else z
def luV(P:Program)(n:Nat)(p:Oper)(e:Env):Option (TypeId×Value×Value×Value×Bool):=match p.op with
 | .lookup T x y ok=>match a8 P T with
  |some ⟨.map K E,_,_,_⟩=>match a8 P E with
   |some te=>match bE n e x with
    |some m=>match bE n e y with
     |some k=>some (K,m,k,NB te.zero te.agg,ok)
     |none=>none
    |none=>none
   |none=>none
  |_=>none
 |_=>none
theorem jlu[DecidableEq κ]{kv:κ→Value}{F:List (κ×Value)}{K:TypeId}(k:κ)(z:Value)(ok:Bool)(ps:List Nat)(B:Cells)(hk:Ud X.P K kv)(hm:∀s:St,Ext ⟨X.ro,[]⟩ s→(∀x∈B,s.has x.1 x.2)→alK s r kv F)(hj:J X (N8 B (Ox z ok k F) o))
 (hv:dE X.n (luV X.P X.n) o=some (K,.map (some r),kv k,z,ok):=by kernel_rfl)(hB:dO ps o=some B:=by kernel_rfl):J X o:=by
 refine jGN hv hB (fun s p e ho hh hf=>?_) hj
 subst ho
 unfold luV at hf
 split at hf<;>try (cases hf;done)
 rename_i T x y ok' aC
 split at hf<;>try (cases hf;done)
 rename_i K' E' _ _ _ dS
 split at hf<;>try (cases hf;done)
 rename_i te tX
 split at hf<;>try (cases hf;done)
 rename_i m hx
 split at hf<;>try (cases hf;done)
 rename_i k' hy
 simp only[Option.some.injEq,Prod.mk.injEq] at hf
 obtain⟨rfl,rfl,rfl,rfl,rfl⟩:=hf
 obtain⟨bL,tf⟩:=ay dS
 obtain⟨Ct,rM⟩:=ay tX
 refine⟨by rw[aC];rfl,fun s0 H9 wA ops i ho rest hwt s' hs todo Q ky=>mv X.hC ho rest hwt (by rw[aC];rfl) ?_ hs ky⟩
 intro s1 cu f hf K2 E2 hK
 obtain⟨es,ck,jW,Ed⟩:=(hm s0 H9 wA).ext cu
 simp only[execOp,aC,hf _ _ hx,hf _ _ hy,Instr.lookup,ae,bk tf]
 refine cM jW rfl rfl ?_
 simp only[ah,ae]
 refine hk.chk _ _ ?_
 simp only[ae]
 refine hk.find k _ F Ed.1 ?_
 simp only[Ox,lkM] at hK
 cases yX:tz k F 0 with
 |none=>
  rw[yX] at hK
  simp only[ae,j5 rM,ah]
  cases ok'<;>exact hK
 |some u=>
  obtain⟨i,v⟩:=u
  rw[yX] at hK
  simp only[ah]
  cases ok'<;>exact hK
def avC(p:Oper):Option Unit:=match p.op with
 | .makeMap _ none=>some ()
 |_=>none
theorem jmk(kv:κ→Value)(hj:∀r L,j9 r kv [] L→J X (nq [] (.map (some r)) L o))(hv:e8 X.n (fun p _=>avC p) o=some ():=by kernel_rfl):J X o:=by
 obtain⟨ops,i,todo,k,e,w,kn,p,rfl,ho,hw,hc⟩:=dJ hv
 intro cv
 unfold avC at hc
 split at hc<;>try (cases hc;done)
 rename_i T aC
 rcases p with ⟨dst,op,ty,pos,dt,g⟩
 dsimp only at aC;subst aC
 refine cd X.hC ho hw (by simp) ?_
 simp only[execOp,Instr.makeMap,Option.map_none,ae,oK,ah]
 intro b hb
 have:=hj b _ (j9.nil b kv)
 rw[oH ho] at this
 have:=this cv
 simp only[JP,gZ,yA] at this
 show ai _ _ _ _ _ _ _ _
 rw[bu]
 exact this
def muV(P:Program)(n:Nat)(p:Oper)(e:Env):Option (TypeId×Value×Value×Value):=match p.op with
 | .mapUpdate T x y z| .insert T x y z=>match a8 P T with
  |some ⟨.map K _,_,_,_⟩=>match bE n e x with
   |some m=>match bE n e y with
    |some k=>match bE n e z with
     |some v=>some (K,m,k,v)
     |none=>none
    |none=>none
   |none=>none
  |_=>none
 |_=>none
theorem Gr(k:κ)(v:Value):∀(F:List (κ×Value)) (i:Nat),uK k v F i=F.set i (k,v)
 | [],_=>rfl
 |_::_,0=>rfl
 |x::l,i+1=>by simp only[uK,Gr k v l i,List.set_cons_succ]
theorem HS{kv:κ→Value}{k:κ}{v:Value}:∀(es:List MapEntry) (F:List (κ×Value)) (i:Nat),es.map (fun e=>(e.key,e.val))=F.map (fun x=>(kv x.1,x.2))→(es.modify i fun e=>{e with key:=kv k,val:=v}).map (fun e=>(e.key,e.val))=(uK k v F i).map (fun x=>(kv x.1,x.2))
 | [],[],_,_=>by simp[uK]
 | [],_::_,_,h=>by simp at h
 |_::_,[],_,h=>by simp at h
 |e::es,x::F,0,h=>by
  simp only[List.map_cons,List.cons.injEq] at h
  simp[uK,h.2]
 |e::es,x::F,i+1,h=>by
  simp only[List.map_cons,List.cons.injEq] at h
  simp[uK,h.1,HS es F i h.2]
theorem xP{kx v:Value}:∀(es:List MapEntry) (i:Nat),(es.modify i fun e=>{e with key:=kx,val:=v}).map (·.born)=es.map (·.born)
 | [],i=>by simp
 |e::es,0=>by simp
 |e::es,i+1=>by simp[xP es i]
theorem jmu[DecidableEq κ]{kv:κ→Value}{F:List (κ×Value)}{K:TypeId}{L:Cells}(i:Nat)(k:κ)(v:Value)(hk:Ud X.P K kv)(hm:j9 r kv F L)(hj:∀L',j9 r kv (mS k v F) L'→J X (nq [i] undef L' o))
 (hv:e8 X.n (muV X.P X.n) o=some (K,.map (some r),kv k,v):=by kernel_rfl)(hB:dO [i] o=some L:=by kernel_rfl):J X o:=by
 obtain⟨ops,i0,todo,kk,e,w,kn,p,rfl,ho,hw,hc⟩:=dJ hv
 intro cv
 rcases p with ⟨dst,op,ty,pos,dt,g⟩
 have main:∀T x y z,(op= .mapUpdate T x y z∨op= .insert T x y z)→muV X.P X.n ⟨dst,.mapUpdate T x y z,ty,pos,dt,g⟩ e=some (K,.map (some r),kv k,v)→ai X.C X.fn X.aD ops (i0::todo) (KQ X kk) (A X.n e X.D) ⟨X.ro,den w⟩:=by
  intro T x y z heq hc
  simp only[muV] at hc
  split at hc<;>try (cases hc;done)
  rename_i K' E' _ _ _ dS
  split at hc<;>try (cases hc;done)
  rename_i m hx
  split at hc<;>try (cases hc;done)
  rename_i k' hy
  split at hc<;>try (cases hc;done)
  rename_i v' hz
  simp only[Option.some.injEq,Prod.mk.injEq] at hc
  obtain⟨rfl,rfl,rfl,rfl⟩:=hc
  obtain⟨bL,tf⟩:=ay dS
  have hp:=bO hB
  obtain⟨es,ck,rfl,Ed⟩:=hm
  obtain⟨L1,R1,cu⟩:=List.append_of_mem (hp.mem_iff.2 (List.mem_append_left _ List.mem_cons_self))
  have hle:∀L',j9 r kv (mS k v' F) [(r,L')]→ai X.C X.fn X.aD ops todo (KQ X kk) (A X.n (upd dst undef e) X.D) ⟨X.ro,L1++(r,L')::R1⟩:=by
   intro L' hL
   have:=hj _ hL
   rw[oH ho] at this
   have:=this cv
   simp only[JP,gZ] at this
   refine this.more X.hC (dY (J:=[]) ?_ (Sub.refl _))
   have hp':(den w).Perm ([(r,.map es ck)]++den (dL [i] 0 w)):=hp
   have aUA:den w=L1++(r,.map es ck)::R1:=cu
   rw[aUA] at hp'
   have Us:=(List.perm_middle.symm.trans hp').cons_inv
   rw[List.append_nil]
   exact List.perm_middle.trans (List.Perm.cons _ Us)
  have jW:(⟨X.ro,den w⟩:St).has r (.map es ck):= .inr (by show _∈den w;rw[show den w=_ from cu];exact fN)
  refine cd X.hC ho hw (by rcases heq with rfl|rfl<;>simp) ?_
  have hex:∀f:Operand→Value,execOp f ⟨dst,op,ty,pos,dt,g⟩=(do Instr.mapUpdate T (f x) (f y) (f z);pure .skip:Sem Next):=by
   intro f;rcases heq with rfl|rfl<;>simp only[execOp]
  rw[hex,aH hx,aH hy,aH hz]
  simp only[Instr.mapUpdate,ae,bk tf]
  refine cM jW rfl rfl ?_
  simp only[ae]
  refine hk.chk _ _ ?_
  simp only[ae]
  refine hk.find k _ F Ed.1 ?_
  have fin:∀ob,j9 r kv (mS k v' F) [(r,ob)]→upon X.C X.P X.aD dst (A X.n e X.D) (fun a' s'=>ai X.C X.fn X.aD ops todo (KQ X kk) a' s') (KQ X kk) .skip ⟨X.ro,L1++(r,ob)::R1⟩:=by
   intro ob hL
   show ai _ _ _ _ _ _ _ _
   have:=hle ob hL
   rw[←bu] at this
   exact this
  cases yX:tz k F 0 with
  |some u=>
   obtain⟨j,u⟩:=u
   have Uw:=q9 yX
   simp only[Nat.sub_zero] at Uw
   have aVB:((es[j]?).map (·.key)).getD (kv k)=kv k:=by
    have h1:(es.toList.map (fun e=>(e.key,e.val)))[j]?=some (kv k,u):=by rw[Ed.1];simp[Uw.2]
    simp only[List.getElem?_map,Array.getElem?_toList] at h1
    cases he:es[j]? with
    |none=>rfl
    |some e1=>rw[he] at h1;simp at h1;simp[h1.1]
   simp only[ae,Instr.keyThatStays,aVB,hk.stay,if_true,ah]
   refine eH rfl cu rfl<|fin _ ⟨_,_,rfl,?_,?_,?_⟩
   ·simp only[Array.toList_modify,mS,yX]
    exact HS _ _ _ Ed.1
   ·simp only[Array.toList_modify,xP];exact Ed.2.1
   intro e1 h1
   have:e1.born∈((es.toList.modify j fun e=>{e with key:=kv k,val:=v'}).map (·.born)):=List.mem_map_of_mem (by simpa using h1)
   rw[xP] at this
   obtain⟨e2,h3,h4⟩:=List.mem_map.1 this
   rw[←h4];exact Ed.2.2 e2 h3
  |none=>
   refine eH rfl cu rfl<|fin _ ⟨_,_,rfl,?_,?_,?_⟩
   ·simp only[Array.toList_push,List.map_append,mS,yX,Ed.1];rfl
   ·simp only[Array.toList_push,List.map_append,List.map_cons,List.map_nil]
    refine List.nodup_append.2 ⟨Ed.2.1,by simp,?_⟩
    intro a ha b hb
    obtain⟨e2,h3,rfl⟩:=List.mem_map.1 ha
    have:=Ed.2.2 e2 h3
    simp only[List.mem_singleton] at hb
    omega
   intro e1 h1
   simp only[Array.toList_push,List.mem_append,List.mem_singleton] at h1
   rcases h1 with h1|rfl
   ·have:=Ed.2.2 e1 h1;omega
   exact Nat.lt_succ_self _
 have hc2:=hc
 unfold muV at hc
 split at hc<;>try (cases hc;done)
 ·rename_i T x y z aC
  dsimp only at aC
  exact main T x y z (.inl aC) (by rw[←hc2,aC])
 rename_i T x y z aC
 dsimp only at aC
 refine main T x y z (.inr aC) ?_
 rw[←hc2,aC];rfl
end
attribute [irreducible] luV avC muV
section
variable {X:Cx} {o:Option JS}
def Nr(P:Program)(n:Nat)(p:Oper)(e:Env):Option (FuncId×List Value):=match p.op with
 | .call ⟨.invoke x name,xs,_⟩=>match bE n e x with
  |some (.iface t v)=>match bH P (method (P.types.size+Made.depth) t v name) with
   |some (f,r)=>match y5 n e xs.toList with
    |some vs=>bif C2 P f then some (f,r::vs) else none
    |none=>none
   |none=>none
  |_=>none
 |_=>none
theorem alj(h:Nr P n p e=some (f,vs)):FF P f∧∃x name xs at_ t v r ws,p.op= .call ⟨.invoke x name,xs,at_⟩∧bE n e x=some (.iface t v)∧bH P (method (P.types.size+Made.depth) t v name)=some (f,r)∧y5 n e xs.toList=some ws∧vs=r::ws:=by
 unfold Nr at h
 split at h<;>try (cases h;done)
 rename_i x name xs at_ aC
 split at h<;>try (cases h;done)
 rename_i t v hx
 split at h<;>try (cases h;done)
 rename_i f0 r hm
 split at h<;>try (cases h;done)
 rename_i ws td
 cases hb:C2 P f0 with
 |false=>rw[hb] at h;cases h
 |true=>
  rw[hb] at h
  simp only[cond_true,Option.some.injEq,Prod.mk.injEq] at h
  obtain⟨rfl,rfl⟩:=h
  exact⟨lI hb,x,name,xs,at_,t,v,r,ws,aC,hx,hm,td,rfl⟩
theorem jpI{V:Value}(hf:∀aJ,Sub X.ro aJ→dG X.P f vs aJ V)(hj:J X (N8 [] V o))(h1:dE X.n (Nr X.P X.n) o=some (f,vs):=by kernel_rfl)(h3:dO [] o=some []:=by kernel_rfl):J X o:=by
 refine jGN h1 h3 (fun s p e ho hh hc=>?_) hj
 obtain⟨ff,x,name,xs,at_,t,v,r,ws,aC,hx,hm,td,rfl⟩:=alj hc
 rcases p with ⟨dst,op,ty,pos,dt,g⟩
 dsimp only at aC;subst aC
 refine⟨rfl,fun s0 H9 wA ops i ub rest hw s' hs todo Q hk=>?_⟩
 refine cd X.hC ub hw (by simp) ?_
 have e1:=aH (bB (rest:=rest) hx)
 have e2:xs.map (ev X.n (e++rest))=⟨ws⟩:=tq (yy td)
 simp only[execOp,resolve,e1,e2,ah]
 have hex:((#[Value.iface t v]++(⟨ws⟩:Array Value)).extract 1 (#[Value.iface t v]++(⟨ws⟩:Array Value)).size)=⟨ws⟩:=by simp
 have h0:(#[Value.iface t v]++(⟨ws⟩:Array Value))[0]?=some (.iface t v):=by simp
 simp only[invoke,h0,hex,callMethod,ae,fu]
 refine bh hm ?_
 have ni:(#[r]++⟨ws⟩:Array Value)=⟨r::ws⟩:=by simp
 rw[ni]
 refine kL ff ?_
 have hu:=(dG.use (s:=⟨X.ro,[]⟩) (sz:=s') (fun b o hb=>hs _ _ (H9 _ _ hb)) (fun aJ h1=>hf aJ fun b ob hb=>h1 b ob (.inl hb))).weaken X.hC
 refine Fn.mono hu fun en s1 Ff=>?_
 obtain⟨rfl,hle⟩:=Ff
 show ai _ _ _ _ _ _ _ _
 rw[bu]
 exact hk.more X.hC hle
theorem jS{f:Oper→Env→Option β}{r:β}(ps:List Nat)(B:Cells)(hv:e8 X.n f o=some r)(hB:dO ps o=some B)
 (hy:∀p e,f p e=some r→(∀c,p.op≠ .defer c)∧∀(R:Cells) (Q:Next→St→Prop) (E:Halt→St→Prop),(∀v L',Φ v L'→Q (.value v) ⟨X.ro,L'++R⟩)→bU X.P (execOp (ev X.n e) p) ⟨X.ro,B++R⟩ Q E)
 (hj:∀v L',Φ v L'→J X (nq ps v L' o)):J X o:=by
 obtain⟨ops,i,todo,k,e,w,kn,p,rfl,ho,hw,hc⟩:=dJ hv
 intro cv
 have hp:=bO hB
 obtain⟨hd,ht⟩:=hy p e hc
 have:ai X.C X.fn X.aD ops (i::todo) (KQ X k) (A X.n e X.D) ⟨X.ro,B++den (dL ps 0 w)⟩:=by
  refine cd X.hC ho hw hd<|ht _ _ _ fun v L' ql=>?_
  have:=hj v L' ql
  rw[oH ho] at this
  have:=this cv
  simp only[JP,gZ] at this
  show ai _ _ _ _ _ _ _ _
  rw[bu]
  exact this
 have hle:(⟨X.ro,B++den (dL ps 0 w)⟩:St).le ⟨X.ro,den w⟩:=⟨[],by rw[List.append_nil];exact hp,fun b o hb=> .inl hb⟩
 exact this.more X.hC hle
end
attribute [irreducible] Nr
section
variable {X:Cx} {o:Option JS}
def iaA(P:Program)(n:Nat)(p:Oper)(e:Env):Option (Nat×Nat×Int×Nat×Nat):=match p.op with
 | .indexAddr T x y=>match a8 P T with
  |some ⟨.array len E,_,_,_⟩=>match a8 P E with
   |some te=>match bE n e x with
    |some (.pointer (some ⟨b,off,none⟩))=>match bE n e y with
     |some (.int _ ix)=>some (b,off,ix,len,te.size)
     |_=>none
    |_=>none
   |none=>none
  |_=>none
 |_=>none
theorem JM{b len:Nat}(ix:Int)(hi:0≤ix∧ix <len)(hj:J X (j8 (.pointer (some ⟨b,off+ix.toNat*sz,none⟩)) o))(hv:dE X.n (iaA X.P X.n) o=some (b,off,ix,len,sz):=by kernel_rfl):J X o:=by
 refine jG hv (fun s p e ho hh hf=>?_) hj
 unfold iaA at hf
 split at hf<;>try (cases hf;done)
 rename_i T x y aC
 split at hf<;>try (cases hf;done)
 rename_i aFr E _ _ _ dS
 split at hf<;>try (cases hf;done)
 rename_i te tX
 split at hf<;>try (cases hf;done)
 rename_i b' avo hx
 split at hf<;>try (cases hf;done)
 rename_i ik ix' hy
 simp only[Option.some.injEq,Prod.mk.injEq] at hf
 obtain⟨rfl,rfl,rfl,rfl,rfl⟩:=hf
 obtain⟨bL,tf⟩:=ay dS
 obtain⟨Ct,rM⟩:=ay tX
 have key:∀s,Yields X.P X.n e p s (.pointer (some ⟨b',avo+ix'.toNat*te.size,none⟩)):=by
  intro s s' nH f hf K E hK
  simp only[execOp,aC,Instr.indexAt,Instr.sureAddr,hf _ _ hx,hf _ _ hy,asIntOf,ae,ah,bk tf,hi,and_self,if_true,cy rM,dV]
  exact hK
 exact⟨by rw[aC];rfl,fun _=>key _,fun _=>key⟩
def saV(P:Program)(n:Nat)(p:Oper)(e:Env):Option (Nat×Nat×Int×Nat):=match p.op with
 | .slice T x none (some z) none=>match a8 P T with
  |some ⟨.array len E,_,_,_⟩=>match a8 P E with
   |some _=>match bE n e x with
    |some (.pointer (some ⟨b,off,none⟩))=>match bE n e z with
     |some (.int _ ix)=>some (b,off,ix,len)
     |_=>none
    |_=>none
   |none=>none
  |_=>none
 |_=>none
theorem jah{b len:Nat}(hi:Int)(hl:0≤hi∧hi≤len)(hj:J X (j8 (.slice (some ⟨b,off,none⟩) hi.toNat len) o))(hv:dE X.n (saV X.P X.n) o=some (b,off,hi,len):=by kernel_rfl):J X o:=by
 refine jG hv (fun s p e ho hh hf=>?_) hj
 unfold saV at hf
 split at hf<;>try (cases hf;done)
 rename_i T x z aC
 split at hf<;>try (cases hf;done)
 rename_i aFr E _ _ _ dS
 split at hf<;>try (cases hf;done)
 rename_i te tX
 split at hf<;>try (cases hf;done)
 rename_i b' avo hx
 split at hf<;>try (cases hf;done)
 rename_i ik ix' hy
 simp only[Option.some.injEq,Prod.mk.injEq] at hf
 obtain⟨rfl,rfl,rfl,rfl⟩:=hf
 obtain⟨bL,tf⟩:=ay dS
 obtain⟨Ct,rM⟩:=ay tX
 have key:∀s,Yields X.P X.n e p s (.slice (some ⟨b',avo,none⟩) ix'.toNat aFr):=by
  intro s s' nH f hf K E hK
  simp only[execOp,aC,Option.map_some,Option.map_none,Instr.sliceAt,Instr.sliceBounds,Instr.sliceBound,Instr.sureAddr,hf _ _ hx,hf _ _ hy,asIntOf,ae,ah,bk tf,Option.isSome_none,Bool.false_eq_true,if_false,hl,and_self,if_true,cy rM,Nat.zero_mul,dV,Nat.add_zero,ite_self,Nat.sub_zero]
  exact hK
 exact⟨by rw[aC];rfl,fun _=>key _,fun _=>key⟩
end
theorem qI{b:Nat}{v:Value}(h:s.has b (.cells ⟨l⟩ t fz))(hv:nth l off=some v):cK s b off 1 [v]:=
 ⟨_,_,_,h,by rw[s9] at hv;simp[jB (show off+1≤l.length by have:=(List.getElem?_eq_some_iff.1 hv).1;omega),List.drop_eq_getElem_cons (List.getElem?_eq_some_iff.1 hv).1,(List.getElem?_eq_some_iff.1 hv).2]⟩
theorem afx{b o m:Nat}{v:Value}(h:cK s b o m l)(hv:nth l off=some v):cK s b (o+off) 1 [v]:=
 h.part off 1 (by rw[s9] at hv;simp[jB (show off+1≤l.length by have:=(List.getElem?_eq_some_iff.1 hv).1;omega),List.drop_eq_getElem_cons (List.getElem?_eq_some_iff.1 hv).1,(List.getElem?_eq_some_iff.1 hv).2])
open Go.ConcR (KK wgBlock WgAt stA smA rd wr)
def TT(T:Goroutine→St→Prop)(b:Frame)(A6:List Item)(cs:List Frame)(n:Nat)(D:List Deferred)(ro:Nat→Option Obj)(o:Option JS):Prop:=
 ∀e w kn,o=some ⟨.fin .normal,e,w,kn⟩→Knows ro kn.c→T (G (aM b (A n e D) A6) cs) ⟨ro,den w⟩
def CT{P:Program}(hm:P.follows .mixedOrders=true){main:Bool}{T:Goroutine→St→Prop}(hT:Closed P main T)(b:Frame)(A6:List Item)(cs:List Frame)(n:Nat)(D:List Deferred)(ro:Nat→Option Obj):Cx:=
 ⟨P,fun m T'=>m=main∧T'=T,by rintro _ _ ⟨rfl,rfl⟩;exact hT,hm,b.fn,none,n,D,ro,kG T b A6 cs⟩
def Xp:Option JS→Bool
 |some ⟨.fin .normal,_,_,_⟩=>true
 |_=>false
def opO(ops:Array Oper)(todo:List Nat):Option JS→Option JS
 |some ⟨.fin .normal,e,w,kn⟩=>some ⟨.ops ops todo [],e,w,⟨kn.c,[]⟩⟩
 |_=>none
def cdO(c:Code):Option JS→Option JS
 |some ⟨.fin .normal,e,w,kn⟩=>some ⟨.code c [],e,w,⟨kn.c,[]⟩⟩
 |_=>none
def stO(dst:Option Tmp)(v:Value):Option JS→Option JS
 |some ⟨p,e,w,kn⟩=>some ⟨p,upd dst v e,w,kn⟩
 |none=>none
def nwO(dst:Option Tmp)(v:Value)(q:Nat)(ob:Obj):Option JS→Option JS
 |some ⟨p,e,w,kn⟩=>some ⟨p,upd dst v e,.b q ob::w,kn⟩
 |none=>none
def adO(L:Cells):Option JS→Option JS
 |some ⟨p,e,w,kn⟩=>some ⟨p,e,.l L::w,kn⟩
 |none=>none
def evO(n:Nat)(x:Operand):Option JS→Option Value
 |some ⟨_,e,_,_⟩=>bE n e x
 |none=>none
def aY6(n:Nat)(xs:List Operand):Option JS→Option (List Value)
 |some ⟨_,e,_,_⟩=>y5 n e xs
 |none=>none
def vaO(P:Program)(n:Nat)(a:Oper):Option JS→Option Value
 |some ⟨_,e,_,_⟩=>aeA P n e a
 |none=>none
theorem acY(h:Xp o=true):∃e w kn,o=some ⟨.fin .normal,e,w,kn⟩:=by
 unfold Xp at h
 split at h
 ·exact⟨_,_,_,rfl⟩
 cases h
def fr0(f:FuncId)(k:CallKind):Frame:={(default:Frame) with fn:=f,kind:=k,roundOf:=none}
section
variable {P:Program} {main:Bool} {T:Goroutine→St→Prop} {b:Frame} {A6:List Item} {cs:List Frame} {n:Nat} {D:List Deferred} {ro:Nat→Option Obj} {o:Option JS} {ops:Array Oper}
theorem aeW(h:TT T b A6 cs n D ro o)(hQ:X.Q=kG T b A6 cs)(hn:X.n=n)(hD:X.D=D)(BY:X.ro=ro)(h1:Xp o=true):J X o:=by
 subst hn hD BY
 obtain⟨e,w,kn,rfl⟩:=acY h1
 intro cv
 show X.Q .normal _ _
 rw[hQ]
 exact h _ _ _ rfl cv
theorem yM{hm:P.follows .mixedOrders=true}{hT:Closed P main T}(h:TT T b A6 cs n D ro o)(h1:Xp o=true:=by kernel_rfl):J (CT hm hT b A6 cs n D ro) o:=aeW h rfl rfl rfl rfl h1
theorem aC3{hm:P.follows .mixedOrders=true}{hT:Closed P main T}{qk:Nat→Option Obj}(h:TT T b A6 cs n D ro o)(h1:Xp o=true:=by kernel_rfl):J ((CT hm hT b A6 cs n D qk).at ro) o:=aeW h rfl rfl rfl rfl h1
theorem aC2{hm:P.follows .mixedOrders=true}{hT:Closed P main T}{bd:Nat}(h:TT T b A6 cs n (eC bd::D) ro o)(h1:Xp o=true:=by kernel_rfl):J ((CT hm hT b A6 cs n D ro).dm bd) o:=aeW h rfl rfl rfl rfl h1
theorem wO(hm:P.follows .mixedOrders=true)(hT:Closed P main T){todo:List Nat}(hj:J (CT hm hT b A6 cs n D ro) (opO ops todo o))(hk:b.kind≠ .early:=by decide)(hr:b.roundOf=none:=by rfl):TT T b (.inRegion ops todo::A6) cs n D ro o:=by
 rintro e w kn rfl cv
 exact hj cv main T ⟨rfl,rfl⟩ b A6 cs rfl hk hr fun e a s q=>q
theorem aC4(hm:P.follows .mixedOrders=true)(hT:Closed P main T){c:Code}(hj:J (CT hm hT b A6 cs n D ro) (cdO c o))(hk:b.kind≠ .early:=by decide)(hr:b.roundOf=none:=by rfl):TT T b (.code c::A6) cs n D ro o:=by
 rintro e w kn rfl cv
 exact hj cv main T ⟨rfl,rfl⟩ b A6 cs rfl hk hr fun e a s q=>q
theorem tSt(hT:Closed P main T)(ef:Env)(wf:List Sg)(ps:List Nat)(h:∀rest,TT T b A6 cs n D ro (some ⟨.fin .normal,ef++rest,wf,⟨[],[]⟩⟩))(h1:oR (lU ef) o=some ef:=by kernel_rfl)(h2:p7 ps o=some wf:=by kernel_rfl)(h3:lkE (lU ef) ef=some ef:=by kernel_rfl):TT T b A6 cs n D ro o:=by
 rintro e w kn rfl cv
 obtain⟨rest,he⟩:=gI (n:=n) (D:=D) (lf (by rw[tU] at h1;exact h1)) (lf h3)
 rw[he]
 exact hT.mono _ ⟨ro,den wf⟩ _ (dY (mr h2) (Sub.refl _)) (h rest _ _ _ rfl fun _ h=>(by cases h))
section
variable {k:List Item} {rest l:List Code} (hT:Closed P main T)
include hT
theorem qF(hl:iu l= .region id ops false::rest)(h:∀l',iu l'=rest→TT T b (.inRegion ops (List.range ops.size)::(l'.map .code++k)) cs n D ro o):TT T b (l.map .code++k) cs n D ro o:=
 fun e w kn ho cv=>dP hT hl fun l' yq=>h l' yq e w kn ho cv
theorem Yu{c:Operand}{x y:Code}{t q:Bool}(hl:iu l= .cond c x y::rest)(hq:q=t)(h:∀l',iu l'=rest→TT T b (.code (if t then x else y)::(l'.map .code++k)) cs n D ro o)(hc:evO n c o=some (.bool q):=by kernel_rfl):TT T b (l.map .code++k) cs n D ro o:=by
 subst hq
 rintro e w kn rfl cv
 exact BG hT hl (by rw[eG];exact aH hc) fun l' yq=>h l' yq e w kn rfl cv
theorem NQ{c:Code}(hl:iu l= .block id c::rest)(h:∀l',iu l'=rest→TT T b ([c].map .code++(.inBlock id::(l'.map .code++k))) cs n D ro o):TT T b (l.map .code++k) cs n D ro o:=
 fun e w kn ho cv=>xb hT hl fun l' yq=>h l' yq e w kn ho cv
theorem aro{c:Code}(hl:iu l= .loop c::rest)(h:∀l',iu l'=rest→TT T b ([c].map .code++(.inLoop c::(l'.map .code++k))) cs n D ro o):TT T b (l.map .code++k) cs n D ro o:=
 fun e w kn ho cv=>Of hT hl fun l' yq=>h l' yq e w kn ho cv
theorem arp{c:Code}(hl:iu l=c::rest)(h:∀l',iu l'=rest→TT T b (.code c::(l'.map .code++k)) cs n D ro o):TT T b (l.map .code++k) cs n D ro o:=
 fun e w kn ho cv=>ou hT hl fun l' yq=>h l' yq e w kn ho cv
theorem arl(h:TT T b k cs n D ro o):TT T b (.code .skip::k) cs n D ro o:=fun e w kn ho cv=>Px hT (h e w kn ho cv)
theorem arq{k':List Item}(hk:exitTo id k=some k')(h:TT T b k' cs n D ro o):TT T b (.code (.exit id)::k) cs n D ro o:=fun e w kn ho cv=>Py hT hk (h e w kn ho cv)
theorem ars(h:TT T b k cs n D ro o):TT T b (.inBlock id::k) cs n D ro o:=fun e w kn ho cv=>Eu hT (h e w kn ho cv)
theorem Yt(h:TT T b k cs n D ro o):TT T b (.inRegion ops []::k) cs n D ro o:=fun e w kn ho cv=>iN hT (h e w kn ho cv)
theorem aeX{c:Code}(h:TT T b ([c].map .code++(.inLoop c::k)) cs n D ro o):TT T b (.inLoop c::k) cs n D ro o:=fun e w kn ho cv=>A1 hT (h e w kn ho cv)
theorem aCY{a:Oper}{f:Nat→Value}{ob:Obj}(ho:ops[i]?=some a) (hg:a.guard=none) (ud:∀e q,VV P (execOp (ev n e) a) q=some (ob,f q)) (hk:b.kind≠ .early) (hr:b.roundOf=none)
 (h:∀q,TT T b (.inRegion ops todo::k) cs n D ro (nwO a.dst (f q) q ob o)):TT T b (.inRegion ops (i::todo)::k) cs n D ro o:=by
 rintro e w kn rfl cv
 refine tQ hT ho (dI _ _ hg) hk hr ?_
 rw[eG]
 refine HL (f:=f) (fun q _=>⟨_,rfl,?_⟩) _ (ud e)
 rw[bu]
 have:=h q _ _ _ rfl cv
 rw[jq] at this
 exact this
theorem aCV{a:Oper}(v:Value)(ho:ops[i]?=some a) (hg:a.guard=none) (hk:b.kind≠ .early) (hr:b.roundOf=none) (h:TT T b (.inRegion ops todo::k) cs n D ro (stO a.dst v o)) (hv:vaO P n a o=some v:=by kernel_rfl):TT T b (.inRegion ops (i::todo)::k) cs n D ro o:=by
 rintro e w kn rfl cv
 refine tQ hT ho (dI _ _ hg) hk hr ?_
 rw[eG]
 refine Bp hv _ (Ext.refl _) _ (fun _ _ h=>aH h) _ _ ⟨v,rfl,?_⟩
 rw[bu]
 exact h _ _ _ rfl cv
theorem tLd{a:Oper}(v:Value)(ho:ops[i]?=some a) (hg:a.guard=none) (aC:a.op= .load U x) (ht:(a8 P U).map (·.agg)=some false) (hk:b.kind≠ .early) (hr:b.roundOf=none) (hb:∀e w kn,o=some ⟨.fin .normal,e,w,kn⟩→(⟨ro,den w⟩:St).has q (.cells ⟨[v]⟩ t fz))
 (h:TT T b (.inRegion ops todo::k) cs n D ro (stO a.dst v o)) (hx:evO n x o=some (.pointer (some ⟨q,0,none⟩)):=by kernel_rfl):TT T b (.inRegion ops (i::todo)::k) cs n D ro o:=by
 rintro e w kn rfl cv
 refine tQ hT ho (dI _ _ hg) hk hr ?_
 rw[eG]
 cases dS:a8 P U with
 |none=>rw[dS] at ht;cases ht
 |some z=>
 rw[dS] at ht
 simp only[Option.map_some,Option.some.injEq] at ht
 obtain⟨bL,tf⟩:=ay dS
 rw[ht] at tf
 simp only[execOp,aC,Instr.loadAt,aH hx,Instr.sureAddr,loadVar,ae,ah,kZ tf,Bool.false_eq_true,if_false]
 refine wN ⟨[v],t,fz,hb _ _ _ rfl,rfl⟩ ⟨v,rfl,?_⟩
 rw[bu]
 exact h _ _ _ rfl cv
theorem aQO{a:Oper}(v:Value)(ho:ops[i]?=some a) (hg:a.guard=none) (aC:a.op= .load U x) (ht:(a8 P U).map (·.agg)=some false) (hk:b.kind≠ .early) (hr:b.roundOf=none) (ps:List Nat) (t:TypeId)
 (h:TT T b (.inRegion ops todo::k) cs n D ro (stO a.dst v o)) (hx:evO n x o=some (.pointer (some ⟨q,0,none⟩)):=by kernel_rfl) (hd:dO ps o=some [(q,.cells ⟨[v]⟩ t (0,0))]:=by kernel_rfl):TT T b (.inRegion ops (i::todo)::k) cs n D ro o:=
 tLd hT v ho hg aC ht hk hr (fz:=(0,0)) (t:=t) (q:=q) (fun e w kn he=>by
  subst he
  exact .inr ((bO hd).mem_iff.2 (List.mem_append_left _ (List.mem_singleton.2 rfl)))) h hx
end
theorem aur(hT:Closed P main T){a:Oper}{xs:Array Operand}{k:List Item}(ho:ops[i]?=some a) (hg:a.guard=none) (aC:a.op= .defer ⟨.value (.func f),xs,ats⟩) (hk:b.kind≠ .early) (hr:b.roundOf=none)
 (h:TT T b k cs n ({target:= .fn (.func f) ⟨[]⟩,args:=⟨vs⟩}::D) ro (stO a.dst undef o)) (hx:aY6 n xs.toList o=some vs:=by kernel_rfl):TT T b (.inRegion ops [i]::k) cs n D ro o:=by
 rintro e w kn rfl cv
 have hC:∀m T',(fun m T'=>m=main∧T'=T:Class) m T'→Closed P m T':=by rintro _ _ ⟨rfl,rfl⟩;exact hT
 have key:ai (fun m T'=>m=main∧T'=T) b.fn none ops [i] (kG T b k cs) (A n e D) ⟨ro,den w⟩:=by
  refine Oe (P:=P) hC ho (dI _ _ hg) (.inl rfl) ?_
  rw[eG]
  have e1:ev n e (.func f)= .func (.func f) #[] #[]:=rfl
  have e2:xs.map (ev n e)=⟨vs⟩:=tq hx
  simp only[execOp,aC,resolve,e1,Deferred.ofValue,ah,e2]
  refine⟨rfl,?_⟩
  have hA:({A n e D with defers:={target:= .fn (.func f) ⟨[]⟩,args:=⟨vs⟩}::(A n e D).defers}:Act).put a.dst undef=A n (upd a.dst undef e) ({target:= .fn (.func f) ⟨[]⟩,args:=⟨vs⟩}::D):=by
   rw[←bu];rfl
  have he:(⟨[]⟩:Array Value)++(⟨vs⟩:Array Value)=⟨vs⟩:=by simp
  rw[he]
  have:=h _ _ _ rfl cv
  rw[←hA] at this
  exact fun m T' hc b' k' J5 h1 h2 h3 h4=>by
   obtain⟨rfl,rfl⟩:=hc
   exact iN hT (h4 .normal _ _ this)
 exact key main T ⟨rfl,rfl⟩ b k cs rfl hk hr fun e a s q=>q
end
attribute [irreducible] Xp opO cdO
structure alG(L:Nat→Option Obj)(X:Cells)(ro aF:Nat→Option Obj):Prop where
 of:∀q o,L q=some o→(q,o)∈X
 on:∀q o,(q,o)∈X→L q=some o
 sub:Sub ro aF
 kn:Knows aF X
 nd:(X.map (·.1)).Nodup
 ap:∀q o,(q,o)∈X→ro q=none
def bkO(L:Cells):Option JS→Option JS
 |some ⟨p,e,w,_⟩=>some ⟨p,e,.l L::w,⟨[],[]⟩⟩
 |none=>none
def Vq(ps:List Nat):Option JS→Option Cells
 |some ⟨_,_,w,_⟩=>some (den (dL ps 0 w))
 |none=>none
def Zu:Option JS→Option JS
 |some ⟨p,e,_,kn⟩=>some ⟨p,e,[],⟨kn.c,[]⟩⟩
 |none=>none
theorem Ey:∀(w:List Sg) (k:Nat),dL [] k w=w
 | [],_=>rfl
 |x::w,k=>by
  simp only[dL,bA]
  rw[Ey w]
  rfl
theorem alG.back{L:Nat→Option Obj}{X:Cells}{roK:Nat→Option Obj}{rwK:Cells}(h:alG L X ro aF)(hs:Sub aF roK):
 (∀w,aU ⟨roK,rwK⟩ w→(∀b o,L b=some o→w.heap[b]?=some o)→aU ⟨ro,X++rwK⟩ w)∧∀b,(⟨ro,X++rwK⟩:St).knows b→L b≠none∨(⟨roK,rwK⟩:St).knows b:=by
 refine⟨fun w hw hL=>⟨fun q o hq=>hw.ro q o (hs _ _ (h.sub _ _ hq)),fun q o hq=>?_,?_,fun q o hq=>?_⟩,fun q hq=>?_⟩
 ·rcases List.mem_append.1 hq with hq|hq
  ·exact hL q o (h.on q o hq)
  exact hw.rw q o hq
 ·show ((X++rwK).map (·.1)).Nodup
  rw[List.map_append,List.nodup_append]
  refine⟨h.nd,hw.nodup,fun q hq q' GH e=>?_⟩
  subst e
  obtain⟨⟨q1,o1⟩,h1,rfl⟩:=List.mem_map.1 hq
  obtain⟨⟨q2,o2⟩,h2,e2⟩:=List.mem_map.1 GH
  simp only at e2
  subst e2
  have h3:=hs _ _ (h.kn _ h1)
  have h4:=hw.apart _ _ h2
  dsimp only at h3 h4
  rw[h4] at h3
  cases h3
 ·show ro q=none
  rcases List.mem_append.1 hq with hq|hq
  ·exact h.ap q o hq
  have h2:roK q=none:=hw.apart q o hq
  cases hr:ro q with
  |none=>rfl
  |some o'=>rw[hs _ _ (h.sub _ _ hr)] at h2;cases h2
 rcases hq with hq| ⟨o,hq⟩
 ·have hq:ro q≠none:=hq
  cases hr:ro q with
  |none=>exact absurd hr hq
  |some o'=>exact .inr (.inl (by show roK q≠none;rw[hs _ _ (h.sub _ _ hr)];simp))
 rcases List.mem_append.1 hq with h'|h'
 ·exact .inl (by rw[h.on q o h'];simp)
 exact .inr (.inr ⟨o,h'⟩)
section
variable {ι:Type} {E:eg ι} {Q:Machine→Outcome→World→Trace→Prop} {b:Frame} {A6:List Item} {cs:List Frame} {n:Nat} {D:List Deferred} {ro:Nat→Option Obj} {o:Option JS} {ops:Array Oper} {L:Nat→Option Obj}
theorem auq{tm:Bool}(iw ic:Nat)(X:Cells)(iY:Closed E.P true (TL E.P eJ (fun _=>none) (Calm E.os E.out) Q))
 (h:∀L aF,alG L X ro aF→E.Wg≠E.Ch→L E.Ch=none→TT (TM E L Q 0 false [] 0) b A6 cs n D aF (Zu o))
 (hW:dO [iw,ic] o=some [(E.Wg,wgBlock E.ty 0 0),(E.Ch,.chan 0 #[] false 0 0 tm)]:=by kernel_rfl)(hX:Vq [iw,ic] o=some X:=by kernel_rfl):TT (TL E.P eJ (fun _=>none) (Calm E.os E.out) Q) b A6 cs n D ro o:=by
 rintro e w kn rfl cv
 refine Closed.kB iY rfl fun⟨w0,ZV⟩=>?_
 have hp:=bO hW
 simp only[Vq,Option.some.injEq] at hX
 have Us:=hp
 dsimp only at Us
 rw[hX] at Us
 have hm:∀x,x∈den w↔x=(E.Wg,wgBlock E.ty 0 0)∨x=(E.Ch,.chan 0 #[] false 0 0 tm)∨x∈X:=fun x=>by
  rw[Us.mem_iff]
  simp
 have mJ:=(Us.map (·.1)).nodup_iff.1 ZV.nodup
 simp only[List.cons_append,List.nil_append,List.map_cons,List.nodup_cons,List.mem_cons,not_or] at mJ
 obtain⟨⟨dQ,hW1⟩,hC1,SH⟩:=mJ
 have yt:∀x∈X,x∈den w:=fun x hx=>(hm x).2 (.inr (.inr hx))
 have aIp:(E.Wg,wgBlock E.ty 0 0)∈den w:=(hm _).2 (.inl rfl)
 have ajI:(E.Ch,Obj.chan 0 #[] false 0 0 tm)∈den w:=(hm _).2 (.inr (.inl rfl))
 have OY:∀y∈X,y.1≠E.Wg∧y.1≠E.Ch:=fun y hy=>⟨fun e=>hW1 (e▸List.mem_map.2 ⟨_,hy,rfl⟩),fun e=>hC1 (e▸List.mem_map.2 ⟨_,hy,rfl⟩)⟩
 let L:Nat→Option Obj:=fun q=>(X.find? fun y=>y.1==q).map (·.2)
 have W0:∀q o,L q=some o→(q,o)∈X:=fun q o hq=>by
  obtain⟨y,hy,rfl⟩:=Option.map_eq_some_iff.1 hq
  obtain⟨h1,h2⟩:=oY hy
  subst h2
  exact h1
 have aXB:∀q o,(q,o)∈X→L q=some o:=fun q o hq=>by
  show (X.find? fun y=>y.1==q).map (·.2)=some o
  rw[xE SH hq];rfl
 have W5:L E.Ch=none:=by
  cases hq:L E.Ch with
  |none=>rfl
  |some o=>exact absurd rfl (OY _ (W0 _ _ hq)).2
 have ni:∀q o,(q,o)∈X→ro q=none:=fun q o hq=>ZV.apart q o (yt _ hq)
 have fT:Sub ro (St.freeze ⟨ro,X⟩).ro:=fun q o hq=>St.og (s:=⟨ro,X⟩) hq fun q o hq=>ni q o hq
 have aiL:∀q,(∃o,(q,o)∈den w)→(q=E.Wg∨q=E.Ch)→¬(St.freeze ⟨ro,X⟩).knows q:=by
  rintro q ⟨o,ho⟩ hq (hk| ⟨o',GI⟩)
  ·simp only[St.freeze] at hk
   split at hk
   ·rename_i y hy
    obtain⟨h1,h2⟩:=oY hy
    have:=OY _ h1
    rcases hq with e|e
    ·exact this.1 (h2.trans e)
    exact this.2 (h2.trans e)
   exact hk (ZV.apart q o ho)
  cases GI
 have aHg:alG L X ro (St.freeze ⟨ro,X⟩).ro:=⟨W0,aXB,fT,fun x hx=>St.ug (s:=⟨ro,X⟩) (by rcases x with ⟨q,o⟩;exact hx) SH,SH,ni⟩
 refine QQ (E:=E) (L:=L) (s':=St.freeze ⟨ro,X⟩) rfl dQ aIp ⟨tm,ajI⟩ ?_ (aiL _ ⟨_,aIp⟩ (.inl rfl)) (aiL _ ⟨_,ajI⟩ (.inr rfl)) (fun q ⟨o,ho⟩=>by cases ho) (fun q o hq=>⟨.inr (yt _ (W0 _ _ hq)),OY _ (W0 _ _ hq)⟩) ?_
 ·refine⟨den w,by simp[St.freeze],fun q o hq=>?_⟩
  simp only[St.freeze] at hq
  split at hq
  ·rename_i y hy
   obtain⟨h1,h2⟩:=oY hy
   cases hq
   subst h2
   exact .inr (yt _ h1)
  exact .inl hq
 exact(h L _ aHg dQ W5 _ _ _ rfl (cv.up fT)).1
theorem aQR{os:List ι}{a:Oper}{k:List Item}{bs:List Nat}(h:TT (TM E L Q 1 false os 0) b k cs n D ro (stO a.dst (.tuple #[]) o))(ho:ops[0]?=some a) (hg:a.guard=none) (aC:a.op= .call ⟨.value (.func f),#[x,.const (.int .i64 1)],ats⟩) (hf:FF E.P f) (hk:b.kind≠ .early) (hr:b.roundOf=none) (KC:os.length <E.max)
 (ajh:Jg E.P E.ty os.length (Frame.enter E.P f #[.pointer (some ⟨E.Wg,0,none⟩),.int .i64 1] .normal)=some bs) (hbs:∀b∈bs,b=E.Wg) (hx:evO n x o=some (.pointer (some ⟨E.Wg,0,none⟩)):=by kernel_rfl):TT (TM E L Q 0 false os 0) b (.inRegion ops [0]::k) cs n D ro o:=by
 rintro e w kn rfl cv
 have hT:Closed E.P true (TM E L Q 0 false os 0):=fI (E:=E) false os (fun e=>(by cases e))
 have WZ:Closed E.P true (TM E L Q 1 false os 0):=fI (E:=E) false os (fun e=>(by cases e))
 refine RF (rest:=[]) hT ho hg hk hr aC hf ?_
 have nM:(#[x,.const (.int .i64 1)]:Array Operand).map (A n e D).eval= #[.pointer (some ⟨E.Wg,0,none⟩),.int .i64 1]:=by
  rw[eG]
  simp only[List.map_toArray,List.map_cons,List.map_nil,aH hx]
  rfl
 rw[nM]
 refine⟨Nq (E:=E) ajh hbs KC ?_,fun e=>(by cases e)⟩
 rw[gi,ho]
 simp only[Option.bind_some]
 rw[bu]
 exact(iN WZ (h _ _ _ rfl cv)).1
theorem tGo{os:List ι}(oo:ι){a:Oper}{k:List Item}(L1:Cells)(ho:ops[i]?=some a) (hg:a.guard=none) (aC:a.op= .go ⟨.value y,#[],ats⟩) (hk:b.kind≠ .early) (hr:b.roundOf=none)
 (h:∀aF,Sub ro aF→Knows aF L1→fo E.P false (E.La oo) (born E.P {target:= .fn (.func f) ⟨ca⟩,args:= #[]}) ⟨aF,[]⟩∧TT (TM E L Q 0 false (os++[oo]) 0) b (.inRegion ops todo::k) cs n D aF (Zu (stO a.dst undef o)))
 (hy:evO n y o=some (.func (.func f) ⟨[]⟩ ⟨ca⟩):=by kernel_rfl) (hL:Vq [] o=some L1:=by kernel_rfl):TT (TM E L Q 1 false os 0) b (.inRegion ops (i::todo)::k) cs n D ro o:=by
 rintro e w kn rfl cv
 have WZ:Closed E.P true (TM E L Q 1 false os 0):=fI (E:=E) false os (fun e=>(by cases e))
 refine Closed.kB WZ rfl fun qn=>?_
 obtain⟨w0,ZV⟩:=qn
 have mJ:((den w).map (·.1)).Nodup:=ZV.nodup
 have ni:∀q o,(q,o)∈den w→ro q=none:=ZV.apart
 have fT:Sub ro (St.freeze ⟨ro,den w⟩).ro:=fun q o hq=>St.og (s:=⟨ro,den w⟩) hq ni
 have axY:Knows (St.freeze ⟨ro,den w⟩).ro L1:=fun x hx=>St.ug (s:=⟨ro,den w⟩) (by rcases x with ⟨q,o⟩;simp only[Vq,Option.some.injEq] at hL;rw[←hL,Ey] at hx;exact hx) mJ
 obtain⟨h1,h2⟩:=h _ fT axY
 have cg:=fun w'=>GQ (P:=E.P) (main:=true) (b:=b) (a:=A n e D) (k:=k) (cs:=cs) (rest:=todo) ho hg hk hr aC (by rw[eG];exact aH hy) w'
 have:=h2 _ _ _ rfl (cv.up fT)
 rw[←bu] at this
 exact⟨TC.mono (St.Em ⟨ro,den w⟩) (Ly (E:=E) (o:=oo) (s:=St.freeze ⟨ro,den w⟩) rfl rfl (fun w' _=>cg w') h1 this.1),fun e=>(by cases e)⟩
theorem auu{os:List ι}{a:Oper}{k:List Item}(L1:Cells)(ho:ops[i]?=some a) (hg:a.guard=none) (aC:a.op= .go ⟨.value y,#[],ats⟩) (hk:b.kind≠ .early) (hr:b.roundOf=none)
 (h:∀aF,Sub ro aF→Knows aF L1→E.closes ⟨aF,[]⟩ (born E.P {target:= .fn (.func f) ⟨ca⟩,args:= #[]})∧TT (TM E L Q 0 true os 0) b (.inRegion ops todo::k) cs n D aF (Zu (stO a.dst undef o)))
 (hy:evO n y o=some (.func (.func f) ⟨[]⟩ ⟨ca⟩):=by kernel_rfl) (hL:Vq [] o=some L1:=by kernel_rfl):TT (TM E L Q 0 false os 0) b (.inRegion ops (i::todo)::k) cs n D ro o:=by
 rintro e w kn rfl cv
 have WZ:Closed E.P true (TM E L Q 0 false os 0):=fI (E:=E) false os (fun e=>(by cases e))
 refine Closed.kB WZ rfl fun qn=>?_
 obtain⟨w0,ZV⟩:=qn
 have mJ:((den w).map (·.1)).Nodup:=ZV.nodup
 have ni:∀q o,(q,o)∈den w→ro q=none:=ZV.apart
 have fT:Sub ro (St.freeze ⟨ro,den w⟩).ro:=fun q o hq=>St.og (s:=⟨ro,den w⟩) hq ni
 have axY:Knows (St.freeze ⟨ro,den w⟩).ro L1:=fun x hx=>St.ug (s:=⟨ro,den w⟩) (by rcases x with ⟨q,o⟩;simp only[Vq,Option.some.injEq] at hL;rw[←hL,Ey] at hx;exact hx) mJ
 obtain⟨h1,h2⟩:=h _ fT axY
 have cg:=fun w'=>GQ (P:=E.P) (main:=true) (b:=b) (a:=A n e D) (k:=k) (cs:=cs) (rest:=todo) ho hg hk hr aC (by rw[eG];exact aH hy) w'
 have:=h2 _ _ _ rfl (cv.up fT)
 rw[←bu] at this
 exact⟨TC.mono (St.Em ⟨ro,den w⟩) (Lz (E:=E) (s:=St.freeze ⟨ro,den w⟩) rfl rfl (fun w' _=>cg w') h1 this.1),fun e=>(by cases e)⟩
theorem arn{os:List ι}{a:Oper}{rc:Operand}{z:Value}{k:List Item}{X:Cells}{aJ:Nat→Option Obj}(hl:alG L X qk aJ)(cu:Sub aJ ro)(W5:L E.Ch=none)(ho:ops[0]?=some a) (hg:a.guard=none) (Ur:∀ρ,bH E.P (execOp ρ a)=some (.comm #[{chan:=ρ rc,send:=none,zero:=z}] true (.recv true))) (hk:b.kind≠ .early) (hr:b.roundOf=none)
 (MT:∀a' oo b' v Y,os=a'++oo::b'→E.X5 oo v Y→TT (TM E L Q 0 true (a'++b') 0) b (.inRegion ops todo::k) cs n D ro (adO Y (stO a.dst (.tuple #[v,.bool true]) o)))
 (qW:os=[]→TT (TL E.P eJ (fun _=>none) (Calm E.os E.out) Q) b (.inRegion ops todo::k) cs n D qk (bkO X (stO a.dst (.tuple #[z,.bool false]) o)))
 (hx:evO n rc o=some (.chan (some E.Ch)):=by kernel_rfl):TT (TM E L Q 0 true os 0) b (.inRegion ops (0::todo)::k) cs n D ro o:=by
 rintro e w kn rfl cv
 have hT:Closed E.P true (TM E L Q 0 true os 0):=fI (E:=E) true os (fun _=>rfl)
 refine Closed.kB hT rfl fun qn=>?_
 have hvc:ev n e rc= .chan (some E.Ch):=aH hx
 have cg:∀w',stepG E.P true (G (aM b (A n e D) (.inRegion ops (0::todo)::k)) cs) w'= .comm (G (aM b (A n e D) (.inRegion ops (0::todo)::k)) cs) #[rcase E.Ch z] true (.recv true) w' #[]:=by
  intro w'
  have yw:=lh b (A n e D) (.inRegion ops (0::todo)::k)
  simp only[aM] at yw
  have hw:Region.wanted a (yielded ops (A n e D).tmps)=true:=dI _ _ hg
  have ky:(b.kind==CallKind.early)=false:=by simpa using hk
  have iq:stepG E.P true (G (aM b (A n e D) (.inRegion ops (0::todo)::k)) cs) w'=stepG.apply E.P true (aM b (A n e D) (.inRegion ops (0::todo)::k)) cs none (execOp (A n e D).eval a) w':=by
   simp only[G,stepG,stepG.exec,aM,ho,Option.map_some,Option.getD_some,hw,if_true,stepG.oper,Frame.oper?,yw]
   rw[hr]
  have cq:=uL (Ur (ev n e)) w' #[]
  rw[hvc] at cq
  rw[iq,eG]
  simp only[stepG.apply,if_true,cq,aM,ky,Bool.false_eq_true,if_false]
  simp[seen_none,GStep.after,G,rcase]
 have qm:∀v,Conc.served (G (aM b (A n e D) (.inRegion ops (0::todo)::k)) cs) v=G (aM b (A n (upd a.dst v e) D) (.inRegion ops todo::k)) cs:=by
  intro v
  have:=gi b (A n e D) ops 0 todo k v
  rw[ho] at this
  simp only[Option.bind_some] at this
  rw[bu] at this
  simp only[Conc.served,G] at this ⊢
  rw[this]
 have u7:os=[]→∀pc (g:Goroutine),g.status= .running→(∀w',stepG E.P true g w'= .comm (G (aM b (A n e D) (.inRegion ops (0::todo)::k)) cs) #[rcase E.Ch z] true (.recv true) w' #[])→
  TL E.P (jQ pc) L (JE E pc) Q g ⟨ro,den w⟩:=by
  intro uB pc g hg' awT
  obtain⟨hb1,fE⟩:=hl.back (rwK:=den w) cu
  refine Yl (E:=E) (z:=z) (s':=⟨qk,X++den w⟩) W5 hg' (fun w' _=>awT w') hb1 fE ?_
  rw[qm]
  have:=qW uB _ _ _ rfl fun x hx=>(by cases hx)
  rw[gZ] at this
  exact this
 refine⟨Yp (E:=E) (z:=z) rfl (fun w' _=>cg w') (fun a' oo b' v Y uB oT=>?_) fun uB pc=>⟨u7 uB pc _ rfl cg,u7 uB pc _ rfl fun w'=>cg w'⟩,fun _ uB pc=>u7 uB pc _ rfl cg⟩
 rw[qm]
 have:=MT a' oo b' v Y uB oT _ _ _ rfl cv
 rw[gZ] at this
 exact this.1
theorem aCX{oo:ι}{a:Oper}{sc sv:Operand}{v:Value}{Y:Cells}{k:List Item}(ys:List Nat)(ho:ops[i]?=some a) (hg:a.guard=none) (hse:∀ρ,execOp ρ a=Sem.pure (.comm #[{chan:=ρ sc,send:=some (ρ sv),zero:= .tuple #[]}] true .send)) (hk:b.kind≠ .early) (hr:b.roundOf=none)
 (hs:E.X5 oo v Y) (h:TT (fo E.P false E.JG) b (.inRegion ops todo::k) cs n D ro (Ex ys (stO a.dst undef o)))
 (hx:evO n sc o=some (.chan (some E.Ch)):=by kernel_rfl) (hv:evO n sv o=some v:=by kernel_rfl) (hY:dO ys o=some Y:=by kernel_rfl):TT (fo E.P false (E.La oo)) b (.inRegion ops (i::todo)::k) cs n D ro o:=by
 rintro e w kn rfl cv
 refine fo.stop ?_
 have:=h e w kn
 refine⟨rfl,G (aM b (A n e D) (.inRegion ops (i::todo)::k)) cs,v,.tuple #[],Y,den (dL ys 0 w),bO hY,hs,fun w' qn=>?_,?_⟩
 ·have he:=lh b (A n e D) (.inRegion ops (i::todo)::k)
  simp only[aM] at he
  have ayf:ev n e sc= .chan (some E.Ch):=aH hx
  have aye:ev n e sv=v:=aH hv
  have hw:Region.wanted a (yielded ops (A n e D).tmps)=true:=dI _ _ hg
  have ky:(b.kind==CallKind.early)=false:=by simpa using hk
  have aGp:=hse (ev n e)
  rw[ayf,aye] at aGp
  have iq:stepG E.P false (G (aM b (A n e D) (.inRegion ops (i::todo)::k)) cs) w'=stepG.apply E.P true (aM b (A n e D) (.inRegion ops (i::todo)::k)) cs none (execOp (A n e D).eval a) w':=by
   simp only[G,stepG,stepG.exec,aM,ho,Option.map_some,Option.getD_some,hw,if_true,stepG.oper,Frame.oper?,he]
   rw[hr]
  rw[iq,eG,aGp]
  simp only[stepG.apply,if_true,Sem.runT,aM,ky,Bool.false_eq_true,if_false]
  simp[seen_none,GStep.after,G,scase]
 have qm:Conc.served (G (aM b (A n e D) (.inRegion ops (i::todo)::k)) cs) undef=G (aM b (A n (upd a.dst undef e) D) (.inRegion ops todo::k)) cs:=by
  have:=gi b (A n e D) ops i todo k undef
  rw[ho] at this
  simp only[Option.bind_some] at this
  rw[bu] at this
  simp only[Conc.served,G] at this ⊢
  rw[this]
 rw[qm]
 exact h _ _ _ (by simp only[Ex,stO]) cv
theorem auo{dn:Nat}{bs:List Nat}(hf:E.P.funcs[b.fn]?=some fn) (BZ:fn.results= #[]) (AN:C2 E.P dn=true) (Fg:yD E.P E.ty E.max (Frame.enter E.P dn #[.pointer (some ⟨E.Wg,0,none⟩)] .deferred)=some bs) (hbs:∀b∈bs,b=E.Wg) (ps:List Nat) (hk:b.kind= .deferred) (hr:b.roundOf=none)
 (hd:dO ps o=some [(bd,.deferred (some []))]:=by kernel_rfl):TT (fo E.P false E.JG) b [] [cT E.P] n [eC bd,{target:= .fn (.func dn) ⟨[]⟩,args:=⟨[.pointer (some ⟨E.Wg,0,none⟩)]⟩}] ro o:=by
 rintro e w kn rfl cv
 have hT2:=ei E.P false E.JG
 refine hT2.go rfl rfl (g':=G {aM b (A n e [eC bd,{target:= .fn (.func dn) ⟨[]⟩,args:=⟨[.pointer (some ⟨E.Wg,0,none⟩)]⟩}]) [] with mode:= .returning} [cT E.P]) (fun w=>by simp[G,stepG,stepG.exec,aM,hr]) ?_
 have hp:=bO hd
 obtain⟨Lw,Rr,hs⟩:=List.append_of_mem (hp.mem_iff.2 (List.mem_append_left _ (List.mem_singleton.2 rfl)))
 refine unwind_mark (C:=CA E.P) (fun _ _ h=>h) hT2 (.inl rfl) (fr:={aM b (A n e [eC bd,{target:= .fn (.func dn) ⟨[]⟩,args:=⟨[.pointer (some ⟨E.Wg,0,none⟩)]⟩}]) [] with mode:= .returning}) rfl hs<|jZ (C:=CA E.P) (fun _ _ h=>h) hT2 (.inl rfl) (lI AN) (ds:=[]) rfl<|fo.stop ?_
 have hq:QuitsD E.P 2 0 (G {aM b (A n e []) [] with mode:= .returning} [cT E.P]):=oF rfl rfl hk hf BZ
 exact Jf (E:=E) (c:={aM b (A n e []) [] with mode:= .returning}) (.inl rfl) hq Fg hbs
end
theorem aC5{S:Goroutine→St→Prop}{c:Code}(hf:P.funcs[f]?=some fn) (hb:fn.body=some c) (hn:fn.ntmps=n) (ff:C2 P f=true) (hle:Nat.ble ca.length n=true)
 (h:TT (fo P false S) (fr0 f .deferred) ([c].map .code++[]) [cT P] n [] ro (some ⟨.fin .normal,gu 0 ca,[],⟨[],[]⟩⟩)):fo P false S (born P {target:= .fn (.func f) ⟨ca⟩,args:= #[]}) ⟨ro,[]⟩:=by
 have hT:=ei P false S
 refine jZ (C:=CA P) (fun _ _ h=>h) hT (fr:={(default:Frame) with fn:=P.funcs.size,defers:=[{target:= .fn (.func f) ⟨ca⟩,args:= #[]}],mode:= .panicking [goexitEntry]}) (.inr ⟨_,rfl⟩) (lI ff) rfl ?_
 show fo P false S (G (Frame.enter P f (#[]++⟨ca⟩) .deferred) [cT P]) ⟨ro,[]⟩
 have iM:Frame.enter P f (#[]++⟨ca⟩) .deferred=aM (fr0 f .deferred) (A n (gu 0 ca) []) [.code c]:=by
  rw[←lj ca n (Nat.le_of_ble_eq_true hle)]
  simp[Frame.enter,aM,hf,hb,hn,fr0]
 rw[iM]
 exact h _ _ _ rfl fun x hx=>(by cases hx)
theorem anc{E:eg ι}{x:Nz}(hx:x.OK E.P E.ty){bs:List Nat}(Sz:Cp E.P E.ty E.max (Frame.enter E.P x.wait #[.pointer (some ⟨E.Wg,0,none⟩)] .normal)=some bs)(hbs:∀b∈bs,b=E.Wg)
 {a:Oper}(hq:ro q=some (.cells ⟨[.chan (some E.Ch)]⟩ t fz))(ho0:x.q1[0]?=some a) (hg0:a.guard=none) (aUX:a.op= .load U y) (ht:(a8 E.P U).map (·.agg)=some false)
 (hy:evO x.n y (some ⟨.fin .normal,fB x.o0.dst (.tuple #[]) (gu 0 [.pointer (some ⟨E.Wg,0,none⟩),.pointer (some ⟨q,0,none⟩)]),[],⟨[],[]⟩⟩)=some (.pointer (some ⟨q,0,none⟩)))
 (hc:evO x.n x.cx (stO a.dst (.chan (some E.Ch)) (some ⟨.fin .normal,fB x.o0.dst (.tuple #[]) (gu 0 [.pointer (some ⟨E.Wg,0,none⟩),.pointer (some ⟨q,0,none⟩)]),[],⟨[],[]⟩⟩))=some (.chan (some E.Ch))):
 E.closes ⟨ro,[]⟩ (born E.P {target:= .fn (.func x.f) ⟨[.pointer (some ⟨E.Wg,0,none⟩),.pointer (some ⟨q,0,none⟩)]⟩,args:= #[]}):=by
 obtain⟨fn,hf,BZ,MS⟩:=hx.fn
 obtain⟨hbf,tj,rQ⟩:=hx.bf
 have hk:x.b.kind≠ .early:=by rw[tj];simp
 have SD:∀g g',g.status= .running→g'.status= .running→(∀w,stepG E.P false g w= .go g' w #[])→E.closes ⟨ro,[]⟩ g'→E.closes ⟨ro,[]⟩ g:=
  fun g g' hg _ cg ⟨q,hq⟩=>⟨q+1,hg,g',fun w _=>cg w,hq⟩
 refine SD _ _ rfl rfl (Jo (lI hx.ff) _) ?_
 have Iu:(#[]++(⟨[.pointer (some ⟨E.Wg,0,none⟩),.pointer (some ⟨q,0,none⟩)]⟩:Array Value))= #[.pointer (some ⟨E.Wg,0,none⟩),.pointer (some ⟨q,0,none⟩)]:=by simp
 rw[Iu]
 refine Xj (iT:=[]) (cs:=[cT E.P]) SD (hx.enter _ _)<|Jd (E:=E) ?_ Sz hbs
 have hT:=ei E.P false E.K0
 show fo E.P false E.K0 (G ((aM x.b (A x.n (gu 0 [.pointer (some ⟨E.Wg,0,none⟩),.pointer (some ⟨q,0,none⟩)]) []) (.inRegion x.q0 (0::[])::[.code x.rest])).finish (.tuple #[])) [cT E.P]) ⟨ro,[]⟩
 rw[gi,hx.op0,bu]
 simp only[Option.bind_some]
 rw[kI]
 refine iN hT ?_
 obtain⟨id,aia⟩:=hx.rest
 refine dP (l:=[x.rest]) (k:=[]) hT aia fun l2 rO=>?_
 have:=gX rO
 subst this
 rw[hx.size]
 have key:TT (fo E.P false E.K0) x.b (.inRegion x.q1 (0::[1])::[]) [cT E.P] x.n [] ro (some ⟨.fin .normal,fB x.o0.dst (.tuple #[]) (gu 0 [.pointer (some ⟨E.Wg,0,none⟩),.pointer (some ⟨q,0,none⟩)]),[],⟨[],[]⟩⟩):=by
  refine tLd hT (.chan (some E.Ch)) ho0 hg0 aUX ht hk rQ (q:=q) (t:=t) (fz:=fz) (fun _ _ _ _=> .inl hq) ?_ hy
  intro e w kn he cv
  refine fo.stop ?_
  have H8:ev x.n e x.cx= .chan (some E.Ch):=by
   rw[he] at hc
   exact aH hc
  obtain⟨ho,hg,ats,aC⟩:=hx.op
  have hq:(E.P.funcs[x.b.fn]?).any (·.norace)=false:=by rw[hbf,hf];simpa using MS
  refine⟨rfl,?_,G (x.b.at (Act.put (A x.n e []) x.oc.dst (.tuple #[])) (.inRegion x.q1 []::[])) [cT E.P],fun w s r tm hc=>?_,4,?_⟩
  ·simp[mayWake,G,aM,ho,aC]
  ·rw[Es rQ]
   have:=stepG_close (P:=E.P) (main:=false) (b:=x.b) (a:=A x.n e []) (kk:=[]) (cs:=[cT E.P]) (rest:=[]) ho (dI x.oc _ hg) hk aC (by rw[eG];exact H8) hc hq
   exact this
  rw[←Es rQ]
  refine .ctl (g':=G (aM x.b (Act.put (A x.n e []) x.oc.dst (.tuple #[])) []) [cT E.P]) rfl (fun w=>by simp[G,stepG,stepG.exec,aM])<|.ctl (g':=G {aM x.b (Act.put (A x.n e []) x.oc.dst (.tuple #[])) [] with mode:= .returning} [cT E.P]) rfl (fun w=>by simp[G,stepG,stepG.exec,aM,rQ])<|oF rfl ?_ tj (by show E.P.funcs[x.b.fn]?=_;rw[hbf];exact hf) BZ
  show (Act.put (A x.n e []) x.oc.dst (.tuple #[])).defers=[]
  rw[bu];rfl
 exact key _ _ _ rfl fun x hx=>(by cases hx)
theorem jpF{V:Value}(lp:List Nat)(B:Cells)(CY:C2 X.P f=true)(hf:∀aJ,Sub X.ro aJ→Knows aJ B→dG X.P f vs aJ V)(hj:J X (N8 B V o))(h1:dE X.n (ali X.n) o=some (f,vs):=by kernel_rfl)(h3:dO lp o=some B:=by kernel_rfl):J X o:=by
 refine jGN h1 h3 (fun s p e ho hh hc=>?_) hj
 have hcb:zt X.P X.n p e=some (f,vs):=by unfold zt;rw[hc];simp only[CY,cond_true]
 obtain⟨ff,x,xs,at_,fi,ca,ws,aC,hx,td,rfl⟩:=rB hcb
 rcases p with ⟨dst,op,ty,pos,dt,g⟩
 dsimp only at aC;subst aC
 refine⟨rfl,fun s0 H9 wA ops i ub rest hw s' hs todo Q hk=>?_⟩
 have hez:Ext ⟨X.ro,B⟩ s':=fun b ob hb=>hs _ _ (hb.elim (fun h=>H9 _ _ (.inl h)) fun h=>wA (b,ob) h)
 exact RS X.hC ub hw (bB hx) ff (yy td) (T4 fi ws ca) hez (fun aJ h1=>hf aJ (Hc h1) fun y hy=>h1 _ _ (.inr hy)) hk
def bgI(body:Code)(i:Nat):Option JS→Option (JS×Nat)
 |some ⟨.fin .normal,e,w,kn⟩=>match Au w i with
  |some (.b b (.loop r))=>match r.state with
   | .ready=>some (⟨.code body [],e,Vk w i (.b b (.loop {r with state:= .busy})),kn⟩,b)
   |_=>none
  |_=>none
 |_=>none
theorem jbI(i:Nat)(h:J (X.re bl ro Φ) (Gb (bgI body i o)))(h1:Vi (bgI body i o)=some bl:=by kernel_rfl):J (X.rd bl ro Φ body) o:=by
 unfold bgI at h h1
 split at h<;>try (simp only[Gb] at h;exact h.elim)
 rename_i e w kn
 split at h<;>try (simp only[Gb] at h;exact h.elim)
 rename_i b r hn
 split at h<;>try (simp only[Gb] at h;exact h.elim)
 rename_i cg
 simp only[hn,cg,Vi,Option.some.injEq] at h1
 subst h1
 simp only[Gb] at h
 intro cv
 have hw:=h cv
 obtain⟨L,R,h2,h3⟩:=Bu hn
 simp only[JP,Cx.rd,Jt,EM]
 refine⟨L,r,R,h2,cg,?_⟩
 simp only[JP,h3] at hw
 exact hw
theorem tGe{T:Goroutine→St→Prop}{b:Frame}(h:TT T b A6 cs n D ro (geO o)):TT T b A6 cs n D ro o:=by
 rintro e w kn rfl cv
 have:=h e (.l []::w) kn (by simp only[geO]) cv
 rw[gZ] at this
 exact this
def afn:Option JS→Option JS
 |some ⟨.fin .normal,e,w,kn⟩=>some ⟨.fin .ret,e,w,kn⟩
 |_=>none
theorem aun{T:Goroutine→St→Prop}{c:Code}{L:Cells}(hf:P.funcs[f]?=some fn) (hb:fn.body=some c) (hn:fn.ntmps=n) (hle:Nat.ble args.length n=true)
 (h:TT T (fr0 f .normal) ([c].map .code++[]) cs n [] ro (some ⟨.fin .normal,gu 0 args,[.l L],⟨[],[]⟩⟩)):T (G (Frame.enter P f ⟨args⟩ .normal) cs) ⟨ro,L⟩:=by
 have iM:Frame.enter P f ⟨args⟩ .normal=aM (fr0 f .normal) (A n (gu 0 args) []) [.code c]:=by
  rw[←lj args n (Nat.le_of_ble_eq_true hle)]
  simp[Frame.enter,aM,hf,hb,hn,fr0]
 rw[iM]
 exact h _ _ _ rfl fun x hx=>(by cases hx)
theorem aQN(hm:P.follows .mixedOrders=true){T:Goroutine→St→Prop}(hT:Closed P main T){cl:Frame}{PA:List Frame}(v:Value)(hs ps:List Nat)(Y:Cells)(hf:P.funcs[f]?=some fn)
 (hk:T (G (cl.finish v) PA) ⟨ro,Y⟩) (h1:rR (iU P n f hs (afn o))=some v:=by kernel_rfl) (h2:Qm (iU P n f hs (afn o))=Ql (iU P n f hs (afn o)):=by kernel_rfl) (h3:dO ps o=some Y:=by kernel_rfl):TT T (fr0 f .normal) (.code .ret::A6) (cl::PA) n [] ro o:=by
 rintro e w kn rfl cv
 simp only[afn] at h1 h2
 simp only[iU] at h1 h2
 cases hr:Di P n e w kn.c hs (rh P f).results.toList with
 |none=>simp only[hr,rR] at h1;cases h1
 |some x=>
  rcases x with ⟨vs,q⟩
  simp only[hr,rR,Option.some.injEq,Qm,Ql] at h1 h2
  have th:=uM (X:=⟨P,fun m T'=>m=main∧T'=T,by rintro _ _ ⟨rfl,rfl⟩;exact hT,hm,f,none,n,[],ro,fun _ _ _=>True⟩) cv hr (mO h2)
  have hp:=bO h3
  have vV:rh P f=fn:=by simp only[rh,hf]
  have GH:=Ri (s0:=⟨ro,Y⟩) (R:=fun en s'=>∃v,en= .returned v∧T (G (cl.finish v) PA) s') (.inl rfl) th h1 (dY hp (Sub.refl _)) ⟨v,rfl,hk⟩
  rw[vV] at GH
  refine hT.go rfl rfl (g':=G {aM (fr0 f .normal) (A n e []) (.code .ret::A6) with mode:= .returning} (cl::PA)) (fun w=>by simp[G,stepG,stepG.exec,aM,fr0])<|tM (C:=CA P) (fun _ _ h=>h) (T:=T) hT hf (fr:={aM (fr0 f .normal) (A n e []) (.code .ret::A6) with mode:= .returning}) rfl rfl rfl rfl (R:=fun en s'=>∃v,en= .returned v∧T (G (cl.finish v) PA) s') GH.2 (fun v s' hv=>?_)
  obtain⟨v',hv',ht⟩:=hv
  cases hv'
  exact ht
attribute [irreducible] Zu bkO bgI Vq afn
def Be(P:Program)(f:FuncId)(args:List Value)(ro:Nat→Option Obj)(own:Cells)(Φ:Value→Cells→Prop):Prop:=
 ∀fr,Fn (C0 P) P f ⟨args⟩ ⟨ro,own++fr⟩ (fun en s'=>∃v Y,en= .returned v∧(⟨ro,Y++fr⟩:St).le s'∧Φ v Y)
theorem Be.mono{own:Cells}{Φ':Value→Cells→Prop}(h:Be P f args ro own Φ)(hk:∀v X,Φ v X→Φ' v X):Be P f args ro own Φ':=
 fun fr=>Fn.mono (h fr) fun _ _ ⟨v,X,h1,h2,h3⟩=>⟨v,X,h1,h2,hk v X h3⟩
abbrev RC(ro:Nat→Option Obj)(fr:Cells)(Φ:Value→Cells→Prop):Ending→St→Prop:=fun en s'=>∃v Y,en= .returned v∧(⟨ro,Y++fr⟩:St).le s'∧Φ v Y
def XC(P:Program)(hm:P.follows .mixedOrders=true)(f:FuncId)(ro:Nat→Option Obj)(R:Ending→St→Prop):Cx:=⟨P,C0 P,yE,hm,f,none,(rh P f).ntmps,[],ro,sI P (rh P f) R⟩
theorem qC{hm:P.follows .mixedOrders=true}:QR (XC P hm f ro R) R:=⟨rfl,rfl⟩
theorem M9(hC:∀main T,C main T→Closed P main T){c:Code}(hf:P.funcs[f]?=some fn) (hb:fn.body=some c) (hl:Nat.ble args.length fn.ntmps=true) (h:Wp C f none c (sI P fn R) (A fn.ntmps (gu 0 args) []) s):Fn C P f ⟨args⟩ s R:=by
 refine Tp hC hf hb ?_
 have he:=lj args fn.ntmps (Nat.le_of_ble_eq_true hl)
 rw[←he] at h
 exact h
theorem xk(hm:P.follows .mixedOrders=true){L:Cells}(own:List Sg)(kn:Cells)(hk:Knows ro kn)(h:∀fr,J (XC P hm f ro (RC ro fr Φ)) (j6 P f args (own++[.l fr]) kn))(hL:den own=L:=by rfl):Be P f args ro L Φ:=by
 subst hL
 intro fr
 have h:=h fr
 unfold j6 at h
 split at h<;>try exact h.elim
 rename_i fn hf
 split at h<;>try exact h.elim
 rename_i c hc
 cases hl:Nat.ble args.length fn.ntmps with
 |false=>rw[hl] at h;exact h.elim
 |true=>
  rw[hl] at h
  have vV:rh P f=fn:=by simp only[rh,hf]
  have:=h hk
  simp only[JP,XC,KQ,vV] at this
  have hd:den (own++[.l fr])=den own++fr:=by rw[me];rfl
  rw[hd] at this
  exact M9 yE hf hc hl this
section
variable {X:Cx} {o:Option JS}
theorem GF{own:Cells}(ps:List Nat)(hC:∀main T,X.C main T→C0 X.P main T)(hf:Be X.P f vs X.ro own Φ)(hj:∀v Y,Φ v Y→J X (nq ps v Y o))(h1:e8 X.n (zt X.P X.n) o=some (f,vs):=by kernel_rfl)(h2:dO ps o=some own:=by kernel_rfl):J X o:=by
 obtain⟨ops,i,todo,k,e,w,kn,p,rfl,ho,hw,hc⟩:=dJ h1
 obtain⟨ff,x,xs,at_,fi,ca,ws,aC,hx,td,rfl⟩:=rB hc
 intro cv
 rcases p with ⟨dst,op,ty,pos,dt,g⟩
 dsimp only at aC;subst aC
 have hp:=bO h2
 have vV:Fn X.C X.P f ⟨fi++ws++ca⟩ ⟨X.ro,den w⟩ (fun en s'=>∃v Y,en= .returned v∧(⟨X.ro,Y++den (dL ps 0 w)⟩:St).le s'∧Φ v Y):=fun main T hT c cs k1 k2=>
  (X.hC main T hT).mono _ ⟨X.ro,own++den (dL ps 0 w)⟩ _ (dY (J:=[]) (by rw[List.append_nil];exact hp) (Sub.refl _)) (Fn.weaken hC (hf _) main T hT c cs k1 k2)
 refine u3 (fi:=⟨fi⟩) (ca:=⟨ca⟩) (ws:=fi++ws++ca) X.hC ho hw hx ff td (T4 fi ws ca) vV (fun v' s' hr=>?_) (fun ch s' hr=>by obtain⟨_,_,e,_⟩:=hr;cases e) (fun s' hr=>by obtain⟨_,_,e,_⟩:=hr;cases e)
 obtain⟨v,Y,hv,hle,ql⟩:=hr
 cases hv
 have:=hj _ Y ql
 rw[oH ho] at this
 have:=this cv
 simp only[JP,gZ] at this
 exact this.more X.hC hle
theorem Qd(hq:QR X (RC qk fr Φ))(v:Value)(ps:List Nat)(Y:Cells)(fT:Sub qk X.ro)(hR:Φ v Y)(h1:rR (iU X.P X.n X.fn [] o)=some v:=by kernel_rfl)(h2:Qm (iU X.P X.n X.fn [] o)=Ql (iU X.P X.n X.fn [] o):=by kernel_rfl)(h3:dO ps o=some (Y++fr):=by kernel_rfl)(h4:AS o=true:=by kernel_rfl):J X o:=
 aN hq v [] ps (Y++fr) fT ⟨v,Y,rfl,St.le_refl _,hR⟩ h1 h2 h3 h4
end
noncomputable def Hm(P:Program)(g:FuncId):Func:=match Kl P g with
 |some (gn,_,_)=>gn
 |none=>default
noncomputable def Kk(P:Program)(g:FuncId):Tmp:=match Kl P g with
 |some (_,t,_)=>t
 |none=>0
noncomputable def recC(P:Program)(g:FuncId):Code:=match Kl P g with
 |some (_,_,c)=>c
 |none=> .skip
def auQ(P:Program)(g:FuncId):Bool:=(Kl P g).isSome
theorem anv(h:auQ P g=true):Kl P g=some (Hm P g,Kk P g,recC P g):=by
 unfold auQ at h
 unfold Hm Kk recC
 cases hr:Kl P g with
 |none=>rw[hr] at h;cases h
 |some x=>rcases x with ⟨a,b,c⟩;rfl
noncomputable def XD(P:Program)(hm:P.follows .mixedOrders=true)(f:FuncId)(ro:Nat→Option Obj)(R:Ending→St→Prop)(g:FuncId):Cx:=⟨P,CP P,fw,hm,f,none,(rh P f).ntmps,[],ro,Xz (CP P) P (rh P f) g (Hm P g) (Kk P g) (recC P g) R⟩
theorem aTr(hm:P.follows .mixedOrders=true){L:Cells}(g:FuncId)(own:List Sg)(kn:Cells)(hk:Knows ro kn)(h:J (XD P hm f ro (RX ro Φ) g) (j6 P f args own kn))(hL:den own=L:=by rfl)(aib:auQ P g=true:=by kernel_rfl):ee P f args ro L Φ:=by
 subst hL
 unfold j6 at h
 split at h<;>try exact h.elim
 rename_i fn hf
 split at h<;>try exact h.elim
 rename_i c hc
 cases hl:Nat.ble args.length fn.ntmps with
 |false=>rw[hl] at h;exact h.elim
 |true=>
  rw[hl] at h
  have vV:rh P f=fn:=by simp only[rh,hf]
  have:=h hk
  simp only[JP,XD,KQ,vV] at this
  exact IM fw hf hc rfl hl (anv aib) this
def dfV(n:Nat)(p:Oper)(e:Env):Option (FuncId×List Value):=match p.op with
 | .defer ⟨.value x,⟨[]⟩,⟨[]⟩⟩=>match bE n e x with
  |some (.func (.func f) ⟨[]⟩ ⟨ca⟩)=>some (f,ca)
  |_=>none
 |_=>none
theorem azH(h:dfV n p e=some (f,ca)):∃x,p.op= .defer ⟨.value x,#[],#[]⟩∧bE n e x=some (.func (.func f) ⟨[]⟩ ⟨ca⟩):=by
 unfold dfV at h
 split at h<;>try (cases h;done)
 rename_i x aC
 split at h<;>try (cases h;done)
 rename_i hx
 cases h
 exact⟨x,aC,hx⟩
def skO:Option JS→Option JS
 |some ⟨.ops ops (i::todo) k,e,w,kn⟩=>match ops[i]? with
  |some p=>some ⟨.ops ops todo k,upd p.dst undef e,w,kn⟩
  |none=>none
 |_=>none
def So(t:Tmp)(rest:Code)(ca:List Value):Option JS→Option JS
 |some ⟨.fin _,_,w,kn⟩=>some ⟨.code rest [],upd (some t) .nilIface (gu 0 ca),w,⟨kn.c,[]⟩⟩
 |_=>none
def rwS:Option JS→Option (List Sg)
 |some s=>some s.rw
 |none=>none
section
variable {X:Cx} {o:Option JS}
theorem jdf(hj:J (X.wd ({target:= .fn (.func f) ⟨ca⟩,args:= #[]}::X.D)) (skO o))(h1:e8 X.n (dfV X.n) o=some (f,ca):=by kernel_rfl)(hr:X.aD=none:=by rfl):J X o:=by
 obtain⟨ops,i,todo,k,e,w,kn,p,rfl,ho,hw,hc⟩:=dJ h1
 obtain⟨x,aC,hx⟩:=azH hc
 intro cv
 rcases p with ⟨dst,op,ty,pos,dt,g⟩
 dsimp only at aC;subst aC
 simp only[skO,ho] at hj
 have:=hj cv
 simp only[JP,Ue] at this
 show ai X.C X.fn X.aD ops (i::todo) (KQ X k) (A X.n e X.D) ⟨X.ro,den w⟩
 rw[hr]
 have h2:(X.wd ({target:= .fn (.func f) ⟨ca⟩,args:= #[]}::X.D)).aD=none:=hr
 rw[h2] at this
 exact an0 X.hC ho hw hx this
structure QD(X:Cx)(g:FuncId)(R:Ending→St→Prop)(ca:List Value):Prop where
 q:X.Q=Xz X.C X.P (rh X.P X.fn) g (Hm X.P g) (Kk X.P g) (recC X.P g) R
 d:X.D=[{target:= .fn (.func g) ⟨ca⟩,args:= #[]}]
theorem jrD(hq:QD X g R ca)(v:Value)(hs ps:List Nat)(Y:Cells)(k:Nat)(fT:Sub qk X.ro)(hR:R (.returned v) ⟨qk,Y⟩)(hl:Nat.ble ca.length (Hm X.P g).ntmps=true:=by kernel_rfl)
 (h1:rR (iU X.P X.n X.fn hs o)=some v:=by kernel_rfl)(h2:Qm (iU X.P X.n X.fn hs o)=Ql (iU X.P X.n X.fn hs o):=by kernel_rfl)(h3:dO ps o=some Y:=by kernel_rfl)(h4:AS o=true:=by kernel_rfl)
 (h5:AS (res (adv X.P (Hm X.P g).ntmps k [] (So (Kk X.P g) (recC X.P g) ca o)))=true:=by kernel_rfl)(h6:rwS (res (adv X.P (Hm X.P g).ntmps k [] (So (Kk X.P g) (recC X.P g) ca o)))=rwS o:=by kernel_rfl)
 (h7:lhs (adv X.P (Hm X.P g).ntmps k [] (So (Kk X.P g) (recC X.P g) ca o))=rhs (adv X.P (Hm X.P g).ntmps k [] (So (Kk X.P g) (recC X.P g) ca o)):=by kernel_rfl):J X o:=by
 obtain⟨ex,e,w,kn,rfl,hex⟩:=ui h4
 simp only[iU] at h1 h2
 cases hr:Di X.P X.n e w kn.c hs (rh X.P X.fn).results.toList with
 |none=>simp only[hr,rR] at h1;cases h1
 |some x=>
  rcases x with ⟨vs,q⟩
  simp only[hr,rR,Option.some.injEq,Qm,Ql] at h1 h2
  intro cv
  have th:=uM cv hr (mO h2)
  have hp:=bO h3
  have GH:=Ri (s0:=⟨qk,Y⟩) (R:=R) hex th h1 (dY hp fT) hR
  have ht:bU X.P (results (rh X.P X.fn) (A X.n e X.D).tmps) ⟨X.ro,den w⟩ (fun v s'=>∃s0,s0.le s'∧R (.returned v) s0) (fun _ _=>False):=by
   rcases hex with rfl|rfl<;>exact GH.2
  show X.Q ex (A X.n e X.D) ⟨X.ro,den w⟩
  rw[hq.q]
  refine⟨hex.symm,ca,hl,hq.d,?_⟩
  let X2:Cx:=⟨X.P,X.C,X.hC,X.hm,g,none,(Hm X.P g).ntmps,[],X.ro,fun e2 a2 s2=>(e2= .normal∨e2= .ret)∧a2.defers=[]∧bU X.P (results (rh X.P X.fn) (A X.n e X.D).tmps) s2 (fun v s3=>∃s0,s0.le s3∧R (.returned v) s0) (fun _ _=>False)⟩
  have hj:J X2 (So (Kk X.P g) (recC X.P g) ca (some ⟨.fin ex,e,w,kn⟩)):=by
   refine jd k [] ?_ h7
   have h5':=h5
   have h6':=h6
   obtain⟨ex2,e2,w2,kn2,u6,aVX⟩:=ui h5'
   show J X2 (res (adv X.P (Hm X.P g).ntmps k [] (So (Kk X.P g) (recC X.P g) ca (some ⟨.fin ex,e,w,kn⟩))))
   rw[u6] at h6' ⊢
   simp only[rwS,Option.some.injEq] at h6'
   subst h6'
   exact fun _=>⟨aVX.symm,rfl,ht⟩
  simp only[So] at hj
  exact hj cv
end
attribute [irreducible] skO So rwS dfV
def vQ(r ck:Nat)(seen:List Nat):Obj:= .mapIter (some r) ck ⟨seen⟩ ck
def cQ(es:Array MapEntry)(seen:List Nat):List MapEntry:=es.toList.filter fun e=> !seen.contains e.born
theorem DU(es:Array MapEntry):cQ es []=es.toList:=by simp[cQ]
theorem ab8{es:Array MapEntry}{b:Nat}{e:MapEntry}:e∈cQ es (seen++[b])↔e∈cQ es seen∧e.born≠b:=by
 simp only[cQ,List.mem_filter,Bool.not_eq_true',List.contains_eq_mem,List.mem_append,List.mem_singleton,decide_eq_false_iff_not,not_or,and_assoc]
theorem HX{es:Array MapEntry}{e:MapEntry}(h:e∈cQ es seen):(cQ es (seen++[e.born])).length <(cQ es seen).length:=by
 have:cQ es (seen++[e.born])=(cQ es seen).filter fun x=> !decide (x.born=e.born):=by
  simp only[cQ,List.filter_filter]
  refine List.filter_congr fun x _=>?_
  simp only[List.contains_eq_mem,List.mem_append,List.mem_singleton,Bool.decide_or,Bool.not_or]
  rw[Bool.and_comm]
 rw[this]
 exact List.length_filter_lt_length_iff_exists.2 ⟨e,h,by simp⟩
def mrV(P:Program)(n:Nat)(p:Oper)(e:Env):Option Value:=match p.op with
 | .range T x=>match a8 P T with
  |some ⟨.map _ _,_,_,_⟩=>bE n e x
  |_=>none
 |_=>none
def nmV(n:Nat)(p:Oper)(e:Env):Option Value:=match p.op with
 | .next x false=>bE n e x
 |_=>none
def enV(n:Nat)(p:Oper)(e:Env):Option Value:=match p.op with
 | .entry x=>bE n e x
 |_=>none
theorem LD{Q:β→St→Prop}{E:Halt→St→Prop}{k:Nat→Sem β}(hn:0 <n)(h:∀j,j <n→bU P (k j) s Q E):bU P (choose (.mapNext n) >>= k) s Q E:=by
 show (if (Question.mapNext n).forced=true then _ else _)
 split
 ·exact h 0 hn
 exact fun q=>h _ (Nat.mod_lt _ hn)
section
variable {X:Cx} {o:Option JS}
theorem jmR{es:Array MapEntry}(hm:X.ro r=some (.map es ck))(hj:∀b,J X (nq [] (.pointer (some ⟨b,0,none⟩)) [(b,vQ r ck [])] o))(hv:e8 X.n (mrV X.P X.n) o=some (.map (some r)):=by kernel_rfl)(hB:dO [] o=some []:=by kernel_rfl):J X o:=by
 refine jS (Φ:=fun v L'=>∃b,v= .pointer (some ⟨b,0,none⟩)∧L'=[(b,vQ r ck [])]) [] [] hv hB (fun p e hf=>?_) (fun v L' ql=>?_)
 ·unfold mrV at hf
  split at hf<;>try (cases hf;done)
  rename_i T x aC
  split at hf<;>try (cases hf;done)
  rename_i dS
  obtain⟨bL,tf⟩:=ay dS
  refine⟨by rw[aC];simp,fun R Q E hQ=>?_⟩
  simp only[execOp,aC,Instr.range,ae,bk tf,aH hf]
  refine cM (.inl hm) rfl rfl ?_
  simp only[ae,ah,oK]
  intro b hb
  exact hQ _ _ ⟨b,rfl,rfl⟩
 obtain⟨b,rfl,rfl⟩:=ql
 exact hj b
theorem jmN{kv:κ→Value}{F:List (κ×Value)}{es:Array MapEntry}(i:Nat)(hm:X.ro r=some (.map es ck))(hE:uw kv F es ck)
 (hT:∀k v e,(k,v)∈F→e∈cQ es seen→e.key=kv k→e.val=v→J X (nq [i] (.tuple ⟨[.bool true,kv k,v]⟩) [(it,vQ r ck (seen++[e.born]))] o))
 (hF:cQ es seen=[]→J X (nq [i] (.tuple ⟨[.bool false]⟩) [(it,vQ r ck seen)] o))
 (hv:e8 X.n (nmV X.n) o=some (.pointer (some ⟨it,0,none⟩)):=by kernel_rfl)(hB:dO [i] o=some [(it,vQ r ck seen)]:=by kernel_rfl):J X o:=by
 refine jS (Φ:=fun v L'=>(∃e,e∈cQ es seen∧v= .tuple ⟨[.bool true,e.key,e.val]⟩∧L'=[(it,vQ r ck (seen++[e.born]))])∨(cQ es seen=[]∧v= .tuple ⟨[.bool false]⟩∧L'=[(it,vQ r ck seen)])) [i] _ hv hB (fun p e hf=>?_) (fun v L' ql=>?_)
 ·unfold nmV at hf
  split at hf<;>try (cases hf;done)
  rename_i x aC
  refine⟨by rw[aC];simp,fun R Q E hQ=>?_⟩
  simp only[execOp,aC,Instr.next,ae,aH hf]
  have hs:(⟨X.ro,[(it,vQ r ck seen)]++R⟩:St).rw=[]++(it,vQ r ck seen)::R:=rfl
  refine cM (o:=vQ r ck seen) (.inr (by rw[hs];exact fN)) rfl rfl ?_
  simp only[vQ,ae]
  refine cM (.inl hm) rfl rfl ?_
  simp only[ae]
  have hb:=hE.2.2
  have cg:¬((!(⟨seen⟩:Array Nat).isEmpty&& !es.isEmpty&&es.all (·.born≥ck))=true):=by
   intro h
   simp only[Bool.and_eq_true,Bool.not_eq_true',Array.all_eq_true,decide_eq_true_eq] at h
   obtain⟨⟨_,h1⟩,h2⟩:=h
   have uA:0 <es.size:=by
    rcases Nat.eq_zero_or_pos es.size with h0|h0
    ·simp[Array.isEmpty,h0] at h1
    exact h0
   have:=h2 0 uA
   have:=hb es[0] (by simp)
   omega
  rw[if_neg cg]
  have zi:(es.filter fun e=> !(⟨seen⟩:Array Nat).contains e.born)=⟨cQ es seen⟩:=by
   rcases es with ⟨l⟩
   simp[cQ]
  have hold:((⟨cQ es seen⟩:Array MapEntry).filter fun e=>decide (e.born <ck))=⟨cQ es seen⟩:=by
   have:(cQ es seen).filter (fun e=>decide (e.born <ck))=cQ es seen:=List.filter_eq_self.2 fun e he=>decide_eq_true (hb e (List.mem_filter.1 he).1)
   simp[this]
  have ud:((⟨cQ es seen⟩:Array MapEntry).filter fun e=>decide (e.born≥ck))=⟨[]⟩:=by
   have:(cQ es seen).filter (fun e=>decide (e.born≥ck))=[]:=List.filter_eq_nil_iff.2 fun e he=>by
    have:=hb e (List.mem_filter.1 he).1
    simp only[decide_eq_true_eq];omega
   simp[this]
  simp only[zi,hold,ud]
  cases hl:cQ es seen with
  |nil=>
   simp only[List.isEmpty_toArray,List.isEmpty_nil,if_true]
   refine LD (by simp) fun j hj=>?_
   have hc:(#[(none:Option MapEntry)]++((⟨[]⟩:Array MapEntry)++⟨[]⟩).map some)[j]?=some none:=by
    simp at hj
    subst hj;simp
   show bU X.P ((match (#[(none:Option MapEntry)]++((⟨[]⟩:Array MapEntry)++⟨[]⟩).map some)[j]? with|some (some e)=>_|some none=>_|none=>_) >>= fun v=>pure (Next.value v)) _ _ _
   rw[hc]
   exact hQ _ _ (.inr ⟨hl,rfl,rfl⟩)
  |cons e0 l=>
   have hem:(⟨e0::l⟩:Array MapEntry).isEmpty=false:=by simp
   simp only[hem,Bool.false_eq_true,if_false]
   have Iu:(#[]++((⟨e0::l⟩:Array MapEntry)++⟨[]⟩).map some:Array (Option MapEntry))=⟨(e0::l).map some⟩:=by simp
   rw[Iu]
   refine LD (by simp) fun k cO=>?_
   have cO:k <(e0::l).length:=by simpa using cO
   have hk:(⟨(e0::l).map some⟩:Array (Option MapEntry))[k]?=some (some (e0::l)[k]):=by
    rw[List.getElem?_toArray,List.getElem?_map,List.getElem?_eq_getElem cO];rfl
   show bU X.P ((match (⟨(e0::l).map some⟩:Array (Option MapEntry))[k]? with|some (some e)=>_|some none=>_|none=>_) >>= fun v=>pure (Next.value v)) _ _ _
   rw[hk]
   simp only[ae]
   have nH:(⟨X.ro,[(it,Obj.mapIter (some r) ck ⟨seen⟩ ck)]++R⟩:St).rw=[]++(it,Obj.mapIter (some r) ck ⟨seen⟩ ck)::R:=rfl
   refine eH (o:= .mapIter (some r) ck ((⟨seen⟩:Array Nat).push (e0::l)[k].born) ck) rfl nH rfl ?_
   have hp:(⟨seen⟩:Array Nat).push (e0::l)[k].born=⟨seen++[(e0::l)[k].born]⟩:=by simp
   rw[hp]
   have:=hQ (.tuple ⟨[.bool true,(e0::l)[k].key,(e0::l)[k].val]⟩) [(it,vQ r ck (seen++[(e0::l)[k].born]))] (.inl ⟨_,by rw[hl];exact List.getElem_mem cO,rfl,rfl⟩)
   exact this
 rcases ql with ⟨e,he,rfl,rfl⟩| ⟨h1,rfl,rfl⟩
 ·have:(e.key,e.val)∈F.map (fun x=>(kv x.1,x.2)):=by
   rw[←hE.1];exact List.mem_map_of_mem (f:=fun e:MapEntry=>(e.key,e.val)) (List.mem_filter.1 he).1
  obtain⟨⟨k,v⟩,h1,h2⟩:=List.mem_map.1 this
  simp only[Prod.mk.injEq] at h2
  have:=hT k v e h1 he h2.1.symm h2.2.symm
  rwa[h2.1,h2.2] at this
 exact hF h1
theorem jmE{kv:κ→Value}{F:List (κ×Value)}{es:Array MapEntry}{e:MapEntry}{k:κ}{v:Value}(i:Nat)(hm:X.ro r=some (.map es ck))(hE:uw kv F es ck)(he:e∈cQ es seen)(hk:e.key=kv k)(hvl:e.val=v)
 (hj:J X (nq [i] (.tuple ⟨[kv k,v]⟩) [(it,vQ r ck (seen++[e.born]))] o))
 (hv:e8 X.n (enV X.n) o=some (.pointer (some ⟨it,0,none⟩)):=by kernel_rfl)(hB:dO [i] o=some [(it,vQ r ck (seen++[e.born]))]:=by kernel_rfl):J X o:=by
 refine jS (Φ:=fun w L'=>w= .tuple ⟨[kv k,v]⟩∧L'=[(it,vQ r ck (seen++[e.born]))]) [i] _ hv hB (fun p en hf=>?_) (fun w L' ql=>?_)
 ·unfold enV at hf
  split at hf<;>try (cases hf;done)
  rename_i x aC
  refine⟨by rw[aC];simp,fun R Q E hQ=>?_⟩
  simp only[execOp,aC,Instr.entry,ae,aH hf]
  have hs:(⟨X.ro,[(it,vQ r ck (seen++[e.born]))]++R⟩:St).rw=[]++(it,vQ r ck (seen++[e.born]))::R:=rfl
  refine cM (o:=vQ r ck (seen++[e.born])) (.inr (by rw[hs];exact fN)) rfl rfl ?_
  have tj:(⟨seen++[e.born]⟩:Array Nat).back?=some e.born:=by simp[Array.back?]
  simp only[vQ,tj,ae]
  refine cM (.inl hm) rfl rfl ?_
  have hfe:es.find? (fun x=>x.born==e.born)=some e:=by
   rcases es with ⟨l⟩
   have Uy:e∈l:=(List.mem_filter.1 he).1
   have mJ:(l.map (·.born)).Nodup:=hE.2.1
   simp only[List.find?_toArray]
   clear hm hE he hj hv hB hs hQ
   induction l with
   |nil=>cases Uy
   |cons y l ih=>
    simp only[List.map_cons,List.nodup_cons,List.mem_map,not_exists,not_and] at mJ
    rcases List.mem_cons.1 Uy with rfl|h
    ·simp
    have:y.born≠e.born:=fun h2=>mJ.1 e h h2.symm
    rw[List.find?_cons_of_neg (by simpa using this)]
    exact ih h mJ.2
  simp only[bne_self_eq_false,Bool.false_eq_true,if_false,hfe,ah,ae]
  exact hQ _ _ ⟨by rw[hk,hvl],rfl⟩
 obtain⟨rfl,rfl⟩:=ql
 exact hj
end
theorem V7{kv:κ→Value}{F:List (κ×Value)}{es:Array MapEntry}(hE:uw kv F es ck){e x:MapEntry}(he:e∈cQ es seen)(hx:x∈cQ es seen):x=e∨x∈cQ es (seen++[e.born]):=by
 by_cases h:x.born=e.born
 ·left
  have mJ:=hE.2.1
  have h1:=(List.mem_filter.1 he).1
  have h2:=(List.mem_filter.1 hx).1
  generalize es.toList=l at mJ h1 h2
  induction l with
  |nil=>cases h1
  |cons y l ih=>
   simp only[List.map_cons,List.nodup_cons,List.mem_map,not_exists,not_and] at mJ
   rcases List.mem_cons.1 h1 with k1|k1
   ·rcases List.mem_cons.1 h2 with k2|k2
    ·rw[k1,k2]
    exact absurd (by rw[h,k1]) (mJ.1 x k2)
   rcases List.mem_cons.1 h2 with k2|k2
   ·exact absurd (by rw[←h,k2]) (mJ.1 e k1)
   exact ih mJ.2 k1 k2
 exact .inr (ab8.2 ⟨hx,h⟩)
def msV(P:Program)(n:Nat)(p:Oper)(e:Env):Option (TypeId×List Value):=match p.op with
 | .makeSlice T x y=>match a8 P T with
  |some ⟨.slice E,_,_,_⟩=>match a8 P E with
   |some te=>match bE n e x,bE n e y with
    |some (.int .i64 a),some (.int .i64 b)=>bif (decide (a=2)&&decide (b=2))&&(Nat.beq te.size 1&&Nat.ble (pF P E) 65536) then some (E,te.zero) else none
    |_,_=>none
   |none=>none
  |_=>none
 |_=>none
theorem jmS{z:Value}(hj:∀b,J X (nq [] (.slice (some ⟨b,0,none⟩) 2 2) [(b,.cells ⟨[z,z]⟩ E (0,0))] o))(hv:e8 X.n (msV X.P X.n) o=some (E,[z]):=by kernel_rfl)(hB:dO [] o=some []:=by kernel_rfl):J X o:=by
 refine jS (Φ:=fun v L'=>∃b,v= .slice (some ⟨b,0,none⟩) 2 2∧L'=[(b,.cells ⟨[z,z]⟩ E (0,0))]) [] [] hv hB (fun p e hf=>?_) (fun v L' ql=>?_)
 ·unfold msV at hf
  split at hf<;>try (cases hf;done)
  rename_i T x y aC
  split at hf<;>try (cases hf;done)
  rename_i E' _ _ _ dS
  split at hf<;>try (cases hf;done)
  rename_i te tX
  split at hf<;>try (cases hf;done)
  rename_i a b hx hy
  cases hc:((decide (a=2)&&decide (b=2))&&(Nat.beq te.size 1&&Nat.ble (pF X.P E') 65536)) with
  |false=>rw[hc] at hf;cases hf
  |true=>
   rw[hc] at hf
   simp only[cond_true,Option.some.injEq,Prod.mk.injEq] at hf
   obtain⟨rfl,hz⟩:=hf
   simp only[Bool.and_eq_true,decide_eq_true_eq,Nat.beq_eq,Nat.ble_eq] at hc
   obtain⟨⟨rfl,rfl⟩,uA,hby⟩:=hc
   obtain⟨byT,tf⟩:=ay dS
   obtain⟨bL,jI⟩:=ay tX
   obtain⟨i,hi,hi1,O1,hi3⟩:=jI.info
   have ai5:bL≤65536:=by simp only[pF,hi] at hby;omega
   have ai8:¬((bL:Int)*2>2^48):=by omega
   have w2:IntKind.i64.wrap 2=2:=jY 2 (by omega)
   have iY:(NB [z] te.agg).cells=⟨[z]⟩:=by rw[←hz];exact dX jI
   have Iu:((Array.range ((2:Int).toNat*1)).map fun x=>(⟨[z]⟩:Array Value)[x % (⟨[z]⟩:Array Value).size]!)=⟨[z,z]⟩:=by apply Array.ext';simp[Nat.mod_one,List.range,List.range.loop]
   refine⟨by rw[aC];simp,fun R Q E hQ=>?_⟩
   simp only[execOp,aC,Instr.makeSlice,aH hx,aH hy,asInt,asIntOf,ae,bk tf,ah,mh hi,O1,w2,ai8,show ¬((2:Int) <0) by omega,show ¬((2:Int)>2) by omega,decide_false,Bool.or_self,Bool.false_eq_true,if_false]
   refine qy ?_
   simp only[ae,cy jI,uA,show ¬((2:Int).toNat*1=0) by decide,if_false,j5 jI,ah,hz,iY,Iu,iA]
   intro b hb
   exact hQ _ _ ⟨b,rfl,rfl⟩
 obtain⟨b,rfl,rfl⟩:=ql
 exact hj b
def aqr(body:Code):Option JS→Option (JS×Nat)
 |some ⟨.fin .normal,e,.b c oc:: .b b (.loop r)::w,kn⟩=>match r.state with
  | .ready=>some (⟨.code body [],e,.b c oc:: .b b (.loop {r with state:= .busy})::w,kn⟩,b)
  |_=>none
 |_=>none
theorem aFU(h:J (X.re bl ro Φ) (Gb (aqr body o)))(h1:Vi (aqr body o)=some bl:=by kernel_rfl):J (X.rd bl ro Φ body) o:=by
 unfold aqr at h h1
 split at h<;>try (unfold Gb at h;exact h.elim)
 rename_i e c oc b r w kn
 split at h<;>try (unfold Gb at h;exact h.elim)
 rename_i cg
 unfold Vi at h1
 unfold Gb at h
 simp only[cg,Option.some.injEq] at h1
 subst h1
 intro cv
 have hw:=h cv
 simp only[JP,Cx.rd,Jt,EM]
 refine⟨[(c,oc)],r,den w,by rw[jq,jq];rfl,cg,?_⟩
 simp only[JP,jq] at hw
 exact hw
theorem aFP{hm:P.follows .mixedOrders=true}(own:List Sg)(kn:Cells)(hk:Knows ro kn)(h:J (XM P hm f ro R) (j6 P f args own kn)):Fn (CP P) P f ⟨args⟩ ⟨ro,den own⟩ R:=by
 unfold j6 at h
 split at h<;>try exact h.elim
 rename_i fn hf
 split at h<;>try exact h.elim
 rename_i c hc
 cases hl:Nat.ble args.length fn.ntmps with
 |false=>rw[hl] at h;exact h.elim
 |true=>
  rw[hl] at h
  have vV:rh P f=fn:=by simp only[rh,hf]
  have:=h hk
  simp only[JP,XM,KQ,vV] at this
  refine Na fw hf hc ?_
  have he:=lj args fn.ntmps (Nat.le_of_ble_eq_true hl)
  rw[←he] at this
  exact this
section
variable {X:Cx} {o:Option JS}
theorem aTs(hq:QM X R vq)(v:Value)(pm hs ps:List Nat)(Y:Cells)(fT:Sub qk X.ro)(hR:R (.returned v) ⟨qk,Y⟩)(h0:dO pm o=some (mk vq):=by kernel_rfl)(h1:rR (iU X.P X.n X.fn hs (Ex pm o))=some v:=by kernel_rfl)(h2:Qm (iU X.P X.n X.fn hs (Ex pm o))=Ql (iU X.P X.n X.fn hs (Ex pm o)):=by kernel_rfl)(h3:dO ps (Ex pm o)=some Y:=by kernel_rfl)(h4:AS o=true:=by kernel_rfl):J X o:=by
 obtain⟨ex,e,w,kn,rfl,hex⟩:=ui h4
 simp only[Ex,iU] at h1 h2 h3
 cases hr:Di X.P X.n e (dL pm 0 w) kn.c hs (rh X.P X.fn).results.toList with
 |none=>simp only[hr,rR] at h1;cases h1
 |some x=>
  rcases x with ⟨vs,q⟩
  simp only[hr,rR,Option.some.injEq,Qm,Ql] at h1 h2
  intro cv
  have th:=uM cv hr (mO h2)
  have hp:=bO h3
  have GH:=Ri (s0:=⟨qk,Y⟩) (R:=R) hex th h1 (dY hp fT) hR
  have ht:bU X.P (results (rh X.P X.fn) (A X.n e X.D).tmps) ⟨X.ro,den (dL pm 0 w)⟩ (fun v s'=>∃s0,s0.le s'∧R (.returned v) s0) (fun _ _=>False):=by
   rcases hex with rfl|rfl<;>exact GH.2
  show X.Q ex (A X.n e X.D) ⟨X.ro,den w⟩
  rw[hq.q]
  have hm:∃vq rest,(A X.n e X.D).defers=vq.map eC∧(den w).Perm (mk vq++rest)∧bU X.P (results (rh X.P X.fn) (A X.n e X.D).tmps) ⟨X.ro,rest⟩ (fun v s'=>∃s0,s0.le s'∧R (.returned v) s0) (fun _ _=>False):=⟨vq,_,hq.d,bO h0,ht⟩
  rcases hex with rfl|rfl<;>exact hm
end
attribute [irreducible] mrV nmV enV vQ msV aqr
def rnM(P:Program):Sem α→List Nat→Cells→List (Nat×Nat)→Option (α×Cells×List (Nat×Nat))
 | .pure a,_,B,q=>some (a,B,q)
 | .load m a k,h::hs,B,q=>match m,a.spot,B[h]? with
  | .plain,none,some (b,.cells c _ _)=>match c[a.off]? with
   |some v=>rnM P (k v) hs B ((a.block,b)::q)
   |none=>none
  |_,_,_=>none
 | .shape r k,h::hs,B,q=>match B[h]? with
  |some (b,o)=>rnM P (k (Obj.shapeOf o)) hs B ((r,b)::q)
  |none=>none
 | .program k,hs,B,q=>rnM P (k P) hs B q
 |_,_,_,_=>none
theorem auK:∀(m:Sem α) {hs:List Nat} {B B':Cells} {q q':List (Nat×Nat)} {v:α},rnM P m hs B q=some (v,B',q')→(∀p∈q',p.1=p.2)→
 (∀p∈q,p∈q')∧B'=B∧∀(s:St) (Q:α→St→Prop) (E:Halt→St→Prop),(∀x∈B,s.has x.1 x.2)→Q v s→bU P m s Q E:=by
 intro m
 induction m with
 |pure a=>intro hs B B' q q' v h _;simp only[rnM,Option.some.injEq,Prod.mk.injEq] at h;obtain⟨rfl,rfl,rfl⟩:=h;exact⟨fun _ h=>h,rfl,fun _ _ _ _ h=>h⟩
 |load m a k ih=>
  intro hs B B' q q' v h hq
  cases hs with
  |nil=>cases h
  |cons j hs=>
   unfold rnM at h
   split at h<;>try (cases h;done)
   rename_i b c t fz Qe hB
   split at h<;>try (cases h;done)
   rename_i u hu
   obtain⟨h1,h2,h3⟩:=ih _ h hq
   have Eh:a.block=b:=hq _ (h1 _ List.mem_cons_self)
   refine⟨fun p hp=>h1 p (List.mem_cons_of_mem _ hp),h2,fun s Q E hs hQ=>⟨rfl,Qe,c,t,fz,u,?_,hu,h3 s Q E hs hQ⟩⟩
   rw[Eh];exact hs _ (List.mem_of_getElem? hB)
 |shape r k ih=>
  intro hs B B' q q' v h hq
  cases hs with
  |nil=>cases h
  |cons j hs=>
   simp only[rnM] at h
   split at h<;>try (cases h;done)
   rename_i b o hB
   obtain⟨h1,h2,h3⟩:=ih _ h hq
   have Eh:r=b:=hq _ (h1 _ List.mem_cons_self)
   refine⟨fun p hp=>h1 p (List.mem_cons_of_mem _ hp),h2,fun s Q E hs hQ=>⟨o,?_,h3 s Q E hs hQ⟩⟩
   rw[Eh];exact hs _ (List.mem_of_getElem? hB)
 |program k ih=>
  intro hs B B' q q' v h hq
  simp only[rnM] at h
  exact ih _ h hq
 |store=>intro hs B B' q q' v h hq;cases hs<;>cases h
 |new=>intro hs B B' q q' v h hq;cases hs<;>cases h
 |freeze=>intro hs B B' q q' v h hq;cases hs<;>cases h
 |frozen=>intro hs B B' q q' v h hq;cases hs<;>cases h
 |getObj=>intro hs B B' q q' v h hq;cases hs<;>cases h
 |setObj=>intro hs B B' q q' v h hq;cases hs<;>cases h
 |choose=>intro hs B B' q q' v h hq;cases hs<;>cases h
 |sys=>intro hs B B' q q' v h hq;cases hs<;>cases h
 |mark=>intro hs B B' q q' v h hq;cases hs<;>cases h
 |halt=>intro hs B B' q q' v h hq;cases hs<;>cases h
def afe:Op→Option (List Operand)
 | .call ⟨.builtin _,xs,_⟩=>some xs.toList
 |op=>Hy op
theorem Re{o:Oper}{xs:List Operand}(h:afe o.op=some xs){f g:Operand→Value}(hfg:∀x∈xs,f x=g x):execOp f o=execOp g o:=by
 unfold afe at h
 split at h
 ·rename_i b xs at_ heq
  simp only[Option.some.injEq] at h;subst h
  have:xs.map f=xs.map g:=Array.map_congr_left fun a ha=>hfg a (by simpa using ha)
  simp only[execOp,heq,resolve,this]
 exact uR h hfg
def smV(P:Program)(n:Nat)(hs:List Nat)(B:Cells)(p:Oper)(e:Env):Option (Value×List (Nat×Nat)):=match afe p.op with
 |some xs=>match y5 n e xs with
  |some _=>match rnM P (execOp (evj n e) p) hs B [] with
   |some (.value v,_,q)=>some (v,q)
   |_=>none
  |none=>none
 |none=>none
theorem C9{γ:Type}{f:Oper→Env→Option β}{g:β→γ}:e8 n (fun p e=>(f p e).map g) o=(e8 n f o).map g:=by
 unfold e8
 split
 ·unfold dE
  dsimp only
  split<;>rfl
 rfl
def smA(P:Program)(n:Nat)(hs:List Nat)(B:Cells)(p:Oper)(e:Env):Option Value:=(smV P n hs B p e).map (·.1)
def smL(P:Program)(n:Nat)(hs:List Nat)(B:Cells)(p:Oper)(e:Env):Option (List Nat):=(smV P n hs B p e).map fun x=>Xl x.2
def smR(P:Program)(n:Nat)(hs:List Nat)(B:Cells)(p:Oper)(e:Env):Option (List Nat):=(smV P n hs B p e).map fun x=>Vh x.2
section
variable {X:Cx} {o:Option JS}
theorem jmo(ps hs:List Nat)(B:Cells)(v:Value)(hj:J X (nq ps v B o))(hv:e8 X.n (smA X.P X.n hs B) o=some v:=by kernel_rfl)(hq:e8 X.n (smL X.P X.n hs B) o=e8 X.n (smR X.P X.n hs B) o:=by kernel_rfl)(hB:dO ps o=some B:=by kernel_rfl):J X o:=by
 rw[show smA X.P X.n hs B=fun p e=>(smV X.P X.n hs B p e).map (·.1) from rfl,C9] at hv
 rw[show smL X.P X.n hs B=fun p e=>(smV X.P X.n hs B p e).map (fun x=>Xl x.2) from rfl,show smR X.P X.n hs B=fun p e=>(smV X.P X.n hs B p e).map (fun x=>Vh x.2) from rfl,C9,C9] at hq
 cases hx:e8 X.n (smV X.P X.n hs B) o with
 |none=>rw[hx] at hv;cases hv
 |some x=>
  rcases x with ⟨v',q⟩
  rw[hx] at hv hq
  simp only[Option.map_some,Option.some.injEq] at hv hq
  subst hv
  refine jS (Φ:=fun u L'=>u=v'∧L'=B) ps B hx hB (fun p e hf=>?_) (fun u L' ql=>by obtain⟨rfl,rfl⟩:=ql;exact hj)
  unfold smV at hf
  split at hf<;>try (cases hf;done)
  rename_i xs aC
  split at hf<;>try (cases hf;done)
  rename_i ws Ux
  split at hf<;>try (cases hf;done)
  rename_i u B' q2 cq
  simp only[Option.some.injEq,Prod.mk.injEq] at hf
  obtain⟨rfl,rfl⟩:=hf
  refine⟨fun c hc=>?_,fun R Q E hQ=>?_⟩
  ·rw[hc] at aC;cases aC
  rw[Re aC (Pq (f:=ev X.n e) (fun x v h=>aH h) Ux)]
  obtain⟨_,_,h3⟩:=auK _ cq (mO hq)
  exact h3 _ _ _ (fun x hx=> .inr (List.mem_append_left _ hx)) (hQ _ _ ⟨rfl,rfl⟩)
theorem I3:∀(n t:Nat) (acc:Array Value),(Extern.BytealgMakeNoZero.digits n t acc).size=acc.size+n
 |0,_,_=>rfl
 |n+1,t,acc=>by
  simp only[Extern.BytealgMakeNoZero.digits,I3 n,Array.size_push];omega
theorem jnz{ps rs:Array TypeId}(ef:EF X.P f (Extern.BytealgMakeNoZero.makeNoZero ps rs))(hT:rs[0]?=some T) (tf:TF X.P T (.slice E) sz bL z ag) (hn:n≤1000)
 (hj:∀b l,n≤l.length→J X (nq [] (.slice (some ⟨b,0,none⟩) n l.length) [(b,.cells ⟨l⟩ E (0,0))] o)) (hv:e8 X.n (aku X.n) o=some (f,[.int .i64 (n:Int)]):=by kernel_rfl) (hB:dO [] o=some []:=by kernel_rfl):J X o:=by
 obtain⟨ops,i,todo,k,e,w,kn,p,rfl,ho,hw,hc⟩:=dJ hv
 obtain⟨xs,at_,aC,hx⟩:=Pp hc
 intro cv
 rcases p with ⟨dst,op,ty,pos,dt,g⟩
 dsimp only at aC;subst aC
 refine agn X.hC ho hw ef hx ?_
 have eM:Extern.BytealgMakeNoZero.makeNoZero ps rs ⟨[Value.int .i64 (n:Int)]⟩=(do
  let some t:=rs[0]?|stuck "bytealg.MakeNoZero: no result type"
  let .slice elem ←underlying t|stuck "bytealg.MakeNoZero: slice type expected"
  if (n:Int) <0||(n:Int)>2^48 then runtimePanic (.error "makeslice: len out of range")
  let cap ←choose (.appendCap (n:Int).toNat 0 elem)
  askRoom cap
  let bytes ←choose (.extern "internal/bytealg.MakeNoZero.bytes" 0)
  let a ←newRow elem (Extern.BytealgMakeNoZero.digits cap bytes #[])
  pure (.slice (some a) (n:Int).toNat cap)):=rfl
 rw[eM]
 simp only[hT,bk tf]
 rw[if_neg (by simp only[Bool.or_eq_true,decide_eq_true_eq];omega)]
 refine aeU rfl fun q=>?_
 refine qy ?_
 show (if (Question.extern "internal/bytealg.MakeNoZero.bytes" 0).forced=true then _ else _)
 have key:∀cap bytes,n≤cap→bU X.P (newRow E (Extern.BytealgMakeNoZero.digits cap bytes #[]) >>= fun a=>pure (Value.slice (some a) ((n:Int).toNat) cap)) ⟨X.ro,den w⟩ (fun v s'=>ai X.C X.fn X.aD ops todo (KQ X k) (A X.n (upd dst v e) X.D) s') (fun _ _=>False):=by
  intro cap bytes oV
  rw[iA]
  intro b hb
  have hl:(Extern.BytealgMakeNoZero.digits cap bytes #[]).toList.length=cap:=by
   rw[Array.length_toList,I3];simp
  have:=hj b (Extern.BytealgMakeNoZero.digits cap bytes #[]).toList (by omega)
  rw[oH ho] at this
  have:=this cv
  simp only[JP,gZ,hl,yA] at this
  exact this
 split
 ·exact key _ _ (by show n≤(n:Int).toNat+_;rw[Int.toNat_natCast];exact Nat.le_add_right _ _)
 exact fun q2=>key _ _ (by show n≤(n:Int).toNat+_;rw[Int.toNat_natCast];exact Nat.le_add_right _ _)
def sdV(n:Nat)(p:Oper)(e:Env):Option (Addr×Nat×Nat):=match p.op with
 | .call ⟨.builtin .unsafeSliceData,xs,_⟩=>match y5 n e xs.toList with
  |some [.slice (some a) l c]=>some (a,l,c)
  |_=>none
 |_=>none
theorem jsd{a:Addr}{l c:Nat}(h:c≠0)(hj:J X (nq [] (.pointer (some a)) [] o))(hv:e8 X.n (sdV X.n) o=some (a,l,c):=by kernel_rfl)(hB:dO [] o=some []:=by kernel_rfl):J X o:=by
 refine jS (Φ:=fun u L'=>u= .pointer (some a)∧L'=[]) [] [] hv hB (fun p e hf=>?_) (fun u L' ql=>by obtain⟨rfl,rfl⟩:=ql;exact hj)
 unfold sdV at hf
 split at hf<;>try (cases hf;done)
 rename_i xs at_ aC
 split at hf<;>try (cases hf;done)
 rename_i a' l' c' hx
 simp only[Option.some.injEq,Prod.mk.injEq] at hf
 obtain⟨rfl,rfl,rfl⟩:=hf
 refine⟨by rw[aC];simp,fun R Q E hQ=>?_⟩
 have e1:Builtin.unsafeSliceData_ at_ p.type ⟨[.slice (some a') l' c']⟩=pure (.pointer (some a')):=by
  show (if c'≠0 then _ else _)=_
  rw[if_pos h]
 simp only[execOp,aC,resolve,tq (show wI X.n e xs=_ from hx),ah,invoke,builtin,e1]
 exact hQ _ _ ⟨rfl,rfl⟩
def usV(P:Program)(n:Nat)(p:Oper)(e:Env):Option (Nat×TypeId):=match p.op with
 | .call ⟨.builtin .unsafeString,xs,at_⟩=>match at_[0]? with
  |some pt=>match a8 P pt with
   |some ⟨.pointer E,_,_,_⟩=>bif Nat.beq (P.cellsOf E) 1 then (match y5 n e xs.toList with
    |some [.pointer (some ⟨b,0,none⟩),.int .i64 1]=>some (b,E)
    |_=>none) else none
   |_=>none
  |none=>none
 |_=>none
theorem jus{b:Nat}(ps:List Nat)(x:Int)(l:List Value)(hj:∀L',J X (nq ps (.string ⟨#[x.toNat.toUInt8]⟩) L' o))(hv:e8 X.n (usV X.P X.n) o=some (b,E):=by kernel_rfl)(hB:dO ps o=some [(b,.cells ⟨.int .u8 x::l⟩ E (0,0))]:=by kernel_rfl):J X o:=by
 refine jS (Φ:=fun u L'=>u= .string ⟨#[x.toNat.toUInt8]⟩) ps _ hv hB (fun p e hf=>?_) (fun u L' ql=>by subst ql;exact hj L')
 unfold usV at hf
 split at hf<;>try (cases hf;done)
 rename_i xs at_ aC
 split at hf<;>try (cases hf;done)
 rename_i pt hpt
 split at hf<;>try (cases hf;done)
 rename_i E' _ _ _ dS
 cases hc:Nat.beq (X.P.cellsOf E') 1 with
 |false=>rw[hc] at hf;cases hf
 |true=>
  rw[hc] at hf
  simp only[cond_true] at hf
  split at hf<;>try (cases hf;done)
  rename_i b' hx
  simp only[Option.some.injEq,Prod.mk.injEq] at hf
  obtain⟨rfl,rfl⟩:=hf
  have hc:=Nat.eq_of_beq_eq_true hc
  obtain⟨bL,tf⟩:=ay dS
  refine⟨by rw[aC];simp,fun R Q Er hQ=>?_⟩
  have e1:Builtin.unsafeString_ at_ p.type ⟨[.pointer (some ⟨b',0,none⟩),.int .i64 1]⟩=(do
   let n ←asInt (.int .i64 1)
   let some pt:=at_[0]?|stuck "unsafe.String: no argument types"
   if n <0 then runtimePanic (.error "unsafe.String: len out of range")
   if n>IntKind.i64.max then unsupported (.unsafePointer "String: a length above the largest int")
   if n=0 then pure (.string .empty)
   else if ←variablesAt ⟨b',0,none⟩ (←elemOf pt) n.toNat then do
    let s ←loadBytes ⟨b',0,none⟩ .empty n.toNat
    freeze ⟨b',0,none⟩ n.toNat
    pure (.string s)
   else unsupported (.unsafePointer "String: not so many bytes at ptr")):=rfl
  simp only[execOp,aC,resolve,tq (show wI X.n e xs=_ from hx),ah,invoke,builtin,e1]
  simp only[asInt,asIntOf,ae,ah,hpt,show ¬((1:Int) <0) by omega,show ¬((1:Int)>IntKind.i64.max) by decide,show ¬((1:Int)=0) by omega,if_false,elemOf,bk tf,variablesAt,fu]
  have hs:(⟨X.ro,[(b',Obj.cells ⟨Value.int .u8 x::l⟩ E' (0,0))]++R⟩:St).rw=[]++(b',Obj.cells ⟨Value.int .u8 x::l⟩ E' (0,0))::R:=rfl
  have hm:(⟨X.ro,[(b',Obj.cells ⟨Value.int .u8 x::l⟩ E' (0,0))]++R⟩:St).has b' (.cells ⟨Value.int .u8 x::l⟩ E' (0,0)):= .inr (by rw[hs];exact fN)
  refine⟨_,hm,?_⟩
  have aHf:=Go.Lib.liesAt_bytes (P:=X.P) hc ((Value.int .u8 x::l).length / X.P.cellsOf E') 1 (by rw[hc];simp)
  have pb:∀ {α β:Type} (a:α) (f:α→Sem β),(Sem.pure a).bind f=f a:=fun _ _=>rfl
  simp only[Obj.shapeOf,List.size_toArray,ae,ah,pb]
  rw[show (1:Int).toNat=1 from rfl,aHf]
  simp only[ah,ae,if_true,loadBytes]
  refine⟨rfl,rfl,_,_,_,.int .u8 x,hm,rfl,?_⟩
  simp only[ae,ah]
  refine(if_neg (by omega:¬(1:Nat)=0)).mpr ?_
  refine⟨[],_,R,hs,?_⟩
  exact hQ (.string ⟨#[x.toNat.toUInt8]⟩) [(b',_)] rfl
def pnV(P:Program)(n:Nat)(p:Oper)(e:Env):Option (Nat×Nat):=match p.op with
 | .binOp .neq T x y _=>match a8 P T with
  |some ⟨.pointer E,_,_,_⟩=>match a8 P E with
   |some te=>bif Nat.blt 0 te.size then (match bE n e x with
    |some (.pointer (some ⟨b,0,none⟩))=>match bE n e y with
     |some (.pointer (some ⟨c,0,none⟩))=>some (b,c)
     |_=>none
    |_=>none) else none
   |none=>none
  |_=>none
 |_=>none
theorem ap6{sz2 Ct:Nat}{z2:List Value}{ag2:Bool}(tf:TF P t (.pointer E) sz bL z ag){d:TypeDesc}(rM:TF P E d sz2 Ct z2 ag2)(hs:sz2≠0)(a:Addr):EqD P (dep+1) t (.pointer (some a)) (.pointer (some a)) true:=by
 intro α s kk Q Er
 simp only[Op.equalIn,ae,bk tf,cy rM,hs,ne_eq,not_false_eq_true,if_true,sameAddr,beq_self_eq_true,ah]
theorem jpn{b:Nat}(hj:J X (nq [] (.bool false) [] o))(hv:e8 X.n (pnV X.P X.n) o=some (b,b):=by kernel_rfl)(hB:dO [] o=some []:=by kernel_rfl):J X o:=by
 refine jS (Φ:=fun u L'=>u= .bool false∧L'=[]) [] [] hv hB (fun p e hf=>?_) (fun u L' ql=>by obtain⟨rfl,rfl⟩:=ql;exact hj)
 unfold pnV at hf
 split at hf<;>try (cases hf;done)
 rename_i T x y T2 aC
 split at hf<;>try (cases hf;done)
 rename_i E' _ _ _ dS
 split at hf<;>try (cases hf;done)
 rename_i te tX
 cases hc:Nat.blt 0 te.size with
 |false=>rw[hc] at hf;cases hf
 |true=>
  rw[hc] at hf
  simp only[cond_true] at hf
  split at hf<;>try (cases hf;done)
  rename_i b' hx
  split at hf<;>try (cases hf;done)
  rename_i c' hy
  simp only[Option.some.injEq,Prod.mk.injEq] at hf
  obtain⟨rfl,rfl⟩:=hf
  obtain⟨bL,tf⟩:=ay dS
  obtain⟨Ct,rM⟩:=ay tX
  have hc:0 <te.size:=by rwa[Nat.blt_eq] at hc
  refine⟨by rw[aC];simp,fun R Q Er hQ=>?_⟩
  have hs:te.size≠0:=by omega
  simp only[execOp,aC,aH hx,aH hy,eqGuard,ae,binOp,Op.equal,Op.maxDepth]
  simp only[Bool.not_true,Bool.false_eq_true,if_false,ah,ae]
  rw[ap6 (dep:=9999) tf rM hs]
  exact hQ _ _ ⟨rfl,rfl⟩
end
attribute [irreducible] smV smA smL smR sdV usV pnV
section
variable {X:Cx} {o:Option JS}
def s0V(P:Program)(n:Nat)(p:Oper)(e:Env):Option (Addr×Nat×Nat):=match p.op with
 | .slice T x none (some y) none=>match a8 P T with
  |some ⟨.slice E,_,_,_⟩=>match a8 P E with
   |some _=>match bE n e x with
    |some (.slice (some ⟨b,0,none⟩) l c)=>match bE n e y with
     |some (.int .i64 0)=>some (⟨b,0,none⟩,l,c)
     |_=>none
    |_=>none
   |none=>none
  |_=>none
 |_=>none
theorem js0{a:Addr}{l c:Nat}(hj:J X (j8 (.slice (some a) 0 c) o))(hv:dE X.n (s0V X.P X.n) o=some (a,l,c):=by kernel_rfl):J X o:=by
 refine jG hv (fun s p e ho hh hf=>?_) hj
 unfold s0V at hf
 split at hf<;>try (cases hf;done)
 rename_i T x y aC
 split at hf<;>try (cases hf;done)
 rename_i E _ _ _ dS
 split at hf<;>try (cases hf;done)
 rename_i te tX
 split at hf<;>try (cases hf;done)
 rename_i b l' c' hx
 split at hf<;>try (cases hf;done)
 rename_i hy
 simp only[Option.some.injEq,Prod.mk.injEq] at hf
 obtain⟨rfl,rfl,rfl⟩:=hf
 obtain⟨bL,tf⟩:=ay dS
 obtain⟨Ct,rM⟩:=ay tX
 have key:∀s,Yields X.P X.n e p s (.slice (some ⟨b,0,none⟩) 0 c'):=by
  intro s s' nH f hf K E hK
  have hb:(0:Int)≤0∧(0:Int)≤(c':Int):=by omega
  simp only[execOp,aC,Option.map_some,Option.map_none,Instr.sliceAt,Instr.slice,hf _ _ hx,hf _ _ hy,ae,bk tf,Instr.sliceBounds,Instr.sliceBound,asIntOf,ah,hb,and_self,if_true,cy rM]
  have he:(if c'=0 then (some ⟨b,0,none⟩:Option Addr) else some ((⟨b,0,none⟩:Addr).add (0*te.size)))=some ⟨b,0,none⟩:=by
   split
   ·rfl
   simp[dV]
  rw[show (0:Int).toNat=0 from rfl,he]
  exact hK
 exact⟨by rw[aC];rfl,fun _=>key _,fun _=>key⟩
end
attribute [irreducible] s0V
section
variable {X:Cx} {o:Option JS}
def cpV(P:Program)(n:Nat)(p:Oper)(e:Env):Option Nat:=match p.op with
 | .call ⟨.builtin .cap,⟨[x]⟩,⟨[T]⟩⟩=>match a8 P T with
  |some ⟨.slice _,_,_,_⟩=>match bE n e x with
   |some (.slice _ _ c)=>some c
   |_=>none
  |_=>none
 |_=>none
theorem jcp{c:Nat}(hj:J X (j8 (.int .i64 (c:Int)) o))(hv:dE X.n (cpV X.P X.n) o=some c:=by kernel_rfl):J X o:=by
 refine jG hv (fun s p e ho hh hf=>?_) hj
 unfold cpV at hf
 split at hf<;>try (cases hf;done)
 rename_i x T aC
 split at hf<;>try (cases hf;done)
 rename_i dS
 split at hf<;>try (cases hf;done)
 rename_i a l c' hx
 simp only[Option.some.injEq] at hf
 subst hf
 obtain⟨bL,tf⟩:=ay dS
 have key:∀s,Yields X.P X.n e p s (.int .i64 (c':Int)):=by
  intro s s' nH f hf K E hK
  simp only[execOp,aC,resolve,invoke,builtin,List.map_toArray,List.map_cons,List.map_nil,hf _ _ hx,ah,ae,Builtin.cap_,List.getElem?_toArray,List.getElem?_cons_zero,bk tf]
  exact hK
 exact⟨by rw[aC];rfl,fun _=>key _,fun _=>key⟩
end
attribute [irreducible] cpV
def tkO(is:List Nat)(o:Option JS):List Sg:=(p7 is o).getD []
theorem aTC(is:List Nat)(p:List Nat)(Ks:List (Act→St→Prop))(ef:ι→Env)(wf:ι→List Sg)(Inv:ι→Prop)(μ:ι→Nat)(i0:ι)(h0:Inv i0)(ps:List Nat)(hb:∀i,Inv i→∀K,rH X K ef (fun i=>wf i++tkO is o) Inv μ (μ i)→∀rest,J X (stW X.P X.fn p (Ks++[K]) (ef i++rest) (wf i++tkO is o)))
 (h1:oR (lU (ef i0)) o=some (ef i0):=by kernel_rfl)(hd:∀i,lkE (lU (ef i)) (ef i)=some (ef i):=by intro _;kernel_rfl)(h2:p7 ps o=some (wf i0++tkO is o):=by kernel_rfl)(hp:∀K,Lj X.P X.fn p (Ks++[K])=lpB K (zo o):=by intro _;kernel_rfl):J X o:=
 dH p Ks ef (fun i=>wf i++tkO is o) Inv μ i0 h0 ps hb h1 hd h2 hp
attribute [irreducible] tkO
abbrev RCG(ro:Nat→Option Obj)(Φ:Value→(Nat→Option Obj)→Cells→Prop)(fr:Cells):Ending→St→Prop:=fun en s'=>∃v aF Y,en= .returned v∧Sub ro aF∧(⟨aF,Y++fr⟩:St).le s'∧Φ v aF Y
def aAg(P:Program)(f:FuncId)(args:List Value)(ro:Nat→Option Obj)(own:Cells)(Φ:Value→(Nat→Option Obj)→Cells→Prop):Prop:=
 ∀fr,Fn (C0 P) P f ⟨args⟩ ⟨ro,own++fr⟩ (RCG ro Φ fr)
theorem aFQ(hm:P.follows .mixedOrders=true){Φ:Value→(Nat→Option Obj)→Cells→Prop}{L:Cells}(own:List Sg)(kn:Cells)(hk:Knows ro kn)(h:∀fr,J (XC P hm f ro (RCG ro Φ fr)) (j6 P f args (own++[.l fr]) kn))(hL:den own=L:=by rfl):aAg P f args ro L Φ:=by
 subst hL
 intro fr
 have h:=h fr
 unfold j6 at h
 split at h<;>try exact h.elim
 rename_i fn hf
 split at h<;>try exact h.elim
 rename_i c hc
 cases hl:Nat.ble args.length fn.ntmps with
 |false=>rw[hl] at h;exact h.elim
 |true=>
  rw[hl] at h
  have vV:rh P f=fn:=by simp only[rh,hf]
  have:=h hk
  simp only[JP,XC,KQ,vV] at this
  have hd:den (own++[.l fr])=den own++fr:=by rw[me];rfl
  rw[hd] at this
  exact M9 yE hf hc hl this
section
variable {X:Cx} {o:Option JS}
theorem acb{own:Cells}{Φ:Value→(Nat→Option Obj)→Cells→Prop}(ps:List Nat)(hC:∀main T,X.C main T→C0 X.P main T)(hf:aAg X.P f vs X.ro own Φ)(hj:∀v aF Y,Sub X.ro aF→Φ v aF Y→J (X.at aF) (nq ps v Y o))(h1:e8 X.n (zt X.P X.n) o=some (f,vs):=by kernel_rfl)(h2:dO ps o=some own:=by kernel_rfl):J X o:=by
 obtain⟨ops,i,todo,k,e,w,kn,p,rfl,ho,hw,hc⟩:=dJ h1
 obtain⟨ff,x,xs,at_,fi,ca,ws,aC,hx,td,rfl⟩:=rB hc
 intro cv
 rcases p with ⟨dst,op,ty,pos,dt,g⟩
 dsimp only at aC;subst aC
 have hp:=bO h2
 have vV:Fn X.C X.P f ⟨fi++ws++ca⟩ ⟨X.ro,den w⟩ (RCG X.ro Φ (den (dL ps 0 w))):=fun main T hT c cs k1 k2=>
  (X.hC main T hT).mono _ ⟨X.ro,own++den (dL ps 0 w)⟩ _ (dY (J:=[]) (by rw[List.append_nil];exact hp) (Sub.refl _)) (Fn.weaken hC (hf _) main T hT c cs k1 k2)
 refine u3 (fi:=⟨fi⟩) (ca:=⟨ca⟩) (ws:=fi++ws++ca) X.hC ho hw hx ff td (T4 fi ws ca) vV (fun v' s' hr=>?_) (fun ch s' hr=>by obtain⟨_,_,_,e,_⟩:=hr;cases e) (fun s' hr=>by obtain⟨_,_,_,e,_⟩:=hr;cases e)
 obtain⟨v,aF,Y,hv,hs,hle,ql⟩:=hr
 cases hv
 have:=hj _ aF Y hs ql
 rw[oH ho] at this
 have:=this (cv.up hs)
 simp only[JP,gZ,JD] at this
 exact this.more X.hC hle
theorem OA(hq:QR X (RC qk fr Φ))(v:Value)(hs ps:List Nat)(Y:Cells)(fT:Sub qk X.ro)(hR:Φ v Y)(h1:rR (iU X.P X.n X.fn hs o)=some v:=by kernel_rfl)(h2:Qm (iU X.P X.n X.fn hs o)=Ql (iU X.P X.n X.fn hs o):=by kernel_rfl)(h3:dO ps o=some (Y++fr):=by kernel_rfl)(h4:AS o=true:=by kernel_rfl):J X o:=
 aN hq v hs ps (Y++fr) fT ⟨v,Y,rfl,St.le_refl _,hR⟩ h1 h2 h3 h4
theorem aFR(hq:QR X (RC qk fr Φ))(v:Value)(ps:List Nat)(A B:Cells)(fT:Sub qk X.ro)(hR:Φ v (A++B))(h1:rR (iU X.P X.n X.fn [] o)=some v:=by kernel_rfl)(h2:Qm (iU X.P X.n X.fn [] o)=Ql (iU X.P X.n X.fn [] o):=by kernel_rfl)(h3:dO ps o=some (A++(B++fr)):=by kernel_rfl)(h4:AS o=true:=by kernel_rfl):J X o:=
 aN hq v [] ps ((A++B)++fr) fT ⟨v,A++B,rfl,St.le_refl _,hR⟩ h1 h2 (by rw[h3,List.append_assoc]) h4
theorem aTt{Φ:Value→(Nat→Option Obj)→Cells→Prop}(hq:QR X (RCG qk Φ fr))(v:Value)(ps:List Nat)(Y:Cells)(fT:Sub qk X.ro)(hR:Φ v X.ro Y)(h1:rR (iU X.P X.n X.fn [] o)=some v:=by kernel_rfl)(h2:Qm (iU X.P X.n X.fn [] o)=Ql (iU X.P X.n X.fn [] o):=by kernel_rfl)(h3:dO ps o=some (Y++fr):=by kernel_rfl)(h4:AS o=true:=by kernel_rfl):J X o:=
 aN hq v [] ps (Y++fr) (Sub.refl _) ⟨v,X.ro,Y,rfl,fT,St.le_refl _,hR⟩ h1 h2 h3 h4
end
theorem Vs{c:Code}{os:Os}{out:Array (Nat×ByteArray)}{Post:Value→World→Prop}(hf:P.funcs[f]?=some fn) (hb:fn.body=some c) (hl:Nat.ble args.length fn.ntmps=true) (hi:P.inits.idxOf? f=none)
 (S5:∀v s0 w,R (.returned v) s0→aU s0 w→w.os=os→w.output=out→Post v w) (JQ:∀ch s,¬R (.panicked ch) s)
 (h:Wp (C0 P) f none c (sI P fn R) (A fn.ntmps (gu 0 args) []) s):T0 P os out Post (G (Frame.enter P f ⟨args⟩ .normal) []) s:=by
 have hT:C0 P true (T0 P os out Post):=⟨rfl,os,out,Post,rfl⟩
 have iY:=tJ P os out Post
 let b:Frame:={(default:Frame) with fn:=f,kind:= .normal,roundOf:=none}
 have iM:Frame.enter P f ⟨args⟩ .normal=aM b (A fn.ntmps (gu 0 args) []) [.code c]:=by
  rw[←lj args fn.ntmps (Nat.le_of_ble_eq_true hl)]
  simp[Frame.enter,aM,hf,hb,b]
 rw[iM]
 refine h true _ hT b [] [] rfl (by simp[b]) rfl fun e a' s' q=>?_
 have last:∀(todo:List Item),a'.defers=[]→bU P (results fn a'.tmps) s' (fun v s'=>∃s0,s0.le s'∧R (.returned v) s0) (fun _ _=>False)→T0 P os out Post (G {aM b a' todo with mode:= .returning} []) s':=by
  intro todo hd hr
  refine abn rfl fun w qn uB F3=>?_
  obtain⟨r,es,cq,hl⟩:=iy _ _ _ _ w #[] hr qn
  rw[Array.empty_append] at cq
  cases r with
  |ok v w'=>
   obtain⟨s2,ht,s0,hle,hu⟩:=hl
   refine⟨v,w',seen P f es,s2,?_,S5 v s0 w' hu (aU.of_le hle ht.kB) (ht.os.trans uB) (ht.output.trans F3),ht.sub (jb _ _ _)⟩
   simp only[aM,b,G,stepG,unwind,hf,hd,cq,doReturn,hi,GStep.after,Array.append_empty,Bool.not_true,Bool.false_eq_true,if_false]
  |halt _ _=>obtain⟨_,_,hu⟩:=hl;exact hu.elim
 cases e with
 |normal=>exact iY.go rfl rfl (g':=G {aM b a' [] with mode:= .returning} []) (fun w=>by simp[G,stepG,stepG.exec,aM,b]) (last _ q.1 q.2)
 |ret=>exact fun todo=>iY.go rfl rfl (g':=G {aM b a' (.code .ret::todo) with mode:= .returning} []) (fun w=>by simp[G,stepG,stepG.exec,aM,b]) (last _ q.1 q.2)
 |panic ch=>exact(JQ _ _ q.2).elim
 |exit id=>exact q.elim
 |goto l=>exact q.elim
 |outgrown=>exact q.elim
def atj(P:Program)(f:FuncId)(args:List Value)(ro:Nat→Option Obj)(Φ:Value→Cells→Prop):Prop:=
 ∀os out (Post:Value→World→Prop),(∀v Y w,Φ v Y→aU ⟨ro,Y⟩ w→w.os=os→w.output=out→Post v w)→T0 P os out Post (G (Frame.enter P f ⟨args⟩ .normal) []) ⟨ro,[]⟩
theorem aFN(hm:P.follows .mixedOrders=true)(hi:P.inits.idxOf? f=none)(kn:Cells)(hk:Knows ro kn)(h:∀fr,J (XC P hm f ro (RC ro fr Φ)) (j6 P f args [.l fr] kn)):atj P f args ro Φ:=by
 intro os out Post S5
 have h:=h []
 unfold j6 at h
 split at h<;>try exact h.elim
 rename_i fn hf
 split at h<;>try exact h.elim
 rename_i c hc
 cases hl:Nat.ble args.length fn.ntmps with
 |false=>rw[hl] at h;exact h.elim
 |true=>
  rw[hl] at h
  have vV:rh P f=fn:=by simp only[rh,hf]
  have:=h hk
  simp only[JP,XC,KQ,vV] at this
  refine Vs hf hc hl hi (fun v s0 w hr qn uB F3=>?_) (fun ch s hr=>?_) this
  ·obtain⟨v',Y,e,hle,ql⟩:=hr
   cases e
   refine S5 _ Y w ql ?_ uB F3
   have:=aU.of_le hle qn
   rwa[List.append_nil] at this
  obtain⟨v',Y,e,_⟩:=hr;cases e
def aFh(P:Program)(n:Nat)(p:Oper)(e:Env):Option (TypeId×List Value×Int×Int):=match p.op with
 | .makeSlice T x y=>match a8 P T with
  |some ⟨.slice E,_,_,_⟩=>match a8 P E with
   |some te=>match bE n e x,bE n e y with
    |some (.int .i64 a),some (.int .i64 b)=>bif Nat.beq te.size 1&&Nat.ble (pF P E) 65536 then some (E,te.zero,a,b) else none
    |_,_=>none
   |none=>none
  |_=>none
 |_=>none
theorem abF{z:Value}:((Array.range n).map fun x=>(⟨[z]⟩:Array Value)[x % (⟨[z]⟩:Array Value).size]!)=⟨List.replicate n z⟩:=by
 apply Array.ext'
 simp only[Array.toList_map,Array.toList_range]
 refine List.ext_getElem? fun i=>?_
 simp only[List.getElem?_map,List.getElem?_range',List.getElem?_replicate]
 by_cases h:i <n
 ·simp[h,Nat.mod_one]
 simp[h]
theorem aFS{z:Value}(enc:α→List Value)(e:α)(m:Int)(he:enc e=[z])(hm:0≤m∧m≤1000)(hj:∀v L,aA v 1 E enc (List.replicate m.toNat e) L→J X (nq [] v L o))(hv:e8 X.n (aFh X.P X.n) o=some (E,[z],m,m):=by kernel_rfl)(hB:dO [] o=some []:=by kernel_rfl):J X o:=by
 refine jS (Φ:=fun v L'=>aA v 1 E enc (List.replicate m.toNat e) L') [] [] hv hB (fun p e' hf=>?_) (fun v L' ql=>hj v L' ql)
 unfold aFh at hf
 split at hf<;>try (cases hf;done)
 rename_i T x y aC
 split at hf<;>try (cases hf;done)
 rename_i E' _ _ _ dS
 split at hf<;>try (cases hf;done)
 rename_i te tX
 split at hf<;>try (cases hf;done)
 rename_i a b hx hy
 cases hc:(Nat.beq te.size 1&&Nat.ble (pF X.P E') 65536) with
 |false=>rw[hc] at hf;cases hf
 |true=>
  rw[hc] at hf
  simp only[cond_true,Option.some.injEq,Prod.mk.injEq] at hf
  obtain⟨rfl,hz,rfl,rfl⟩:=hf
  simp only[Bool.and_eq_true,Nat.beq_eq,Nat.ble_eq] at hc
  obtain⟨uA,hby⟩:=hc
  obtain⟨byT,tf⟩:=ay dS
  obtain⟨bL,jI⟩:=ay tX
  obtain⟨i,hi,hi1,O1,hi3⟩:=jI.info
  have ai5:bL≤65536:=by simp only[pF,hi] at hby;omega
  have ai8:¬((bL:Int)*b>2^48):=by
   have:(bL:Int)*b≤65536*1000:=Int.mul_le_mul (by omega) hm.2 hm.1 (by omega)
   omega
  have w2:IntKind.i64.wrap b=b:=jY b (by omega)
  have iY:(NB [z] te.agg).cells=⟨[z]⟩:=by rw[←hz];exact dX jI
  have jm:∀bl,aA (.slice (some ⟨bl,0,none⟩) b.toNat b.toNat) 1 E' enc (List.replicate b.toNat e) [(bl,.cells ⟨List.replicate b.toNat z⟩ E' (0,0))]:=fun bl=>
   .inr ⟨bl,_,b.toNat,by rw[List.length_replicate],rfl,by rw[List.length_replicate,Nat.mul_one],by rw[List.length_replicate];exact Nat.le_refl _,fun p hp=>by rw[List.eq_of_mem_replicate hp,he];rfl,by
    rw[List.length_replicate,Nat.mul_one,List.take_of_length_le (by rw[List.length_replicate];exact Nat.le_refl _),List.map_replicate,he]
    induction b.toNat with
    |zero=>rfl
    |succ k ih=>rw[List.replicate_succ,List.replicate_succ,List.flatten_cons,←ih];rfl⟩
  refine⟨by rw[aC];simp,fun R Q E hQ=>?_⟩
  simp only[execOp,aC,Instr.makeSlice,aH hx,aH hy,asInt,asIntOf,ae,bk tf,ah,mh hi,O1,w2,ai8,show ¬(b <0) by omega,show ¬(b>b) by omega,decide_false,Bool.or_self,Bool.false_eq_true,if_false]
  refine qy ?_
  by_cases h0:b.toNat=0
  ·have e0:((Array.range 0).map fun x=>(#[]:Array Value)[x % (#[]:Array Value).size]!)=⟨List.replicate 0 z⟩:=by apply Array.ext';simp
   simp only[ae,cy jI,uA,Nat.mul_one,h0,if_true,ah,e0,iA]
   intro bl S3
   have:=jm bl
   rw[h0] at this
   rw[h0] at hQ
   exact hQ _ _ this
  simp only[ae,cy jI,uA,Nat.mul_one,h0,if_false,j5 jI,ah,hz,iY,abF,iA]
  intro bl S3
  exact hQ _ _ (jm bl)
theorem cH{v:Value}(enc:α→List Value){ps:List α}{L:Cells}(b:Nat)(x:α)(i j:Nat)(jm:aA v sz E enc ps L)(hl:(enc x).length=sz)(hs:(enc x).all single=true)(hb:ps.length+1≤1048576)(hj:∀a c L',aA (.slice a (ps++[x]).length c) sz E enc (ps++[x]) L'→J X (VW [i] (.slice a (ps++[x]).length c) L' o))
 (hv:e8 X.n (apV X.P X.n) o=some (v,.slice (some ⟨b,0,none⟩) 1 1,E,sz):=by kernel_rfl)(h2:dO [i] o=some L:=by kernel_rfl)(h3:dO [j] o=some [(b,.cells ⟨([x].map enc).flatten⟩ E (0,0))]:=by kernel_rfl):J X o:=
 BS [i] [j] _ jm (fun s _ hZ=>NU [x] (hZ _ (.head _)) (by intro p hp;rw[List.mem_singleton] at hp;subst hp;exact hl)) (fun p hp=>by rw[List.mem_singleton] at hp;subst hp;exact bM hs) (by simpa using hb) (fun v' L' h=>by obtain⟨a,c,rfl⟩:=h.form;exact hj a c L' h) hv h2 h3
open Go.Proofs
theorem av:Tryz.prog.follows .mixedOrders=true:=by kernel_rfl
theorem zB:(∀a b:Bool,((a&&b)=true)=(a=true∧b=true))∧(∀a b:Bool,((a||b)=true)=(a=true∨b=true))∧(∀a b:Bool,((a&&b)=false)=(a=false∨b=false))∧(∀a b:Bool,((a||b)=false)=(a=false∧b=false))∧(∀b:Bool,((!b)=true)=(b=false))∧(∀b:Bool,((!b)=false)=(b=true))∧(∀(p:Prop) [Decidable p],(decide p=true)=p)∧(∀(p:Prop) [Decidable p],(decide p=false)=¬p)∧((¬True)=False)∧(∀p:Prop,(p∨False)=p)∧(∀p:Prop,(False∨p)=p):=
 ⟨Bool.and_eq_true,Bool.or_eq_true,by simp,by simp,by simp,by simp,by simp,by simp,by simp,by simp,by simp⟩
@[reducible] noncomputable def zT:Program:=Tryz.prog
abbrev zS:Value:= .slice none 0 0
abbrev zP(b:Nat):Value:= .pointer (some ⟨b,0,none⟩)
abbrev zI(n:Int):Value:= .int .i64 n
abbrev zU(n:Int):Value:= .int .u64 n
abbrev zO:List Value:=[zS,zS,zS,zS,zS,zS,zS,zS,zI 0,zI 0,zI 0,zS]
theorem zG(l:List α)(k:Nat)(h:k <l.length:=by first|omega| (simp only[List.length_set];omega)):∃x,l[k]?=some x:=⟨_,List.getElem?_eq_getElem h⟩
theorem zJ(t:Nat)(p:Prop)[Decidable p](h1:p→J X (Rc t (.bool true) o))(h2:¬p→J X (Rc t (.bool false) o))(hv:LV t o=some (.bool (decide p)):=by kernel_rfl):J X o:=
 js t (decide p) (fun h=>h1 (of_decide_eq_true h)) (fun h=>h2 (of_decide_eq_false h)) hv
theorem zD(k:Nat)(h:J X (res (adv X.P X.n k [] o)))(he:lhs (adv X.P X.n k [] o)=rhs (adv X.P X.n k [] o):=by kernel_rfl):J X o:=jd k [] h he
theorem zL{l:List α}{a:α}(h:l[i]?=some a):a∈l:=List.mem_of_getElem? h
theorem zR{hm:P.follows .mixedOrders=true}(v:Value)(hs ps:List Nat)(Y:Cells)(hR:Φ v Y)(h1:rR (iU P (rh P f).ntmps f hs o)=some v:=by kernel_rfl)(h2:Qm (iU P (rh P f).ntmps f hs o)=Ql (iU P (rh P f).ntmps f hs o):=by kernel_rfl)(h3:dO ps o=some Y:=by kernel_rfl)(h4:AS o=true:=by kernel_rfl):J (X0 P hm f ro (RX ro Φ)) o:=
 aN q0 v hs ps Y (Sub.refl _) ⟨_,_,rfl,rfl,hR⟩ h1 h2 h3 h4
theorem zX{hm:P.follows .mixedOrders=true}(v:Value)(hR:Φ v [])(h1:rR (iU P (rh P f).ntmps f [] o)=some v:=by kernel_rfl)(h2:Qm (iU P (rh P f).ntmps f [] o)=Ql (iU P (rh P f).ntmps f [] o):=by kernel_rfl)(h3:dO [] o=some []:=by kernel_rfl)(h4:AS o=true:=by kernel_rfl):J (X0 P hm f ro (RX ro Φ)) o:=
 zR v [] [] [] hR h1 h2 h3 h4
theorem zE(h:J (X0 Tryz.prog av f ro (RX ro Φ)) (j6 Tryz.prog f args [] [])):ee Tryz.prog f args ro [] Φ:=bK av [] [] bp h
theorem zC{L:Cells}(own:List Sg)(h:J (X0 Tryz.prog av f ro (RX ro Φ)) (j6 Tryz.prog f args own []))(hL:den own=L:=by rfl):ee Tryz.prog f args ro L Φ:=bK av own [] bp h hL
@[reducible] def zN(a k:Nat):List Nat:=List.range' a k
theorem zM:(∀l m:List α,(l++m).length=l.length+m.length)∧(∀(a:α) (l:List α),(a::l).length=l.length+1)∧([]:List α).length=0:=⟨fun _ _=>List.length_append,fun _ _=>rfl,rfl⟩
theorem zK{m:Nat}{o':Option JS}(h:∀o',uj 0 [] o'=uj m [] o→oR (lU e) o'=some e→J X o')(h1:uj 0 [] o'=uj m [] o:=by kernel_rfl)(h2:oR (lU e) o'=some e:=by kernel_rfl):J X o':=h o' h1 h2
theorem zY{K:Act→St→Prop}{ef:ι→Env}{wf:ι→List Sg}{Inv:ι→Prop}{μ:ι→Nat}{m:Nat}(hK:rH X K ef wf Inv μ m)(j:ι)(h:Inv j)(ps:List Nat)(hm:μ j <m:=by first|omega| (dsimp only;omega))
 (h0:Oi o=some K:=by kernel_rfl)(h1:oR (lU (ef j)) o=some (ef j):=by kernel_rfl)(h2:p7 ps o=some (wf j):=by kernel_rfl):J X o:=bF hK j h hm ps (Sub.refl _) h0 h1 h2
theorem zF{K:Act→St→Prop}{ef:ι→Env}{wf:ι→List Sg}{A B:ι→Prop}{μ:ι→Nat}{m:Nat}(hK:rH X K ef wf (fun j=>A j∧B j) μ m)(j:ι)(h:B j)(ps:List Nat)(h9:A j:=by dsimp only;omega)(hm:μ j <m:=by first|omega| (dsimp only;omega))
 (h0:Oi o=some K:=by kernel_rfl)(h1:oR (lU (ef j)) o=some (ef j):=by kernel_rfl)(h2:p7 ps o=some (wf j):=by kernel_rfl):J X o:=bF hK j ⟨h9,h⟩ hm ps (Sub.refl _) h0 h1 h2
theorem zH{v:Value}{szo:Nat}{enc:α→List Value}{ps:List α}{L:Cells}{x:α}(ix:Int)(sz:Nat)(jm:aA v szo T2 enc ps L)(hx:ps[ix.toNat]?=some x) (hj:∀b,Lc v b→J X (j8 (.pointer (some ⟨b,ix.toNat*sz,none⟩)) o)) (he:ix=(ix.toNat:Int):=by first|omega| (simp only[List.length_set] at*;omega)) (hv:dE X.n (ixA X.P X.n) o=some (v,ix,sz):=by kernel_rfl):J X o:=qg ix sz jm hx he hj hv
theorem zV{K:Act→St→Prop}{ef:ι→Env}{wf:ι→List Sg}{Inv:ι→Prop}{μ:ι→Nat}{m:Nat}(hK:rH X K ef wf Inv μ m)(j:ι)(h:Inv j)(ps:List (List Nat))(hm:μ j <m:=by first|omega| (dsimp only;omega))
 (h0:Oi o=some K:=by kernel_rfl)(h1:oR (lU (ef j)) o=some (ef j):=by kernel_rfl)(h2:gO ps o=some (Vn (wf j)):=by kernel_rfl):J X o:=FQ hK j h hm ps (Sub.refl _) h0 h1 h2
theorem zW(r:Int)(hj:J X (j8 (.int .i64 r) o))(h: -9223372036854775808≤r∧r≤9223372036854775807:=by omega)(hv:dE X.n (am0 X.P X.n) o=some (.int .i64 (IntKind.i64.wrap r)):=by kernel_rfl):J X o:=ja r h hj hv
def ju(n lo hi:Int):Bool:=decide (lo≤n)&&decide (n≤hi)
theorem fJ{n:Int}:dG zT 81 [zI n,zI lo,zI hi] ro (.bool (ju n lo hi)):=by
 refine zE<|zD 10<|jj 4 [(6,.bool false),(14,.bool ((decide (lo≤n))&&(decide (n≤hi))))] (fun fA=>?_) (fun hj=>?_)
 rotate_left
 refine js 10 (decide (lo≤n)) (fun h1=>?_) (fun h1=>?_)
 ·
  have gM:=h1
  replace gM:=of_decide_eq_true gM
  refine zD 4<|jw 14 (.bool ((decide (lo≤n))&&(decide (n≤hi)))) (w:= .bool (decide (n≤hi))) (by rw[h1]<;>rfl) ?_
  exact zK hj
 ·
  have gM:=h1
  replace gM:=of_decide_eq_false gM
  refine zD 4<|jw 14 (.bool ((decide (lo≤n))&&(decide (n≤hi)))) (w:= .bool false) (by rw[h1]<;>rfl) ?_
  exact zK hj
 refine zD 3<|zX (.bool ((decide (lo≤n))&&(decide (n≤hi)))) ⟨rfl,rfl⟩
theorem jP{n:Int}:dG zT 146 [zI n,zI lo,zI hi] ro (.bool (ju n lo hi)):=by
 refine zE<|zD 10<|jj 4 [(6,.bool false),(14,.bool ((decide (lo≤n))&&(decide (n≤hi))))] (fun fA=>?_) (fun hj=>?_)
 rotate_left
 refine js 10 (decide (lo≤n)) (fun h1=>?_) (fun h1=>?_)
 ·
  have gM:=h1
  replace gM:=of_decide_eq_true gM
  refine zD 4<|jw 14 (.bool ((decide (lo≤n))&&(decide (n≤hi)))) (w:= .bool (decide (n≤hi))) (by rw[h1]<;>rfl) ?_
  exact zK hj
 ·
  have gM:=h1
  replace gM:=of_decide_eq_false gM
  refine zD 4<|jw 14 (.bool ((decide (lo≤n))&&(decide (n≤hi)))) (w:= .bool false) (by rw[h1]<;>rfl) ?_
  exact zK hj
 refine zD 3<|zX (.bool ((decide (lo≤n))&&(decide (n≤hi)))) ⟨rfl,rfl⟩
def bS(p:α→Bool):List α→Nat→Int
 | [],_=> -1
 |x::l,k=>bif p x then k else bS p l (k+1)
theorem fg{l:List α}{x:α}(h:l[k]?=some x):l.drop k=x::l.drop (k+1):=by
 obtain⟨h1,h2⟩:=List.getElem?_eq_some_iff.1 h
 rw[List.drop_eq_getElem_cons h1,h2]
theorem eo{l:List α}(h:¬k <l.length):l.drop k=[]:=List.drop_eq_nil_of_le (by omega)
theorem kA{p:α→Bool}{l:List α}{x:α}(h:l[k]?=some x):bS p (l.drop k) k=bif p x then (k:Int) else bS p (l.drop (k+1)) (k+1):=by rw[fg h];rfl
theorem ri{p:α→Bool}{l:List α}(h:¬k <l.length):bS p (l.drop k) k= -1:=by rw[eo h];rfl
abbrev aS(x:Int):List Value:=[zI x]
theorem ahu{v:Value}{n:Int}(hl:bJ ro v 1 aS xs)(hn:xs.length≤1000000):dG zT 48 [v,zI n] ro (zI (bS (fun y=>decide (y=n)) xs 0)):=by
 obtain⟨fU,sg,sb,eZ,rfl,uz,lA,lZ⟩:=hl
 refine zE<|zD 10<|dH [1,0,1,0,0] [] (fun(zz:Nat)=>[(0,.slice fU xs.length eZ),(1,zI n),(5,zI (zz:Int))]) (fun zz=>[]) (fun zz=>zz≤xs.length∧bS (fun y=>decide (y=n)) xs 0=bS (fun y=>decide (y=n)) (xs.drop zz) zz) (fun zz=>xs.length-zz) 0 ⟨by omega,rfl⟩ [] ?_
 rintro k hI K1 bP rest
 refine zD 8<|zJ 9 ((k:Int) <(xs.length:Int)) (fun h1=>?_) fun h1=>?_
 ·
  refine zD 8 ?_
  obtain⟨gk,eS⟩:=zG xs k
  refine fK eZ 1 lA eS<|jl 0 (lZ _ _ eS)<|zD 3<|zJ 17 (gk=n) (fun h2=>?_) fun h2=>?_
  ·
   refine zD 7<|zX (zI (k:Int)) ⟨by rw[hI.2,kA eS];simp[*],rfl⟩
  refine zD 4<|zW ((k:Int)+1)<|zD 2<|zY bP (k+1) ⟨by omega,by rw[hI.2,kA eS];simp[*]⟩ []
 refine zD 7<|zX (zI (-1)) ⟨by rw[hI.2,ri (by omega)],rfl⟩
def ek(n:Nat):List Int:=(List.range n).map fun(i:Nat)=>(i:Int)
theorem wT(n:Nat):ek (n+1)=ek n++[(n:Int)]:=by simp[ek,List.range_succ]
theorem mj(n:Nat):(ek n).length=n:=by simp[ek]
def bQ(v:Value)(xs:List Int)(d:Nat)(X:Cells):Prop:=∃(k:Nat) (cS:Int),k≤xs.length∧X=[(d,.cells ⟨[v,zI k,zU cS]⟩ 105 (0,0))]
def Dn(ro:Nat→Option Obj)(v:Value)(xs:List Int):Prop:=bJ ro v 1 aS xs∧xs.length≤4611686018427387904
theorem Dn.up{v:Value}(h:Dn ro v xs)(hs:Sub ro aF):Dn aF v xs:=⟨h.1.up hs,h.2⟩
theorem toNonzero{n:Int}(h0:¬n <1)(h1:n≤1000000):IntKind.u64.wrap (n+1)≠0:=by
 rw[tC .u64 rfl _ (by omega) (by simp[IntKind.bits];omega)];omega
theorem toRange{n w:Int}(h0:¬n <1)(h1:n≤1000000)(hw:0≤w):0≤IntKind.i64.wrap (Int.tmod (aV .u64 w 16) (IntKind.u64.wrap (n+1)))∧IntKind.i64.wrap (Int.tmod (aV .u64 w 16) (IntKind.u64.wrap (n+1)))≤n:=by
 have e:IntKind.u64.wrap (n+1)=n+1:=tC .u64 rfl _ (by omega) (by simp[IntKind.bits];omega)
 rw[e]
 have h2:0≤aV .u64 w 16:=Int.fdiv_nonneg hw (by decide)
 have h3:=Int.tmod_nonneg (n+1) h2
 have h4:=Int.tmod_lt_of_pos (aV .u64 w 16) (show 0 <n+1 by omega)
 rw[jY _ (by omega)]
 omega
theorem aZf{X:Cells}(hN:Dn ro vd xs)(hD:bQ vd xs d X):ee zT 74 [zP d] ro X (fun r Y=>∃w:Int,r= zU w∧0≤w∧w <18446744073709551616∧bQ vd xs d Y):=by
 obtain⟨k,cS,hk,rfl⟩:=hD
 obtain⟨hl,hn⟩:=hN
 obtain⟨fU,sg,sb,eZ,rfl,uz,lA,lZ⟩:=hl
 refine zC [.b d (.cells ⟨[.slice fU xs.length eZ,zI (k:Int),zU cS]⟩ 105 (0,0))]<|jd 19 [0,0]<|aP 13 fun C5 Dc Ba=>jd 1 [0]<|eW Ba []<|jd 16 [0,0]<|aP 13 fun zw Ab yZ=>jd 1 [0]<|eW yZ []<|jd 16 [0,0]<|aP 13 fun tA tH q5=>jd 1 [0]<|eW q5 []<|jd 15 [0,0]<|zJ 52 ((k:Int) <(xs.length:Int)) (fun h4=>?_) fun h4=>?_
 ·
  refine jd 16 [0,0,0] ?_
  obtain⟨x66,H6⟩:=zG xs k
  refine fK eZ 1 lA H6<|jl 0 (lZ _ _ H6)<|zD 5<|aP 20 fun sR sX qZ=>jd 1 [0]<|eW qZ []<|jd 6 [0]<|zW ((k:Int)+1)<|jd 30 [0,0]<|zR (zU (dj .u64 (IntKind.u64.wrap ((dj .u64 (IntKind.u64.wrap ((dj .u64 (dj .u64 (dj .u64 cS (dZ .u64 cS 13)) (aV .u64 (dj .u64 cS (dZ .u64 cS 13)) 7)) (dZ .u64 (dj .u64 (dj .u64 cS (dZ .u64 cS 13)) (aV .u64 (dj .u64 cS (dZ .u64 cS 13)) 7)) 17))+(IntKind.u64.wrap ((IntKind.u64.wrap x66)*13787848793156543929)))) (aV .u64 (IntKind.u64.wrap ((dj .u64 (dj .u64 (dj .u64 cS (dZ .u64 cS 13)) (aV .u64 (dj .u64 cS (dZ .u64 cS 13)) 7)) (dZ .u64 (dj .u64 (dj .u64 cS (dZ .u64 cS 13)) (aV .u64 (dj .u64 cS (dZ .u64 cS 13)) 7)) 17))+(IntKind.u64.wrap ((IntKind.u64.wrap x66)*13787848793156543929)))) 30))*10723151780598845931)) (aV .u64 (IntKind.u64.wrap ((dj .u64 (IntKind.u64.wrap ((dj .u64 (dj .u64 (dj .u64 cS (dZ .u64 cS 13)) (aV .u64 (dj .u64 cS (dZ .u64 cS 13)) 7)) (dZ .u64 (dj .u64 (dj .u64 cS (dZ .u64 cS 13)) (aV .u64 (dj .u64 cS (dZ .u64 cS 13)) 7)) 17))+(IntKind.u64.wrap ((IntKind.u64.wrap x66)*13787848793156543929)))) (aV .u64 (IntKind.u64.wrap ((dj .u64 (dj .u64 (dj .u64 cS (dZ .u64 cS 13)) (aV .u64 (dj .u64 cS (dZ .u64 cS 13)) 7)) (dZ .u64 (dj .u64 (dj .u64 cS (dZ .u64 cS 13)) (aV .u64 (dj .u64 cS (dZ .u64 cS 13)) 7)) 17))+(IntKind.u64.wrap ((IntKind.u64.wrap x66)*13787848793156543929)))) 30))*10723151780598845931)) 31))) [] [0] [(d,.cells ⟨[.slice fU xs.length eZ,zI ((k:Int)+1),zU (IntKind.u64.wrap ((dj .u64 (dj .u64 (dj .u64 cS (dZ .u64 cS 13)) (aV .u64 (dj .u64 cS (dZ .u64 cS 13)) 7)) (dZ .u64 (dj .u64 (dj .u64 cS (dZ .u64 cS 13)) (aV .u64 (dj .u64 cS (dZ .u64 cS 13)) 7)) 17))+(IntKind.u64.wrap ((IntKind.u64.wrap x66)*13787848793156543929))))]⟩ 105 (0,0))] ⟨_,rfl,(u5 _ _).1,(u5 _ _).2,k+1,_,(by omega),rfl⟩
 refine jd 28 [0]<|zR (zU (dj .u64 (IntKind.u64.wrap ((dj .u64 (dj .u64 (dj .u64 (dj .u64 cS (dZ .u64 cS 13)) (aV .u64 (dj .u64 cS (dZ .u64 cS 13)) 7)) (dZ .u64 (dj .u64 (dj .u64 cS (dZ .u64 cS 13)) (aV .u64 (dj .u64 cS (dZ .u64 cS 13)) 7)) 17)) (aV .u64 (dj .u64 (dj .u64 (dj .u64 cS (dZ .u64 cS 13)) (aV .u64 (dj .u64 cS (dZ .u64 cS 13)) 7)) (dZ .u64 (dj .u64 (dj .u64 cS (dZ .u64 cS 13)) (aV .u64 (dj .u64 cS (dZ .u64 cS 13)) 7)) 17)) 30))*10723151780598845931)) (aV .u64 (IntKind.u64.wrap ((dj .u64 (dj .u64 (dj .u64 (dj .u64 cS (dZ .u64 cS 13)) (aV .u64 (dj .u64 cS (dZ .u64 cS 13)) 7)) (dZ .u64 (dj .u64 (dj .u64 cS (dZ .u64 cS 13)) (aV .u64 (dj .u64 cS (dZ .u64 cS 13)) 7)) 17)) (aV .u64 (dj .u64 (dj .u64 (dj .u64 cS (dZ .u64 cS 13)) (aV .u64 (dj .u64 cS (dZ .u64 cS 13)) 7)) (dZ .u64 (dj .u64 (dj .u64 cS (dZ .u64 cS 13)) (aV .u64 (dj .u64 cS (dZ .u64 cS 13)) 7)) 17)) 30))*10723151780598845931)) 31))) [] [0] [(d,.cells ⟨[.slice fU xs.length eZ,zI (k:Int),zU (dj .u64 (dj .u64 (dj .u64 cS (dZ .u64 cS 13)) (aV .u64 (dj .u64 cS (dZ .u64 cS 13)) 7)) (dZ .u64 (dj .u64 (dj .u64 cS (dZ .u64 cS 13)) (aV .u64 (dj .u64 cS (dZ .u64 cS 13)) 7)) 17))]⟩ 105 (0,0))] ⟨_,rfl,(u5 _ _).1,(u5 _ _).2,k,_,(by omega),rfl⟩
theorem Gd{X:Cells}{n:Int}(hN:Dn ro vd xs)(hD:bQ vd xs d X)(hn:n≤1000000):ee zT 25 [zP d,zI n] ro X (fun r Y=>∃w:Int,r= zI w∧0≤w∧(w≤n∨w=0)∧bQ vd xs d Y):=by
 refine zC [.l X]<|zD 10<|zJ 6 (n <1) (fun h1=>?_) fun h1=>?_
 ·
  refine zD 6<|zR (zI 0) [] [0] X ⟨_,rfl,(by omega),(by omega),hD⟩
 refine zD 5<|jc [0] (aZf hN hD) ?_
 rintro _ X8 ⟨w8,rfl,hw8,hx8,hD8⟩
 refine zD 2<|zW (n+1)<|zD 1<|jrm (k:= .u64) (a:=(aV .u64 w8 16)) (b:=(IntKind.u64.wrap (n+1))) 103 (toNonzero h1 hn)<|zD 4<|zR (zI (IntKind.i64.wrap (Int.tmod (aV .u64 w8 16) (IntKind.u64.wrap (n+1))))) [] [0] X8 ⟨_,rfl,(toRange h1 hn hw8).1,.inl (toRange h1 hn hw8).2,hD8⟩
theorem Cn{X:Cells}(hN:Dn ro vd xs)(hD:bQ vd xs d X)(B2: -1000≤lo∧lo≤1000)(hhi: -1000≤hi∧hi≤1000):ee zT 36 [zP d,zI lo,zI hi] ro X (fun r Y=>∃w:Int,r= zI w∧lo≤w∧(w≤hi∨w=lo)∧bQ vd xs d Y):=by
 refine zC [.l X]<|zD 10<|zW (hi-lo)<|jc (vs:=[zP d,zI (hi-lo)]) [0] (Gd hN hD (by omega)) ?_
 rintro _ X12 ⟨w12,rfl,bjp,qS,aYv⟩
 refine zW (lo+w12)<|zD 3<|zR (zI (lo+w12)) [] [0] X12 ⟨_,rfl,(by omega),(by omega),aYv⟩
theorem uk{X:Cells}{n:Int}(hN:Dn ro vd xs)(hD:bQ vd xs d X)(hn:0≤n∧n≤1000):ee zT 31 [zP d,zI n] ro X (fun r Y=>∃w:Bool,r= .bool w∧bQ vd xs d Y):=by
 refine zC [.l X]<|zD 8<|zW (n-1)<|jc (vs:=[zP d,zI (n-1)]) [0] (Gd hN hD (by omega)) ?_
 rintro _ X8 ⟨w8,rfl,hw8,hx8,hD8⟩
 refine zD 4<|zR (.bool (decide (w8=0))) [] [0] X8 ⟨_,rfl,hD8⟩
def bs(l:List Nat):ByteArray:=⟨(l.map UInt8.ofNat).toArray⟩
abbrev rn(x:ByteArray):List Value:=[.string x]
structure dq where
 f:ByteArray
 t:ByteArray
abbrev lE(x:dq):List Value:=[.string x.f,.string x.t]
structure aI where
 name:ByteArray
 st:Int
 no:Int
 head:Int
 bold:Bool
abbrev fX(x:aI):List Value:=[.string x.name,.int .i64 x.st,.int .i64 x.no,.int .i64 x.head,.bool x.bold]
structure eY where
 a:Int
 b:Int
 same:Bool
variable {fs:List eY}
abbrev y6(x:eY):List Value:=[.int .i64 x.a,.int .i64 x.b,.bool x.same]
structure cm where
 name:ByteArray
 under:Int
abbrev rq(x:cm):List Value:=[.string x.name,.int .i64 x.under]
structure aO where
 k:Int
 st:Int
 ot:Int
 fn:Int
 fl:Int
 tn:Int
 tl:Int
abbrev lq(x:aO):List Value:=[.int .i64 x.k,.int .i64 x.st,.int .i64 x.ot,.int .i64 x.fn,.int .i64 x.fl,.int .i64 x.tn,.int .i64 x.tl]
theorem nY{ps:List α}{x y:α}(h1:ps[i]?=some x) (h2:ps[k]?=some y):((ps.set i y).set k x).Perm ps:=by
 obtain⟨a,rfl⟩:=List.getElem?_eq_some_iff.1 h1
 obtain⟨b,rfl⟩:=List.getElem?_eq_some_iff.1 h2
 exact List.set_set_perm a b
theorem akW{X:Cells}{ys:List Int}(hN:Dn ro vd xs)(hD:bQ vd xs d X)(hm:bJ ro vm 1 aS ys)(hy:0 <ys.length∧ys.length≤1000):ee zT 37 [zP d,vm] ro X (fun r Y=>∃w:Int,r= zI w∧w∈ys∧bQ vd xs d Y):=by
 obtain⟨qma,qmb,qmo,qmc,rfl,qmk,qmh,qml⟩:=hm
 refine zC [.l X]<|zD 10<|zW ((ys.length:Int)-1)<|jc (vs:=[zP d,zI ((ys.length:Int)-1)]) [0] (Gd hN hD (by omega)) ?_
 rintro _ X10 ⟨w10,rfl,ah3,pS,Xd⟩
 obtain⟨x11,Wo⟩:=zG ys (w10.toNat)
 refine CU w10 qmc 1 qmh Wo (by omega)<|jl 0 (qml _ _ Wo)<|zD 3<|zR (zI x11) [] [0] X10 ⟨_,rfl,zL Wo,Xd⟩
theorem aaB{X:Cells}{ys:List ByteArray}(hN:Dn ro vd xs)(hD:bQ vd xs d X)(hm:bJ ro vm 1 rn ys)(hy:0 <ys.length∧ys.length≤1000):ee zT 86 [zP d,vm] ro X (fun r Y=>∃w:ByteArray,r= .string w∧w∈ys∧bQ vd xs d Y):=by
 obtain⟨qma,qmb,qmo,qmc,rfl,qmk,qmh,qml⟩:=hm
 refine zC [.l X]<|zD 10<|zW ((ys.length:Int)-1)<|jc (vs:=[zP d,zI ((ys.length:Int)-1)]) [0] (Gd hN hD (by omega)) ?_
 rintro _ X10 ⟨w10,rfl,ah3,pS,Xd⟩
 obtain⟨x11,Wo⟩:=zG ys (w10.toNat)
 refine CU w10 qmc 1 qmh Wo (by omega)<|jl 0 (qml _ _ Wo)<|zD 3<|zR (.string x11) [] [0] X10 ⟨_,rfl,zL Wo,Xd⟩
theorem akV{X:Cells}(hN:Dn ro vd xs)(hD:bQ vd xs d X)(hn:n≤100):ee zT 82 [zP d,zI (n:Int)] ro X (fun r Y=>∃(ps:List Int) (L X':Cells),aA r 1 3 aS ps L∧ps.Perm (ek n)∧Y=L++X'∧bQ vd xs d X'):=by
 refine zC [.l X]<|zD 14<|my<|dH [1,1,0,1,0,0] [] (fun(zz:Nat×Value×Cells)=>[(0,zP d),(1,zI (n:Int)),(4,zS),(5,zz.2.1),(6,zI (zz.1:Int))]) (fun zz=>[.l zz.2.2,.l X]) (fun zz=>zz.1≤n∧aA zz.2.1 1 3 aS (ek zz.1) zz.2.2) (fun zz=>n-zz.1) (⟨0,zS,[]⟩) ⟨by omega,aA.nil _ _ _⟩ [0,1] ?_
 rintro⟨k,v,L⟩ hI K1 bP rest
 dsimp only at hI
 refine zD 7<|zJ 12 ((k:Int) <(n:Int)) (fun h1=>?_) fun h1=>?_
 ·
  refine zD 7<|jn fun b17=>cH aS b17 (k:Int) 1 0 hI.2 rfl rfl (by simp[ek];omega) (fun at7 amY L18 axt=>?_)
  refine zD 4<|zW ((k:Int)+1)<|zD 2<|zY bP (⟨k+1,(.slice at7 ((ek k++[(k:Int)])).length amY),L18⟩) ⟨by omega,by rw[wT];exact axt⟩ [0,2]
 refine zD 6<|zW ((n:Int)-1)<|zD 3<|dH [1,1,1,0,1,0,0] [] (fun(zz:Int×Value×Cells×(List Int)×Cells)=>[(0,zP d),(4,zS),(5,zz.2.1),(7,zI zz.1)]) (fun zz=>[.l zz.2.2.1,.l zz.2.2.2.2]) (fun zz=>(-1≤zz.1∧zz.1 <n)∧aA zz.2.1 1 3 aS zz.2.2.2.1 zz.2.2.1∧zz.2.2.2.1.Perm (ek n)∧bQ vd xs d zz.2.2.2.2) (fun zz=>zz.1.toNat) (⟨(n:Int)-1,v,L,ek k,X⟩) ⟨by omega,hI.2,(by rw[show k=n by omega]),hD⟩ [0,1] ?_
 rintro⟨j,v,L,ps,X⟩ Pc K2 lL rest
 dsimp only at Pc
 have hlen:ps.length=n:=by rw[Pc.2.2.1.length_eq,mj]
 refine zD 6<|zJ 22 (j>0) (fun h2=>?_) fun h2=>?_
 ·
  refine zD 8<|jc (vs:=[zP d,zI j]) [1] (Gd hN Pc.2.2.2 (by omega)) ?_
  rintro _ X27 ⟨w27,rfl,bjl,Ky,aYq⟩
  refine zD 6 ?_
  obtain⟨pw,kS⟩:=zG ps (j.toNat)
  refine qg j 1 Pc.2.1 kS (by omega) fun b30 WT=>n7 0 [1] L (fun s _ hZ=>cB Pc.2.1 WT hZ kS)<|zD 8 ?_
  obtain⟨x36,AE⟩:=zG ps (w27.toNat)
  refine qg w27 1 Pc.2.1 AE (by omega) fun tv ayG=>n7 0 [1] L (fun s _ hZ=>cB Pc.2.1 ayG hZ AE) ?_
  obtain⟨x38,OL⟩:=zG ps (j.toNat)
  refine qg j 1 Pc.2.1 OL (by omega) fun b38 aWW=>Qc 1 0 [zI x36] x36 Pc.2.1 aWW OL rfl rfl (Nat.le_of_ble_eq_true rfl) fun L3 ho4=>zD 5 ?_
  obtain⟨x42,Wm⟩:=zG ((ps.set j.toNat x36)) (w27.toNat) (by first|omega| (simp only[List.length_set,zM];omega))
  refine qg w27 1 ho4 Wm (by omega) fun b42 aWU=>Qc 0 0 [zI pw] pw ho4 aWU Wm rfl rfl (Nat.le_of_ble_eq_true rfl) fun L5 ho6=>zD 3<|zW (j-1)<|zD 2<|zY lL (⟨j-1,v,L5,((ps.set j.toNat x36).set w27.toNat pw),X27⟩) ⟨by omega,ho6,(nY kS AE).trans Pc.2.2.1,aYq⟩ [0,1]
 refine zD 8<|zR (v) [] [0,1] (L++X) ⟨_,_,_,Pc.2.1,Pc.2.2.1,rfl,Pc.2.2.2⟩
theorem Tz(p:Int→Bool)(k:Nat):(ek (k+1)).filter p=bif p (k:Int) then (ek k).filter p++[(k:Int)] else (ek k).filter p:=by
 rw[wT,List.filter_append]
 cases h:p (k:Int)<;>simp[h]
theorem qJ{x:Int}(h:x∈ek n):0≤x∧x <n:=by
 simp only[ek,List.mem_map,List.mem_range] at h
 obtain⟨i,h1,rfl⟩:=h
 omega
theorem sZ(n:Nat):(ek n).Pairwise (· < ·):=by
 simp only[ek]
 rw[List.pairwise_map]
 exact List.pairwise_lt_range.imp fun h=>by omega
theorem AU(x:Int)(l:List Int)(k:Nat):x∈l→(k:Int)≤bS (fun y=>decide (y=x)) l k∧∃i,bS (fun y=>decide (y=x)) l k=k+i∧l[i.toNat]?=some x∧0≤i:=by
 induction l generalizing k with
 |nil=>intro h;cases h
 |cons y l ih=>
  intro h
  by_cases e:y=x
  ·subst e
   simp only[bS,decide_true,cond_true]
   exact⟨Int.le_refl _,0,by simp,by simp,by simp⟩
  simp only[bS,e,decide_false,cond_false]
  obtain⟨h1,i,h2,h3,h4⟩:=ih (k+1) ((List.mem_cons.1 h).resolve_left fun e2=>e e2.symm)
  refine⟨by omega,i+1,by rw[h2];omega,?_,by omega⟩
  rw[show (i+1).toNat=i.toNat+1 by omega]
  simpa using h3
theorem af0{q:List Int}(hq:q.Perm (ek n)):((ek n).filter fun i=>decide (bS (fun y=>decide (y=i)) q 0 <many)).length≤many.toNat:=by
 have jM:∀x,x∈ek n→x∈q:=fun x hx=>hq.mem_iff.2 hx
 have h1:(((ek n).filter fun i=>decide (bS (fun y=>decide (y=i)) q 0 <many)).map fun i=>bS (fun y=>decide (y=i)) q 0).Nodup:=by
  rw[List.nodup_iff_pairwise_ne,List.pairwise_map]
  refine((sZ n).filter _).imp_of_mem fun {a b} ha hb Eh e=>?_
  obtain⟨_,i,e1,g1,_⟩:=AU a q 0 (jM a ((List.mem_filter.1 ha).1))
  obtain⟨_,j,e2,g2,_⟩:=AU b q 0 (jM b ((List.mem_filter.1 hb).1))
  have:i=j:=by omega
  subst this
  rw[g1] at g2
  cases g2
  omega
 have h2:=yj (l₂:=ek many.toNat) h1 fun x hx=>by
  obtain⟨i,h3,rfl⟩:=List.mem_map.1 hx
  obtain⟨h4,h5⟩:=List.mem_filter.1 h3
  have h6:=of_decide_eq_true h5
  obtain⟨h7,_⟩:=AU i q 0 (jM i h4)
  simp only[ek,List.mem_map,List.mem_range]
  exact⟨(bS (fun y=>decide (y=i)) q 0).toNat,by omega,by omega⟩
 simpa [mj] using h2
theorem KR(p:α→Bool)(l:List α):(l.filter p).length≤l.length:=List.length_filter_le p l
theorem aKN{X:Cells}(hN:Dn ro vd xs)(hD:bQ vd xs d X)(hn:n≤100):ee zT 84 [zP d,zI (n:Int),zI many] ro X (fun r Y=>∃(ps:List Int) (L X':Cells),aA r 1 3 aS ps L∧ps.length≤many.toNat∧ps.Pairwise (· < ·)∧(∀x∈ps,0≤x∧x <n)∧Y=L++X'∧bQ vd xs d X'):=by
 refine zC [.l X]<|zD 8<|jc (vs:=[zP d,zI (n:Int)]) [0] (akV hN hD (by first|omega|decide)) ?_
 rintro v13 _ ⟨afT,L13,X13,WH,acr,rfl,apP⟩
 refine jg 0 [.l L13,.l X13]<|zD 12<|my<|dH [1,1,1,0,1,0,0] [] (fun(zz:Nat×Value×Cells)=>[(1,zI (n:Int)),(2,zI many),(6,zS),(7,v13),(8,zz.2.1),(9,zI (zz.1:Int))]) (fun zz=>[.l zz.2.2,.l L13,.l X13]) (fun zz=>zz.1≤n∧aA zz.2.1 1 3 aS ((ek zz.1).filter (fun i=>decide (bS (fun y=>decide (y=i)) afT 0 <many))) zz.2.2) (fun zz=>n-zz.1) (⟨0,zS,[]⟩) ⟨by omega,aA.nil _ _ _⟩ [0,1,2] ?_
 rintro⟨k,v,L⟩ hI K1 bP rest
 dsimp only at hI
 have hlen:afT.length=n:=by rw[acr.length_eq,mj]
 have xu:=KR (fun i=>decide (bS (fun y=>decide (y=i)) afT 0 <many)) (ek k)
 rw[mj] at xu
 refine zD 7<|zJ 16 ((k:Int) <(n:Int)) (fun h1=>?_) fun h1=>?_
 ·
  refine zD 8<|jp (vs:=[v13,zI (k:Int)]) [1] L13 (fun aJ hs hZ=>ahu (WH.jR hZ) (by first|omega| (simp only[List.length_set,zM];omega))) ?_
  refine zD 8<|zJ 24 ((bS (fun y=>decide (y=(k:Int))) afT 0) <many) (fun h2=>?_) fun h2=>?_
  ·
   refine zD 4<|jn fun b27=>cH aS b27 (k:Int) 1 0 hI.2 rfl rfl (by omega) fun aPI aPl L28 axp=>zD 4<|zW ((k:Int)+1)<|zD 2<|zY bP (⟨k+1,(.slice aPI ((((ek k).filter (fun i=>decide (bS (fun y=>decide (y=i)) afT 0 <many)))++[(k:Int)])).length aPl),L28⟩) ⟨by omega,by rw[Tz,decide_eq_true h2];exact axp⟩ [0,2,3]
  refine zD 4<|zW ((k:Int)+1)<|zD 2<|zY bP (⟨k+1,v,L⟩) ⟨by omega,by rw[Tz,decide_eq_false h2];exact hI.2⟩ [0,1,2]
 refine zD 8<|zR (v) [] [0,2] (L++X13) ⟨_,_,_,hI.2,by rw[show k=n by omega];exact af0 acr,(sZ k).filter _,fun x hx=>by have:=qJ ((List.mem_filter.1 hx).1);omega,rfl,apP⟩
def asT:List ByteArray:=[bs [101],bs [121],bs [115,104],bs [97],bs [110,110],bs [116,104],bs [109]]
def toW:List ByteArray:=[bs [],bs [105],bs [115],bs [116],bs [97,101],bs [106],bs [110]]
def JB(r:dq):Prop:=r.f∈asT∧r.t∈toW
def gv(c:aO):Prop:=c∈[(⟨1,0,0,0,0,0,0⟩:aO),⟨2,0,0,0,0,0,0⟩,⟨1,1,0,0,0,0,0⟩,⟨2,1,0,0,0,0,0⟩,⟨4,1,0,0,0,0,0⟩]
theorem rF{p:α→Prop}{l:List α}{x:α}(h:∀y∈l,p y)(hx:p x):∀y∈l++[x],p y:=fun y hy=>by
 rcases List.mem_append.1 hy with h1|h1
 ·exact h y h1
 rw[List.mem_singleton] at h1;subst h1;exact hx
theorem azK{X:Cells}(hN:Dn ro vd xs)(hD:bQ vd xs d X)(hn:0≤many∧many≤100):ee zT 33 [zP d,zI many] ro X (fun r Y=>∃(ps:List dq) (L X':Cells),aA r 2 92 lE ps L∧ps.length≤many∧(∀r∈ps,JB r)∧Y=L++X'∧bQ vd xs d X'):=by
 refine zC [.l X]<|zD 13<|jc (vs:=[zP d,zI many]) [0] (Gd hN hD (by omega)) ?_
 rintro _ X10 ⟨w10,rfl,ah3,pS,Xd⟩
 refine zD 3<|my<|dH [1,1,0,1,0,0] [] (fun(zz:Int×Value×Cells×(List dq)×Cells)=>[(0,zP d),(4,zS),(5,zz.2.1),(6,zI zz.1)]) (fun zz=>[.l zz.2.2.1,.l zz.2.2.2.2]) (fun zz=>(0≤zz.1∧zz.2.2.2.1.length+zz.1≤many)∧aA zz.2.1 2 92 lE zz.2.2.2.1 zz.2.2.1∧(∀r∈zz.2.2.2.1,JB r)∧bQ vd xs d zz.2.2.2.2) (fun zz=>zz.1.toNat) (⟨w10,zS,[],[],X10⟩) ⟨by simp only[List.length_nil];omega,aA.nil _ _ _,(fun _ h=>by cases h),Xd⟩ [0,1] ?_
 rintro⟨j,v,L,ps,X⟩ hI K1 bP rest
 dsimp only at hI
 refine zD 6<|zJ 12 (j>0) (fun h1=>?_) fun h1=>?_
 ·
  refine zD 7<|jn fun b16=>jcL (vs:=[zP d,.slice (some ⟨b16,0,none⟩) 7 7]) [2] [0] [(b16,.cells ⟨([(bs [101]),(bs [121]),(bs [115,104]),(bs [97]),(bs [110,110]),(bs [116,104]),(bs [109])].map rn).flatten⟩ 9 (0,0))] (fun aJ hs hZ=>aaB (hN.up hs) hI.2.2.2 (bX [(bs [101]),(bs [121]),(bs [115,104]),(bs [97]),(bs [110,110]),(bs [116,104]),(bs [109])] hZ.head (by intro p hp;rfl)) (by decide)) ?_
  rintro _ X17 ⟨w17,rfl,aUb,aYu⟩
  refine zD 1<|jn fun J8=>jcL (vs:=[zP d,.slice (some ⟨J8,0,none⟩) 7 7]) [1] [0] [(J8,.cells ⟨([(bs []),(bs [105]),(bs [115]),(bs [116]),(bs [97,101]),(bs [106]),(bs [110])].map rn).flatten⟩ 9 (0,0))] (fun aJ hs hZ=>aaB (hN.up hs) aYu (bX [(bs []),(bs [105]),(bs [115]),(bs [116]),(bs [97,101]),(bs [106]),(bs [110])] hZ.head (by intro p hp;rfl)) (by decide)) ?_
  rintro _ X20 ⟨w20,rfl,awO,ajF⟩
  refine zD 1<|jn fun b7=>jd 5 [0,0]<|jn fun Nt=>cH lE Nt (⟨w17,w20⟩:dq) 5 0 hI.2.1 rfl rfl (by omega) fun aPL aPo L25 axr=>zD 4<|zW (j-1)<|zD 2<|zY bP (⟨j-1,(.slice aPL ((ps++[(⟨w17,w20⟩:dq)])).length aPo),L25,(ps++[(⟨w17,w20⟩:dq)]),X20⟩) ⟨by simp only[zM];omega,axr,rF hI.2.2.1 ⟨aUb,awO⟩,ajF⟩ [0,3]
 refine zD 8<|zR (v) [] [0,1] (L++X) ⟨_,_,_,hI.2.1,(by omega),hI.2.2.1,rfl,hI.2.2.2⟩
theorem aKM{X:Cells}(hN:Dn ro vd xs)(hD:bQ vd xs d X):ee zT 32 [zP d] ro X (fun r Y=>∃w:aO,r= .agg ⟨lq w⟩∧gv w∧bQ vd xs d Y):=by
 refine zC [.l X]<|zD 2<|jn fun b2=>zD 8<|jn fun b9=>zD 9<|jc (vs:=[zP d,zI 4]) [2] (Gd hN hD (by omega)) ?_
 rintro _ X15 ⟨w15,rfl,aUc,ahS,azf⟩
 obtain⟨C6,pR⟩:=zG ([(⟨1,0,0,0,0,0,0⟩:aO),(⟨2,0,0,0,0,0,0⟩:aO),(⟨1,1,0,0,0,0,0⟩:aO),(⟨2,1,0,0,0,0,0⟩:aO),(⟨4,1,0,0,0,0,0⟩:aO)]:List _) (w15.toNat) (show w15.toNat <5 from by omega)
 refine CU (a:=(some ⟨b9,0,none⟩)) (b:=b9) (off:=0) w15 5 7 (fun _ _=>rfl) pR (by omega)<|n7 (m:=7) 0 [1] [(b9,.cells ⟨([(⟨1,0,0,0,0,0,0⟩:aO),(⟨2,0,0,0,0,0,0⟩:aO),(⟨1,1,0,0,0,0,0⟩:aO),(⟨2,1,0,0,0,0,0⟩:aO),(⟨4,1,0,0,0,0,0⟩:aO)].map lq).flatten⟩ 85 (0,0))] (fun s _ hZ=>ye (hZ _ (.head _)) (by intro p hp;rfl) pR) ?_
 refine jd 3 [2]<|zR (.agg ⟨[zI C6.k,zI C6.st,zI C6.ot,zI C6.fn,zI C6.fl,zI C6.tn,zI C6.tl]⟩) [2] [0] X15 ⟨C6,rfl,zL pR,azf⟩
def HY(b:UInt8):Bool:=Nat.ble 97 b.toNat&&Nat.ble b.toNat 122
def HF(b:UInt8):Bool:=Nat.ble 65 b.toNat&&(Nat.ble b.toNat 90&& !(Nat.beq b.toNat 72||Nat.beq b.toNat 81||Nat.beq b.toNat 87))
def Script(w:ByteArray):Prop:=(∀b∈w.data.toList,HY b=true)∨(∀b∈w.data.toList,HF b=true)
def aa5(w:ByteArray):Prop:=(0 <w.size∧w.size≤7)∧Script w
def PY(w:ByteArray):Prop:=(1≤w.size∧w.size≤3)∧Script w
theorem afc{w:ByteArray}(h:(w.data.toList.all HY||w.data.toList.all HF)=true)(h1:(Nat.blt 0 w.size&&Nat.ble w.size 7)=true):aa5 w:=by
 simp only[Bool.or_eq_true,List.all_eq_true] at h
 simp only[Bool.and_eq_true,Nat.blt_eq,Nat.ble_eq] at h1
 exact⟨h1,h⟩
theorem aDa{w:ByteArray}(h:w∈[bs [97,101,115],bs [115,104,101,116,97],bs [115,109,105,116,121,104,97],bs [99,104,106,97],bs [97,110,110,101]]):aa5 w:=by
 simp only[List.mem_cons,List.not_mem_nil,or_false] at h
 rcases h with rfl|rfl|rfl|rfl|rfl<;>exact afc (by decide) (by decide)
theorem aC9{w:ByteArray}(h:w∈[bs [65,69,83],bs [88,69,84,65],bs [83,77,73,84,89,65],bs [67,74,65,88],bs [65,78,78,69]]):aa5 w:=by
 simp only[List.mem_cons,List.not_mem_nil,or_false] at h
 rcases h with rfl|rfl|rfl|rfl|rfl<;>exact afc (by decide) (by decide)
def nU:List ByteArray:=[bs [102,111,111,100],bs [98,114,101,97,100],bs [99,108,111,116,104],bs [104,97,116,115],bs [119,111,111,100],bs [105,114,111,110],bs [98,101,101,114],bs [105,110],bs [115,101,101]]
def qj:List ByteArray:=[bs [98,97,107,101,114],bs [98,97,107,101,114,115],bs [98,111,110,110,101,116,115],bs [98,114,101,119,101,114],bs [98,114,117,115,104,101,115],bs [98,117,116,99,104,101,114],bs [99,97,110,100,108,101,115],bs [99,111,111,112,101,114],bs [99,111,111,112,101,114,115],bs [99,117,116,108,101,114],bs [104,97,116,116,101,114],bs [104,111,115,105,101,114],bs [109,101,114,99,101,114],bs [109,105,108,108,105,110,101,114],bs [116,97,105,108,111,114],bs [116,97,110,110,101,114]]
theorem wZ{b:Nat}{enc:α→List Value}(ps:List α)(hn:ps.length=n)(hl:∀p∈ps,(enc p).length=sz):aA (.slice (some ⟨b,0,none⟩) n n) sz T enc ps [(b,.cells ⟨(ps.map enc).flatten⟩ T (0,0))]:=by
 subst hn
 exact .inr ⟨b,_,ps.length,rfl,rfl,kT ps hl,Nat.le_refl _,hl,by rw[←kT ps hl,List.take_length]⟩
theorem U9{s t w:ByteArray}(h:∀b∈s.data.toList,b∈w.data.toList)(k:∀b∈t.data.toList,b∈w.data.toList):∀b∈(s++t).data.toList,b∈w.data.toList:=fun b hb=>by
 rw[ByteArray.data_append,Array.toList_append,List.mem_append] at hb
 exact hb.elim (h b) (k b)
theorem Q1{w:ByteArray}(i j:Nat):∀b∈(w.extract i j).data.toList,b∈w.data.toList:=fun b hb=>by
 rw[ByteArray.data_extract,Array.toList_extract] at hb
 exact List.mem_of_mem_drop (List.mem_of_mem_take (by simpa [List.extract] using hb))
theorem Vo{s w:ByteArray}(h:∀b∈s.data.toList,b∈w.data.toList)(hw:Script w):Script s:=hw.imp (fun k b hb=>k b (h b hb)) (fun k b hb=>k b (h b hb))
theorem aaC{X:Cells}(hN:Dn ro vd xs)(hD:bQ vd xs d X):ee zT 35 [zP d,zI 3] ro X (fun r Y=>∃w:ByteArray,r= .string w∧PY w∧bQ vd xs d Y):=by
 refine zC [.l X]<|zD 7<|jn fun pX=>jcL (vs:=[zP d,.slice (some ⟨pX,0,none⟩) 5 5]) [1] [0] [(pX,.cells ⟨([(bs [97,101,115]),(bs [115,104,101,116,97]),(bs [115,109,105,116,121,104,97]),(bs [99,104,106,97]),(bs [97,110,110,101])].map rn).flatten⟩ 9 (0,0))] (fun aJ hs hZ=>aaB (hN.up hs) hD (bX [(bs [97,101,115]),(bs [115,104,101,116,97]),(bs [115,109,105,116,121,104,97]),(bs [99,104,106,97]),(bs [97,110,110,101])] hZ.head (by intro p hp;rfl)) (by decide)) ?_
 rintro _ X11 ⟨w11,rfl,aUe,aYw⟩
 refine zD 6<|jc (vs:=[zP d,zI 3]) [0] (uk hN aYw (by omega)) ?_
 rintro _ X13 ⟨w13,rfl,apP⟩
 refine zD 1<|GD [1,1,1] [] (fun(zz:ByteArray×Cells)=>[(0,zP d),(1,zI 3),(4,.string (bs [])),(5,.string zz.1)]) (fun zz=>[.l zz.2]) (fun zz=>aa5 zz.1∧bQ vd xs d zz.2) ?_ (fun K1 bP=>?_)
 ·
  rintro⟨w,X⟩ hJ rest
  dsimp only at hJ
  obtain⟨⟨ZV,hw7⟩,td⟩:=hJ.1
  refine zD 9<|jmn (k:= .i64) (a:=3) (b:=6)<|jc (vs:=[zP d,zI 1,zI (min 3 6)]) [0] (Cn hN hJ.2 (by omega) (by omega)) ?_
  rintro _ X20 ⟨w20,rfl,awO,OO,ajF⟩
  refine zD 3<|dH [1,1,1,1,0,1,0,0] [] (fun(zz:Int×ByteArray×Cells)=>[(0,zP d),(4,.string (bs [])),(5,.string w),(6,.string zz.2.1),(7,zI zz.1)]) (fun zz=>[.l zz.2.2]) (fun zz=>(0≤zz.1∧zz.2.1.size+zz.1=w20)∧(∀b∈zz.2.1.data.toList,b∈w.data.toList)∧bQ vd xs d zz.2.2) (fun zz=>zz.1.toNat) (⟨w20,bs [],X20⟩) ⟨⟨by omega,by simp[bs,ByteArray.size]⟩,(fun _ h=>by simp[bs] at h),ajF⟩ [0] ?_
  rintro⟨j,t,Z⟩ hI K2 lL rest
  dsimp only at hI
  refine zD 6<|zJ 22 (j>0) (fun h1=>?_) fun h1=>?_
  ·
   refine zD 9<|zW ((w.size:Int)-1)<|jc (vs:=[zP d,zI ((w.size:Int)-1)]) [0] (Gd hN hI.2.2 (by omega)) ?_
   rintro _ X29 ⟨w29,rfl,bjk,BV,aYp⟩
   refine zD 7<|zW (w29+1)<|jtB (b:=w) (lo:=w29) (hi:=(w29+1)) (by omega)<|jsa (a:=t) (b:=(w.extract w29.toNat (w29+1).toNat)) 9 (by rw[ByteArray.size_extract];omega) ?_
   refine zD 4<|zW (j-1)<|zD 2<|zY lL (⟨j-1,(t++(w.extract w29.toNat (w29+1).toNat)),X29⟩) ⟨⟨by omega,by rw[ByteArray.size_append,ByteArray.size_extract];omega⟩,U9 hI.2.1 (Q1 _ _),aYp⟩ [0]
  refine zD 8<|zR (.string t) [] [0] Z ⟨_,rfl,⟨by omega,Vo hI.2.1 td⟩,hI.2.2⟩
 refine js 13 w13 (fun h2=>?_) (fun h2=>?_)
 ·
  subst h2
  refine zD 3<|jn fun GR=>jcL (vs:=[zP d,.slice (some ⟨GR,0,none⟩) 5 5]) [1] [0] [(GR,.cells ⟨([(bs [65,69,83]),(bs [88,69,84,65]),(bs [83,77,73,84,89,65]),(bs [67,74,65,88]),(bs [65,78,78,69])].map rn).flatten⟩ 9 (0,0))] (fun aJ hs hZ=>aaB (hN.up hs) apP (bX [(bs [65,69,83]),(bs [88,69,84,65]),(bs [83,77,73,84,89,65]),(bs [67,74,65,88]),(bs [65,78,78,69])] hZ.head (by intro p hp;rfl)) (by decide)) ?_
  rintro _ X16 ⟨w16,rfl,aGd,ajG⟩
  refine zD 2<|bF bP ⟨w16,X16⟩ ⟨aC9 aGd,ajG⟩ Nat.zero_lt_one [0] (Sub.refl _)
 subst h2
 refine zD 2<|bF bP ⟨w11,X13⟩ ⟨aDa aUe,apP⟩ Nat.zero_lt_one [0] (Sub.refl _)
theorem ahj:ee zT 83 [] ro [] (fun r Y=>∃L,aA r 1 9 rn nU L∧Y=L):=by
 refine zE<|zD 6<|jn fun b1=>zD 3<|zR (.slice (some ⟨b1,0,none⟩) 9 9) [] [0] [(b1,.cells ⟨[.string (bs [102,111,111,100]),.string (bs [98,114,101,97,100]),.string (bs [99,108,111,116,104]),.string (bs [104,97,116,115]),.string (bs [119,111,111,100]),.string (bs [105,114,111,110]),.string (bs [98,101,101,114]),.string (bs [105,110]),.string (bs [115,101,101])]⟩ 9 (0,0))] ⟨_,wZ nU rfl (by intro p hp;rfl),rfl⟩
theorem ahz:ee zT 85 [] ro [] (fun r Y=>∃L,aA r 1 9 rn qj L∧Y=L):=by
 refine zE<|zD 6<|jn fun b1=>zD 3<|zR (.slice (some ⟨b1,0,none⟩) 16 16) [] [0] [(b1,.cells ⟨[.string (bs [98,97,107,101,114]),.string (bs [98,97,107,101,114,115]),.string (bs [98,111,110,110,101,116,115]),.string (bs [98,114,101,119,101,114]),.string (bs [98,114,117,115,104,101,115]),.string (bs [98,117,116,99,104,101,114]),.string (bs [99,97,110,100,108,101,115]),.string (bs [99,111,111,112,101,114]),.string (bs [99,111,111,112,101,114,115]),.string (bs [99,117,116,108,101,114]),.string (bs [104,97,116,116,101,114]),.string (bs [104,111,115,105,101,114]),.string (bs [109,101,114,99,101,114]),.string (bs [109,105,108,108,105,110,101,114]),.string (bs [116,97,105,108,111,114]),.string (bs [116,97,110,110,101,114])]⟩ 9 (0,0))] ⟨_,wZ qj rfl (by intro p hp;rfl),rfl⟩
structure bW where
 word:ByteArray
 cls:Int
 pG:Int
 eX:Value
abbrev qi(x:bW):List Value:=[.string x.word,zI x.cls,zI x.pG,x.eX]
def Ya(hs:List bW)(i:Int):Prop:=0≤i∧∃h,hs[i.toNat]?=some h∧0≤h.cls
theorem XV{p:α→Bool}{l:List α}{x:α}(h:l[k]?=some x):(l.drop k).any p=(p x||(l.drop (k+1)).any p):=by rw[fg h];rfl
theorem aqA{p:α→Bool}{l:List α}(h:¬k <l.length):(l.drop k).any p=false:=by rw[eo h];rfl
def EV(fs:List eY)(a b:Int):Bool:=fs.any fun y=>decide (y.a=a)&&decide (y.b=b)
theorem yB{X:Cells}{hs:List bW}(hN:Dn ro vd xs)(hD:bQ vd xs d X)(hh:bJ ro vh 4 qi hs)(hn:hs.length≤100):ee zT 34 [zP d,.agg ⟨[zI 2,zI 0,zI 0,vc,vh,zS,zS]⟩,.string nm] ro X (fun r Y=>∃w:aI,r= .agg ⟨fX w⟩∧w.name=nm∧(0≤w.st∧w.st≤1)∧(w.head= -1∨Ya hs w.head)∧bQ vd xs d Y):=by
 obtain⟨di,uQ,uP,cP,rfl,wF,pM,pK⟩:=hh
 refine zC [.l X]<|zD 2<|jn fun b4=>jn fun b6=>jd 8 [1]<|jc (vs:=[zP d,zI 1]) [2] (Gd hN hD (by omega)) ?_
 rintro _ X15 ⟨w15,rfl,aUc,ahS,azf⟩
 refine zD 2<|jc (vs:=[zP d,zI 1,zI 3]) [0] (Cn hN azf (by omega) (by omega)) ?_
 rintro _ X18 ⟨w18,rfl,bjo,bi9,S6⟩
 refine zD 1<|jc (vs:=[zP d,zI 1,zI 3]) [0] (Cn hN S6 (by omega) (by omega)) ?_
 rintro _ X20 ⟨w20,rfl,awO,OO,ajF⟩
 refine zD 1<|jc (vs:=[zP d,zI 1,zI 40]) [0] (Cn hN ajF (by omega) (by omega)) ?_
 rintro _ X22 ⟨w22,rfl,bjn,ig,aYs⟩
 refine jn fun b23=>jcL (vs:=[zP d,.slice (some ⟨b23,0,none⟩) 3 3]) [1] [0] [(b23,.cells ⟨([w18,w20,w22].map aS).flatten⟩ 3 (0,0))] (fun aJ hs hZ=>akW (hN.up hs) aYs (bX [w18,w20,w22] hZ.head (by intro p hp;rfl)) (by simp)) ?_
 rintro _ X24 ⟨w24,rfl,bjm,aYr⟩
 refine zD 1<|jc (vs:=[zP d,zI 4]) [0] (uk hN aYr (by omega)) ?_
 rintro _ X26 ⟨w26,rfl,aJK⟩
 refine zD 1<|jn fun b7=>jd 12 [0]<|my<|dH [1,1,1,0,1,0,0] [] (fun(zz:Nat×Value×Cells×(List Int))=>[(0,zP d),(4,zP b4),(6,zP b6),(7,zP b7),(8,zz.2.1),(9,zI (zz.1:Int))]) (fun zz=>[.l zz.2.2.1,.l X26,.b b7 (.cells ⟨[.string nm,zI w15,zI w24,zI (-1),.bool w26]⟩ 76 (0,0)),.b b6 (.cells ⟨[.string ByteArray.empty,zI 0,zI 0,zI 0,.bool false]⟩ 76 (0,0)),.b b4 (.cells ⟨[zI 2,zI 0,zI 0,vc,.slice di hs.length cP,zS,zS]⟩ 94 (0,0))]) (fun zz=>(zz.1≤hs.length∧zz.2.2.2.length≤zz.1)∧aA zz.2.1 1 3 aS zz.2.2.2 zz.2.2.1∧∀i∈zz.2.2.2,Ya hs i) (fun zz=>hs.length-zz.1) (⟨0,zS,[],[]⟩) ⟨⟨by omega,by simp⟩,aA.nil _ _ _,(fun _ h=>by cases h)⟩ [0,2,1,4,5] ?_
 rintro⟨k,v,L,ps⟩ hI K1 bP rest
 dsimp only at hI
 refine jd 10 [4]<|zJ 33 ((k:Int) <(hs.length:Int)) (fun h1=>?_) fun h1=>?_
 ·
  refine jd 10 [4] ?_
  obtain⟨x40,awF⟩:=zG hs k
  refine fK cP 4 pM awF<|zD 1<|jl 1 (pK _ _ awF)<|zD 2<|zJ 43 (x40.cls≥0) (fun h2=>?_) fun h2=>?_
  ·
   refine zD 4<|jn fun b46=>cH aS b46 (k:Int) 1 0 hI.2.1 rfl rfl (by omega) fun aPD aPg L47 axk=>zD 4<|zW ((k:Int)+1)<|zD 2<|zY bP (⟨k+1,(.slice aPD ((ps++[(k:Int)])).length aPg),L47,(ps++[(k:Int)])⟩) ⟨by simp only[zM];omega,axk,rF hI.2.2 ⟨by omega,x40,awF,by assumption⟩⟩ [0,2,3,4,5]
  refine zD 4<|zW ((k:Int)+1)<|zD 2<|zF bP (⟨k+1,v,L,ps⟩) hI.2 [0,1,2,3,4]
 refine zD 6<|FP hI.2.1<|zD 2<|js 51 (decide ((ps.length:Int)>0)) (fun h3=>?_) (fun h3=>?_)
 ·
  have uf:=h3
  replace uf:=of_decide_eq_true uf
  refine zD 1<|jc (vs:=[zP d,zI 4]) [1] (uk hN aJK (by omega)) ?_
  rintro _ X53 ⟨w53,rfl,apO⟩
  refine zD 3<|js 55 (!w53) (fun h4=>?_) (fun h4=>?_)
  ·
   try simp only[zB] at h4
   refine zD 5<|FP hI.2.1<|zW ((ps.length:Int)-1)<|jc (vs:=[zP d,zI ((ps.length:Int)-1)]) [0] (Gd hN apO (by omega)) ?_
   rintro _ X61 ⟨w61,rfl,bjg,bi8,aYj⟩
   obtain⟨x62,Ss⟩:=zG ps (w61.toNat)
   refine qg w61 1 hI.2.1 Ss (by omega) fun b62 aWP=>n7 0 [1] L (fun s _ hZ=>cB hI.2.1 aWP hZ Ss)<|jd 9 [2,2,3]<|zR (.agg ⟨[.string nm,zI w15,zI w24,zI x62,.bool w26]⟩) [3] [0] X61 ⟨⟨_,_,_,_,_⟩,rfl,rfl,(by dsimp only;omega),.inr (hI.2.2 _ (zL Ss)),aYj⟩
  try simp only[zB] at h4
  refine jd 8 [2,3]<|zR (.agg ⟨[.string nm,zI w15,zI w24,zI (-1),.bool w26]⟩) [3] [0] X53 ⟨⟨_,_,_,_,_⟩,rfl,rfl,(by dsimp only;omega),.inl rfl,apO⟩
 have uf:=h3
 replace uf:=of_decide_eq_false uf
 refine jd 13 [2,3]<|zR (.agg ⟨[.string nm,zI w15,zI w24,zI (-1),.bool w26]⟩) [3] [1] X26 ⟨⟨_,_,_,_,_⟩,rfl,rfl,(by dsimp only;omega),.inl rfl,aJK⟩
theorem aFE{vf:Value}{x:eY}(hf:bJ ro vf 3 y6 fs)(hn:fs.length≤1000):dG zT 39 [.agg ⟨[s0,s1,s2,t0,t1,ru,vb,va,zI gone,zI new,zI af,vf]⟩,.agg ⟨[zI x.a,zI x.b,.bool x.same]⟩] ro (.bool (EV fs x.a x.b)):=by
 obtain⟨lP,JK,JJ,kO,rfl,N6,CN,CM⟩:=hf
 refine zE<|zD 2<|jn fun b2=>jn fun b3=>zD 8<|dH [1,0,1,0,0] [] (fun(zz:Nat)=>[(2,zP b2),(3,zP b3),(5,zI (zz:Int))]) (fun zz=>[.b b3 (.cells ⟨[zI x.a,zI x.b,.bool x.same]⟩ 100 (0,0)),.b b2 (.cells ⟨[s0,s1,s2,t0,t1,ru,vb,va,zI gone,zI new,zI af,.slice lP fs.length kO]⟩ 38 (0,0))]) (fun zz=>zz≤fs.length∧EV fs x.a x.b=(fs.drop zz).any (fun y=>decide (y.a=x.a)&&decide (y.b=x.b))) (fun zz=>fs.length-zz) 0 ⟨by omega,rfl⟩ [0,1] ?_
 rintro k hI K1 bP rest
 refine jd 9 [1]<|zJ 10 ((k:Int) <(fs.length:Int)) (fun h1=>?_) fun h1=>?_
 ·
  refine jd 9 [1] ?_
  obtain⟨C6,pR⟩:=zG fs k
  refine fK kO 3 CN pR<|zD 1<|jl 0 (CM _ _ pR)<|jd 4 [0]<|js 9 (decide (C6.a=x.a)) (fun h2=>?_) (fun h2=>?_)
  ·
   have mU:=h2
   replace mU:=of_decide_eq_true mU
   refine jd 3 [1] ?_
   obtain⟨uy,wz⟩:=zG fs k
   refine fK kO 3 CN wz<|zD 1<|jl 1 (CM _ _ wz)<|jd 5 [0]<|zJ 32 (uy.b=x.b) (fun h3=>?_) fun h3=>?_
   ·
    refine zD 6<|zX (.bool true) ⟨by rw[hI.2,XV pR];simp_all,rfl⟩
   refine zD 4<|zW ((k:Int)+1)<|zD 2<|zY bP (k+1) ⟨by omega,by rw[hI.2,XV pR];simp_all⟩ [0,1]
  have mU:=h2
  replace mU:=of_decide_eq_false mU
  refine zD 15<|zW ((k:Int)+1)<|zD 2<|zY bP (k+1) ⟨by omega,by rw[hI.2,XV pR];simp_all⟩ [0,1]
 refine zD 7<|zX (.bool false) ⟨by rw[hI.2,aqA (by omega)],rfl⟩
theorem aZe{X:Cells}{fa:Value}{wD PS:List aI}(hN:Dn ro vd xs)(hD:bQ vd xs d X)(hb:bJ ro vb 5 fX wD)(ha:bJ ro va 5 fX PS)(hn:wD.length≤100∧PS.length≤100):ee zT 38 [zP d,.agg ⟨[s0,s1,s2,t0,t1,ru,vb,va,zI gone,zI new,zI af,fa]⟩] ro X (fun r Y=>∃x:eY,r= .agg ⟨y6 x⟩∧(0≤x.a∧(x.a <wD.length∨x.a=0))∧(0≤x.b∧(x.b <PS.length∨x.b=0))∧bQ vd xs d Y):=by
 obtain⟨nJ,YY,YV,nE,rfl,YW,VI,VH⟩:=hb
 obtain⟨nF,VL,VJ,nB,rfl,VK,Ul,Uk⟩:=ha
 refine zC [.l X]<|zD 2<|jn fun b3=>jn fun b4=>jd 7 [1]<|zW ((wD.length:Int)-1)<|jd 4 [1]<|zW ((PS.length:Int)-1)<|zD 1<|aP 5 fun C5 Dc Ba=>jc (vs:=[zP d,zI ((wD.length:Int)-1)]) [2] (Gd hN hD (by omega)) ?_
 rintro _ X10 ⟨w10,rfl,ah3,pS,Xd⟩
 refine eW Ba [[2],[2]]<|aP 11 fun zw Ab yZ=>jc (vs:=[zP d,zI ((PS.length:Int)-1)]) [0] (Gd hN Xd (by omega)) ?_
 rintro _ X16 ⟨w16,rfl,aGd,pR,ajG⟩
 refine eW yZ [[2],[2]]<|aP 13 fun tA tH q5=>jc (vs:=[zP d,zI 2]) [0] (uk hN ajG (by omega)) ?_
 rintro _ X18 ⟨w18,rfl,S6⟩
 refine eW q5 [[2],[2]]<|zD 1<|aP 15 fun sR sX qZ=>jd 1 [1]<|eB qZ<|zD 2<|zR (.agg ⟨[zI w10,zI w16,.bool w18]⟩) [1] [0] X18 ⟨⟨_,_,_⟩,rfl,(by dsimp only;omega),(by dsimp only;omega),S6⟩
inductive dc{α β:Type}(R:α→β→Prop):List α→List β→Prop
 |nil:dc R [] []
 |cons {a:α} {b:β} {l:List α} {m:List β}:R a b→dc R l m→dc R (a::l) (b::m)
theorem dc.snoc{R:α→β→Prop}{l:List α}{m:List β}{a:α}{b:β}(h:dc R l m)(k:R a b):dc R (l++[a]) (m++[b]):=by
 induction h with
 |nil=>exact .cons k .nil
 |cons h1 _ ih=>exact .cons h1 ih
theorem dc.len{R:α→β→Prop}{l:List α}{m:List β}(h:dc R l m):l.length=m.length:=by
 induction h with
 |nil=>rfl
 |cons _ _ ih=>simp[ih]
theorem dc.get{R:α→β→Prop}{l:List α}{m:List β}(h:dc R l m){a:α}(ha:l[i]?=some a):∃b,m[i]?=some b∧R a b:=by
 induction h generalizing i with
 |nil=>simp at ha
 |cons h1 _ ih=>
  cases i with
  |zero=>simp at ha;subst ha;exact⟨_,rfl,h1⟩
  |succ i=>exact ih (by simpa using ha)
theorem dc.imp{R S:α→β→Prop}{l:List α}{m:List β}(h:dc R l m)(k:∀a b,R a b→S a b):dc S l m:=by
 induction h with
 |nil=>exact .nil
 |cons h1 _ ih=>exact .cons (k _ _ h1) ih
structure cF where
 word:ByteArray
 cls:Int
 pG:Int
 eX:List Int
variable {hd:List cF}
def dN(h:bW)(x:cF):Prop:=h.word=x.word∧h.cls=x.cls∧h.pG=x.pG
def sO(ro:Nat→Option Obj)(h:bW)(x:cF):Prop:=h.word=x.word∧h.cls=x.cls∧h.pG=x.pG∧bJ ro h.eX 1 aS x.eX
def kF(ro:Nat→Option Obj)(vc vh:Value)(cs:List cm)(hv:List bW)(hd:List cF):Prop:=bJ ro vc 2 rq cs∧bJ ro vh 4 qi hv∧dc (sO ro) hv hd
def iz(nc nh:Nat)(i:Nat)(x:cF):Prop:=(-1≤x.cls∧x.cls <nc)∧(-1≤x.pG∧x.pG <nh∧x.pG≠i)∧(x.eX.length≤nh∧x.eX.Pairwise (· < ·)∧∀y∈x.eX,0≤y∧y <nh∧y≠i)∧(x.pG≠ -1→x.cls= -1∧x.eX=[])∧(x.pG= -1→x.cls= -1→x.eX≠[])
structure xX(cs:List cm)(hd:List cF):Prop where
 nc:0 <cs.length∧cs.length≤3
 nh:hd.length≤4
 cls:∀(i:Nat) (c:cm),cs[i]?=some c→c.name∈nU∧ -1≤c.under∧c.under <i
 names:(cs.map (·.name)).Pairwise fun a b=>c8 a b=false
 B4:∀(i:Nat) (x:cF),hd[i]?=some x→x.word∈qj∧iz cs.length hd.length i x
 words:(hd.map (·.word)).Pairwise fun a b=>c8 a b=false∧strLt b a=false
def oC(names:List Int)(cs:List cm):Prop:=∀(i:Nat) (c:cm),cs[i]?=some c→(∃y,names[i]?=some y∧nU[y.toNat]?=some c.name)∧ -1≤c.under∧c.under <i
theorem Ti{l:List α}{x y:α}(h:(l++[x])[i]?=some y):l[i]?=some y∨(i=l.length∧y=x):=by
 rcases Nat.lt_trichotomy i l.length with h1|h1|h1
 ·rw[List.getElem?_append_left h1] at h;exact .inl h
 ·subst h1;simp at h;exact .inr ⟨rfl,h.symm⟩
 rw[List.getElem?_eq_none (by simp;omega)] at h;cases h
theorem oC.snoc{names:List Int}{cs:List cm}(h:oC names cs){y u:Int}(h1:names[cs.length]?=some y) (h2:nU[y.toNat]?=some nm) (h3: -1≤u∧u <cs.length):oC names (cs++[⟨nm,u⟩]):=fun i c hc=>by
 rcases Ti hc with h4| ⟨rfl,rfl⟩
 ·exact h i c h4
 exact⟨⟨y,h1,h2⟩,h3⟩
def nA(ws:List Int)(nc:Nat)(hv:List bW)(hd:List cF)(Z:Cells)(i:Nat):Prop:=
 (∀ro,Knows ro Z→dc (sO ro) hv hd)∧hd.length=i∧hv.length=i∧(∀(k:Nat) (x:cF),hd[k]?=some x→(∃w,ws[k]?=some w∧qj[w.toNat]?=some x.word)∧iz nc ws.length k x)∧dc dN hv hd
theorem nA.snoc{ws:List Int}{hv:List bW}{Z A:Cells}(h:nA ws nc hv hd Z i){hV:bW}{x:cF}{w:Int}(h0:dN hV x)(h1:∀ro,Knows ro A→sO ro hV x)(h2:ws[i]?=some w) (h3:qj[w.toNat]?=some x.word) (h4:iz nc ws.length i x):
 nA ws nc (hv++[hV]) (hd++[x]) (A++Z) (i+1):=by
 obtain⟨g1,g2,g3,g4,g5⟩:=h
 refine⟨fun ro hk=>(g1 ro hk.right).snoc (h1 ro hk.left),by simp[g2],by simp[g3],fun k y hy=>?_,g5.snoc h0⟩
 rcases Ti hy with h5| ⟨rfl,rfl⟩
 ·exact g4 k y h5
 rw[g2];exact⟨⟨w,h2,h3⟩,h4⟩
theorem aob{i n w:Int}(hi:0≤i∧i <n)(hw:0≤w∧w≤n-2):0≤Int.tmod (i+1+w) n∧Int.tmod (i+1+w) n <n∧Int.tmod (i+1+w) n≠i:=by
 have h1:=Int.tmod_nonneg n (show 0≤i+1+w by omega)
 have h2:=Int.tmod_lt_of_pos (i+1+w) (show 0 <n by omega)
 refine⟨h1,h2,fun h=>?_⟩
 have h3:=Int.tmod_add_mul_tdiv (i+1+w) n
 rw[h] at h3
 have h4:n*(i+1+w).tdiv n=1+w:=by omega
 rcases Int.lt_trichotomy ((i+1+w).tdiv n) 0 with h5|h5|h5
 ·have:n*(i+1+w).tdiv n≤n* -1:=Int.mul_le_mul_of_nonneg_left (by omega) (by omega)
  omega
 ·rw[h5] at h4;omega
 have:n*1≤n*(i+1+w).tdiv n:=Int.mul_le_mul_of_nonneg_left (by omega) (by omega)
 omega
theorem EW:nU.Pairwise fun a b=>c8 a b=false:=by simp only[Bs];decide
theorem XH:qj.Pairwise fun a b=>c8 a b=false∧strLt b a=false:=by simp only[Bs,Q3];decide
def mg(i:Nat)(k:Nat)(al:List Int):Prop:=al.length≤k∧al.Pairwise (· < ·)∧∀y∈al,0≤y∧y <k∧y≠i
theorem qL{l:List α}{R:α→α→Prop}(h:l.Pairwise R){j:Nat}{a b:α}(JU:i <j)(ha:l[i]?=some a) (hb:l[j]?=some b):R a b:=by
 obtain⟨h1,rfl⟩:=List.getElem?_eq_some_iff.1 ha
 obtain⟨h2,rfl⟩:=List.getElem?_eq_some_iff.1 hb
 exact List.pairwise_iff_getElem.1 h i j h1 h2 JU
theorem afQ{l:List α}{f:α→β}{R:β→β→Prop}(h:∀(i j:Nat) (a b:α),i <j→l[i]?=some a→l[j]?=some b→R (f a) (f b)):(l.map f).Pairwise R:=by
 rw[List.pairwise_map,List.pairwise_iff_getElem]
 exact fun i j hi hj JU=>h i j _ _ JU (List.getElem?_eq_getElem hi) (List.getElem?_eq_getElem hj)
theorem Vb{a:ByteArray}(h:c8 a b=false):c8 b a=false:=by
 cases h2:c8 b a with
 |false=>rfl
 |true=>rw[Dd.1 h2,Dd.2 rfl] at h;cases h
theorem abi{Oa lS:List Int}{cs:List cm}{hv:List bW}{Z:Cells}(hc:oC Oa cs)(hp:Oa.Perm (ek nU.length))(hn:0 <cs.length∧cs.length≤3)(hh:nA lS cs.length hv hd Z i)(hi:i=lS.length)(h4:lS.length≤4)(hs:lS.Pairwise (· < ·))(hm:∀x∈lS,0≤x∧x <qj.length):xX cs hd:=by
 obtain⟨g1,g2,g3,g4,_⟩:=hh
 have jM:∀y∈Oa,0≤y∧y <nU.length:=fun y hy=>qJ (hp.mem_iff.1 hy)
 have mJ:Oa.Pairwise (· ≠·):=(hp.pairwise_iff (fun h=>Ne.symm h)).2 ((sZ _).imp fun h=>by omega)
 refine⟨hn,by omega,fun k c hk=>?_,afQ fun a b x y Eh hx hy=>?_,fun k x hk=>?_,afQ fun a b x y Eh hx hy=>?_⟩
 ·obtain⟨⟨y,h1,h2⟩,h3⟩:=hc k c hk
  exact⟨zL h2,h3⟩
 ·obtain⟨⟨p,p1,p2⟩,_⟩:=hc a x hx
  obtain⟨⟨q,q1,q2⟩,_⟩:=hc b y hy
  have ZY:=qL mJ Eh p1 q1
  have hp0:=jM p (zL p1)
  have Ic:=jM q (zL q1)
  rcases Nat.lt_trichotomy p.toNat q.toNat with h|h|h
  ·exact qL EW h p2 q2
  ·exact absurd (show p=q by omega) ZY
  exact Vb (qL EW h q2 p2)
 ·obtain⟨⟨w,h1,h2⟩,h3⟩:=g4 k x hk
  have:hd.length=lS.length:=by omega
  rw[this]
  exact⟨zL h2,h3⟩
 obtain⟨⟨p,p1,p2⟩,_⟩:=g4 a x hx
 obtain⟨⟨q,q1,q2⟩,_⟩:=g4 b y hy
 have ZY:=qL hs Eh p1 q1
 have hp0:=hm p (zL p1)
 exact qL XH (show p.toNat <q.toNat by omega) p2 q2
theorem mg.step(h:mg i k al):mg i (k+1) al:=⟨by have:=h.1;omega,h.2.1,fun y hy=>by have:=h.2.2 y hy;omega⟩
theorem mg.snoc(h:mg i k al)(hk:(k:Int)≠i):mg i (k+1) (al++[(k:Int)]):=by
 refine⟨by have:=h.1;simp;omega,List.pairwise_append.2 ⟨h.2.1,List.pairwise_singleton _ _,fun a ha b hb=>?_⟩,rF (fun y hy=>by have:=h.2.2 y hy;omega) (by omega)⟩
 rw[List.mem_singleton] at hb;subst hb
 exact(h.2.2 a ha).2.1
theorem aiR{r:Int}{w:ByteArray}(h:0≤r∧r <nh∧r≠i)(h4:0 <nc):iz nc nh i ⟨w,-1,r,[]⟩:=
 have h1:=h.1
 have h2:=h.2.1
 have h3:=h.2.2
 ⟨⟨by simp,by simp<;>omega⟩,⟨by simp<;>omega,by simpa using h2,by simpa using h3⟩,⟨by simp,by simp,by simp⟩,fun _=>⟨rfl,rfl⟩,fun h=>by simp at h;omega⟩
theorem MW{c:Int}{w:ByteArray}(hc:0≤c∧c <nc)(h:mg i k al)(hk:k≤nh)(hi:i <nh):iz nc nh i ⟨w,c,-1,al⟩:=
 ⟨⟨by simp<;>omega,by simpa using hc.2⟩,⟨by simp,by simp<;>omega,by simp<;>omega⟩,⟨by have:=h.1;simp<;>omega,h.2.1,fun y hy=>by have:=h.2.2 y hy;simp<;>omega⟩,fun hh=>by simp at hh,fun _ hh=>by simp at hh;omega⟩
theorem aiS{w:ByteArray}(h:mg i k al)(hk:k≤nh)(hi:i <nh)(dQ:(al.length:Int)>0):iz nc nh i ⟨w,-1,-1,al⟩:=
 ⟨⟨by simp,by simp<;>omega⟩,⟨by simp,by simp<;>omega,by simp<;>omega⟩,⟨by have:=h.1;simp<;>omega,h.2.1,fun y hy=>by have:=h.2.2 y hy;simp<;>omega⟩,fun hh=>by simp at hh,fun _ _ hh=>by simp at hh;subst hh;simp at dQ⟩
set_option maxHeartbeats 1000000 in
theorem aqd {X:Cells} (hN:Dn ro vd xs) (hD:bQ vd xs d X):ee zT 30 [zP d,zI 3,zI 4] ro X (fun r Y=>∃(cs:List cm) (hv:List bW) (hd:List cF) (vc vh:Value) (Z X':Cells),r= .agg ⟨[vc,vh]⟩∧xX cs hd∧dc dN hv hd∧(∀aF,Knows aF Z→kF aF vc vh cs hv hd)∧Y=Z++X'∧bQ vd xs d X'):=by
 refine zC [.l X]<|zD 2<|jn fun b6=>zD 3<|jn fun b7=>zD 4<|jc [] (ahj) ?_
 rintro v16 L16 ⟨_,aVb,rfl⟩
 refine FP aVb<|jc (vs:=[zP d,zI (nU.length:Int)]) [3] (akV hN hD (by first|omega|decide)) ?_
 rintro v18 _ ⟨Oa,L18,X18,acw,SF,rfl,S6⟩
 refine jg 0 [.l L18,.l X18]<|zD 7<|jc (vs:=[zP d,zI 1,zI 3]) [1] (Cn hN S6 (by omega) (by omega)) ?_
 rintro _ X21 ⟨w21,rfl,ao0,qR,aYt⟩
 refine zD 3<|my<|dH [1,1,1,0,1,0,0] [] (fun(zz:Int×Value×Cells×(List cm)×Cells)=>[(0,zP d),(2,zI 4),(6,zP b6),(7,zP b7),(8,v18),(9,zI zz.1)]) (fun zz=>[.l zz.2.2.1,.l zz.2.2.2.2,.b b7 (.cells ⟨[zz.2.1,zS]⟩ 33 (0,0)),.l L18,.b b6 (.cells ⟨[zS,zS]⟩ 33 (0,0))]) (fun zz=>(0≤zz.1∧zz.2.2.2.1.length+zz.1=w21)∧aA zz.2.1 2 170 rq zz.2.2.2.1 zz.2.2.1∧oC Oa zz.2.2.2.1∧bQ vd xs d zz.2.2.2.2) (fun zz=>zz.1.toNat) (⟨w21,zS,[],[],X21⟩) ⟨by simp only[List.length_nil];omega,aA.nil _ _ _,(fun i c h=>by simp at h),aYt⟩ [0,1,4,2,5] ?_
 rintro⟨j,vC,LC,cs,X⟩ hI K1 bP rest
 dsimp only at hI
 have hlen:Oa.length=9:=by rw[SF.length_eq,mj];rfl
 refine zD 6<|zJ 23 (j>0) (fun h1=>?_) fun h1=>?_
 ·
  refine jd 10 [2,2]<|FP hI.2.1 ?_
  obtain⟨x33,ON⟩:=zG Oa (cs.length)
  refine Un 1 acw ON fun b33 aW0=>n7 0 [3] L18 (fun s _ hZ=>cB acw aW0 hZ ON)<|jd 3 [2]<|FP hI.2.1<|zW ((cs.length:Int)-1)<|aP 2 fun zw Ab yZ=>jc [] (ahj) ?_
  rintro v28 L28 ⟨_,aGO,rfl⟩
  refine dW yZ (zN 1 5) ?_
  obtain⟨x35,Wn⟩:=zG nU (x33.toNat) (by have:=qJ (SF.mem_iff.1 (zL ON));omega)
  refine qg x33 1 aGO Wn (Int.toNat_of_nonneg (show 0≤x33∧x33 <((nU).length:Int) from (qJ (SF.mem_iff.1 (zL ON)))).1).symm fun b35 aWY=>n7 0 [0] L28 (fun s _ hZ=>cB aGO aWY hZ Wn)<|aP 16 fun tA tH q5=>jc (vs:=[zP d,zI (-1),zI ((cs.length:Int)-1)]) [2] (Cn hN hI.2.2.2 (by omega) (by omega)) ?_
  rintro _ X42 ⟨w42,rfl,bji,Wm,aYn⟩
  refine eW q5 [[1],[3],[4],[3],[3]]<|zD 1<|aP 18 fun sR sX qZ=>jn fun EI=>dW qZ (zN 1 6)<|aP 19 fun Bg Br B7=>cH rq EI (⟨x35,w42⟩:cm) 3 0 hI.2.1 rfl rfl (by omega) fun at0 atN L45 axl=>eW B7 [[3],[4],[5],[4]]<|zD 1<|aP 21 fun ad4 aeQ W7=>jd 1 [4]<|eB W7<|zD 3<|zW (j-1)<|zD 2<|zY bP (⟨j-1,(.slice at0 ((cs++[(⟨x35,w42⟩:cm)])).length atN),L45,(cs++[(⟨x35,w42⟩:cm)]),X42⟩) ⟨by simp only[zM];omega,axl,oC.snoc hI.2.2.1 ON Wn (by omega),aYn⟩ [0,2,4,5,6]
 refine zD 5<|jc [] (ahz) ?_
 rintro v48 L48 ⟨_,aU2,rfl⟩
 refine FP aU2<|zD 2<|jc (vs:=[zP d,zI 4]) [2] (Gd hN hI.2.2.2 (by omega)) ?_
 rintro _ X52 ⟨w52,rfl,bjh,D5,aYm⟩
 refine jc (vs:=[zP d,zI (qj.length:Int),zI w52]) [0] (aKN hN aYm (by first|omega|decide)) ?_
 rintro v53 _ ⟨lS,L53,X53,axx,bkj,xp,aiA,rfl,apO⟩
 refine jg 0 [.l L53,.l X53]<|zD 5<|FP axx<|zD 8<|my<|my<|dH [1,1,1,1,1,1,0,1,0,0] [] (fun(zz:Nat×Value×Cells×(List bW)×(List cF)×Cells×Cells)=>[(0,zP d),(6,zP b6),(7,zP b7),(10,v53),(11,zI (lS.length:Int)),(12,zI (zz.1:Int))]) (fun zz=>[.l zz.2.2.1,.l zz.2.2.2.2.2.1,.l zz.2.2.2.2.2.2,.l LC,.b b7 (.cells ⟨[vC,zz.2.1]⟩ 33 (0,0)),.l L53,.b b6 (.cells ⟨[zS,zS]⟩ 33 (0,0))]) (fun zz=>zz.1≤lS.length∧aA zz.2.1 4 173 qi zz.2.2.2.1 zz.2.2.1∧nA lS cs.length zz.2.2.2.1 zz.2.2.2.2.1 zz.2.2.2.2.2.1 zz.1∧bQ vd xs d zz.2.2.2.2.2.2) (fun zz=>lS.length-zz.1) (⟨0,zS,[],[],[],[],X53⟩) ⟨by omega,aA.nil _ _ _,⟨fun _ _=> .nil,rfl,rfl,(fun k x h=>by simp at h),.nil⟩,apO⟩ [1,0,3,5,6,2,8] ?_
 rintro⟨i,vH,LH,hv,hd,Z,X⟩ hJ K7 hK7 rest
 dsimp only at hJ
 have hll:=hJ.2.2.1.2.2.1
 have SE:lS.length≤4:=by omega
 have iY:cs.length≤3:=by omega
 refine zD 7<|zJ 58 ((i:Int) <(lS.length:Int)) (fun h7=>?_) fun h7=>?_
 ·
  refine zD 5<|GD [1,1,1,1,1,1,0,1,0,0,1,0,0,1] [K7] (fun(zz:Nat×Int×Int×ByteArray×Cells)=>[(0,zP d),(6,zP b6),(7,zP b7),(10,v53),(11,zI (lS.length:Int)),(12,zI (i:Int)),(13,zP zz.1)]) (fun zz=>[.b zz.1 (.cells ⟨[.string zz.2.2.2.1,zI zz.2.1,zI (-1),zS]⟩ 173 (0,0)),.l LH,.l Z,.l zz.2.2.2.2,.l LC,.b b7 (.cells ⟨[vC,vH]⟩ 33 (0,0)),.l L53,.b b6 (.cells ⟨[zS,zS]⟩ 33 (0,0))]) (fun zz=>lS[i]?=some zz.2.2.1∧qj[zz.2.2.1.toNat]?=some zz.2.2.2.1∧(0≤zz.2.1∧zz.2.1 <cs.length)∧bQ vd xs d zz.2.2.2.2) ?_ (fun K8 hK8=>?_)
  ·
   rintro⟨C4,w,y,x,X⟩ UB rest
   dsimp only at UB
   refine zD 2<|GD [1,1,1,1,1,1,0,1,0,0,1,0,0,1,0,1] [K7] (fun(zz:Bool×Cells)=>[(0,zP d),(6,zP b6),(7,zP b7),(10,v53),(11,zI (lS.length:Int)),(12,zI (i:Int)),(13,zP C4),(80,.bool zz.1)]) (fun zz=>[.b C4 (.cells ⟨[.string x,zI w,zI (-1),zS]⟩ 173 (0,0)),.l LH,.l Z,.l zz.2,.l LC,.b b7 (.cells ⟨[vC,vH]⟩ 33 (0,0)),.l L53,.b b6 (.cells ⟨[zS,zS]⟩ 33 (0,0))]) (fun zz=>(zz.1=true→1 <lS.length)∧bQ vd xs d zz.2) ?_ (fun K9 hK9=>?_)
   ·
    rintro⟨q,X⟩ hJ3 rest
    dsimp only at hJ3
    refine js 80 q (fun h8=>?_) (fun h8=>?_)
    ·
     subst h8
     have hgt:=hJ3.1 rfl
     refine zD 4<|zW ((i:Int)+1)<|zD 2<|zW ((lS.length:Int)-2)<|zD 2<|aP 5 fun GW G9 xv=>jc (vs:=[zP d,zI ((lS.length:Int)-2)]) [3] (Gd hN hJ3.2 (by omega)) ?_
     rintro _ X86 ⟨w86,rfl,bjf,bi7,aYg⟩
     refine eW xv []<|zW (((i:Int)+1)+w86)<|jrm (k:= .i64) (a:=(((i:Int)+1)+w86)) (b:=(lS.length:Int)) 3 (by omega)<|aP 10 fun Lf Lx Ej=>jd 1 [1]<|eW Ej []<|zD 1<|aP 12 fun Le Lu AO=>jd 1 [1]<|eB AO<|jd 6 [5,1]<|jn fun b95=>cH qi b95 (⟨x,(-1),(Int.tmod (((i:Int)+1)+w86) (lS.length:Int)),zS⟩:bW) 3 0 hJ.2.1 rfl rfl (by omega) fun aPv aO8 L96 axf=>jd 6 [6]<|zW ((i:Int)+1)<|zD 2<|zY hK7 (⟨i+1,(.slice aPv ((hv++[(⟨x,(-1),(Int.tmod (((i:Int)+1)+w86) (lS.length:Int)),zS⟩:bW)])).length aO8),L96,(hv++[(⟨x,(-1),(Int.tmod (((i:Int)+1)+w86) (lS.length:Int)),zS⟩:bW)]),_,Z,X86⟩) ⟨by omega,axf,(by have:=nA.snoc (A:=[]) hJ.2.2.1 (h0:=⟨rfl,rfl,rfl⟩) (hV:=⟨x,-1,(Int.tmod (((i:Int)+1)+w86) (lS.length:Int)),zS⟩) (x:=⟨x,-1,(Int.tmod (((i:Int)+1)+w86) (lS.length:Int)),[]⟩) (fun ro _=>⟨rfl,rfl,rfl,bJ.nil _ _ _ _ _⟩) UB.1 UB.2.1 (aiR (aob ⟨by omega,by omega⟩ ⟨by omega,by omega⟩) (by omega));simpa only[List.nil_append] using this),aYg⟩ [0,4,2,5,6,7,8]
    subst h8
    refine zD 8<|my<|dH [1,1,1,1,1,1,0,1,0,0,1,0,0,1,1,0,1,0,0] [K7] (fun(zz:Nat×Value×Cells×(List Int)×Cells)=>[(0,zP d),(6,zP b6),(7,zP b7),(10,v53),(11,zI (lS.length:Int)),(12,zI (i:Int)),(13,zP C4),(14,zI (zz.1:Int))]) (fun zz=>[.l zz.2.2.1,.l zz.2.2.2.2,.b C4 (.cells ⟨[.string x,zI w,zI (-1),zz.2.1]⟩ 173 (0,0)),.l LH,.l Z,.l LC,.b b7 (.cells ⟨[vC,vH]⟩ 33 (0,0)),.l L53,.b b6 (.cells ⟨[zS,zS]⟩ 33 (0,0))]) (fun zz=>(zz.1≤lS.length∧zz.2.2.2.1.length≤zz.1)∧aA zz.2.1 1 3 aS zz.2.2.2.1 zz.2.2.1∧mg i zz.1 zz.2.2.2.1∧bQ vd xs d zz.2.2.2.2) (fun zz=>lS.length-zz.1) (⟨0,zS,[],[],X⟩) ⟨by simp,aA.nil _ _ _,⟨by simp,by simp,by simp⟩,hJ3.2⟩ [0,4,1,2,3,5,6,7,8] ?_
    rintro⟨k,vA,LA,al,X⟩ hK K13 KN rest
    dsimp only at hK
    obtain⟨qa,qc,rfl⟩:=hK.2.1.form
    refine zD 7<|zJ 100 ((k:Int) <(lS.length:Int)) (fun J1=>?_) fun J1=>?_
    ·
     refine zD 10<|js 106 (!decide ((k:Int)=(i:Int))) (fun C1=>?_) (fun C1=>?_)
     ·
      have aj1:=C1
      replace aj1:=of_decide_eq_false (by simpa using aj1)
      refine zD 1<|jc (vs:=[zP d,zI 4]) [1] (uk hN hK.2.2.2 (by omega)) ?_
      rintro _ aLz ⟨aO6,rfl,asL⟩
      refine zD 2<|js 109 aO6 (fun IE=>?_) (fun IE=>?_)
      ·
       subst IE
       refine jd 5 [2]<|jn fun aZN=>cH aS aZN (k:Int) 2 0 hK.2.1 rfl rfl (by omega) fun aCl aB7 baG apb=>jd 5 [3]<|zW ((k:Int)+1)<|zD 2<|zY KN (⟨k+1,(.slice aCl ((al++[(k:Int)])).length aB7),baG,(al++[(k:Int)]),aLz⟩) ⟨by simp only[zM];omega,apb,mg.snoc hK.2.2.1 (by omega),asL⟩ [0,2,3,4,5,6,7,8,9]
      subst IE
      refine zD 4<|zW ((k:Int)+1)<|zD 2<|zF KN (⟨k+1,(.slice qa al.length qc),LA,al,aLz⟩) ⟨hK.2.1,mg.step hK.2.2.1,asL⟩ [1,0,2,3,4,5,6,7,8]
     have aj1:=C1
     replace aj1:=of_decide_eq_true (by simpa using aj1)
     refine zD 8<|zW ((k:Int)+1)<|zD 2<|zF KN (⟨k+1,(.slice qa al.length qc),LA,al,X⟩) ⟨hK.2.1,mg.step hK.2.2.1,hK.2.2.2⟩ [0,1,2,3,4,5,6,7,8]
    refine jd 10 [2]<|js 120 (decide ((al.length:Int)>0)) (fun xz=>?_) (fun xz=>?_)
    ·
     have xy:=xz
     replace xy:=of_decide_eq_true xy
     refine zD 1<|jc (vs:=[zP d,zI 4]) [1] (uk hN hK.2.2.2 (by omega)) ?_
     rintro _ aLy ⟨aO3,rfl,asK⟩
     refine zD 2<|js 123 aO3 (fun Ga=>?_) (fun Ga=>?_)
     ·
      subst Ga
      refine jd 9 [2,6,2]<|jn fun ado=>cH qi ado (⟨x,(-1),-1,(.slice qa al.length qc)⟩:bW) 4 0 hJ.2.1 rfl rfl (by omega) fun QF QC alI B0=>jd 5 [7]<|zW ((i:Int)+1)<|zD 2<|zV hK7 (⟨i+1,(.slice QF ((hv++[(⟨x,(-1),-1,(.slice qa al.length qc)⟩:bW)])).length QC),alI,(hv++[(⟨x,(-1),-1,(.slice qa al.length qc)⟩:bW)]),_,LA++Z,aLy⟩) ⟨by omega,B0,nA.snoc (A:=LA) hJ.2.2.1 (h0:=⟨rfl,rfl,rfl⟩) (x:=⟨x,_,-1,al⟩) (fun ro hk=>⟨rfl,rfl,rfl,hK.2.1.jR hk⟩) UB.1 UB.2.1 (aiS hK.2.2.1 (by omega) (by omega) (by assumption)),asK⟩ [[0],[3,5],[2],[6],[7],[8],[9]]
     subst Ga
     refine jd 6 [6,2]<|jn fun ado=>cH qi ado (⟨x,w,-1,(.slice qa al.length qc)⟩:bW) 4 0 hJ.2.1 rfl rfl (by omega) fun QF QC alI B0=>jd 5 [7]<|zW ((i:Int)+1)<|zD 2<|zV hK7 (⟨i+1,(.slice QF ((hv++[(⟨x,w,-1,(.slice qa al.length qc)⟩:bW)])).length QC),alI,(hv++[(⟨x,w,-1,(.slice qa al.length qc)⟩:bW)]),_,LA++Z,aLy⟩) ⟨by omega,B0,nA.snoc (A:=LA) hJ.2.2.1 (h0:=⟨rfl,rfl,rfl⟩) (x:=⟨x,_,-1,al⟩) (fun ro hk=>⟨rfl,rfl,rfl,hK.2.1.jR hk⟩) UB.1 UB.2.1 (MW (by omega) hK.2.2.1 (by omega) (by omega)),asK⟩ [[0],[3,5],[2],[6],[7],[8],[9]]
    have xy:=xz
    replace xy:=of_decide_eq_false xy
    refine jd 10 [6,2]<|jn fun ado=>cH qi ado (⟨x,w,-1,(.slice qa al.length qc)⟩:bW) 4 0 hJ.2.1 rfl rfl (by omega) fun QF QC alI B0=>jd 5 [7]<|zW ((i:Int)+1)<|zD 2<|zV hK7 (⟨i+1,(.slice QF ((hv++[(⟨x,w,-1,(.slice qa al.length qc)⟩:bW)])).length QC),alI,(hv++[(⟨x,w,-1,(.slice qa al.length qc)⟩:bW)]),_,LA++Z,X⟩) ⟨by omega,B0,nA.snoc (A:=LA) hJ.2.2.1 (h0:=⟨rfl,rfl,rfl⟩) (x:=⟨x,_,-1,al⟩) (fun ro hk=>⟨rfl,rfl,rfl,hK.2.1.jR hk⟩) UB.1 UB.2.1 (MW (by omega) hK.2.2.1 (by omega) (by omega)),hK.2.2.2⟩ [[0],[2,5],[3],[6],[7],[8],[9]]
   refine zD 4<|js 77 (decide ((lS.length:Int)>1)) (fun h17=>?_) (fun h17=>?_)
   ·
    have xw:=h17
    replace xw:=of_decide_eq_true xw
    refine zD 1<|jc (vs:=[zP d,zI 3]) [3] (uk hN UB.2.2.2 (by omega)) ?_
    rintro _ X79 ⟨w79,rfl,aYi⟩
    refine zD 2<|bF hK9 ⟨w79,X79⟩ ⟨fun _=>by omega,aYi⟩ Nat.zero_lt_one [1,2,3,0,4,5,6,7] (Sub.refl _)
   have xw:=h17
   replace xw:=of_decide_eq_false xw
   refine zD 4<|bF hK9 ⟨false,X⟩ ⟨(fun h=>by cases h),UB.2.2.2⟩ Nat.zero_lt_one (zN 0 8) (Sub.refl _)
  refine zD 3 ?_
  obtain⟨x64,OI⟩:=zG lS i
  refine Un 1 axx OI fun b64 aWO=>n7 0 [5] L53 (fun s _ hZ=>cB axx aWO hZ OI)<|jd 3 [4]<|FP hI.2.1<|zW ((cs.length:Int)-1)<|ze [0,14] ⟨fun z14 t15 KM=>?_,fun z17 t18 Xa=>?_,trivial⟩
  ·
   refine jc [] (ahz) ?_
   rintro v61 L61 ⟨_,air,rfl⟩
   refine dW KM (zN 1 7) ?_
   obtain⟨x66,H6⟩:=zG qj (x64.toNat) (by have:=aiA _ (zL OI);omega)
   refine qg x64 1 air H6 (Int.toNat_of_nonneg (show 0≤x64∧x64 <((qj).length:Int) from (aiA _ (zL OI))).1).symm fun b66 ayF=>n7 0 [0] L61 (fun s _ hZ=>cB air ayF hZ H6)<|ze [12,14] ⟨fun z20 t21 ajy=>?_,fun z23 t24 W9=>?_,trivial⟩
   ·
    refine jc (vs:=[zP d,zI ((cs.length:Int)-1)]) [3] (Gd hN hJ.2.2.2 (by omega)) ?_
    rintro _ X73 ⟨w73,rfl,aF8,acj,ajE⟩
    refine eW ajy [[1],[5],[6]]<|zD 1<|aP 14 fun ad5 aeR KL=>jn fun C4=>dW KL (zN 1 8)<|aP 15 fun Ye Yo Iw=>jd 1 [0]<|eB Iw<|zD 1<|bF hK8 ⟨C4,w73,_,x66,X73⟩ ⟨OI,H6,(by dsimp only;omega),ajE⟩ Nat.zero_lt_one [0,3,4,1,5,6,7,8] (Sub.refl _)
   refine jn fun C4=>dW W9 (zN 1 8)<|aP 12 fun Yd Yn O9=>jc (vs:=[zP d,zI ((cs.length:Int)-1)]) [4] (Gd hN hJ.2.2.2 (by omega)) ?_
   rintro _ X73 ⟨w73,rfl,aF8,acj,ajE⟩
   refine eW O9 [[2],[6],[7]]<|zD 1<|aP 15 fun Yc Ym O8=>jd 1 [1]<|eB O8<|zD 1<|bF hK8 ⟨C4,w73,_,x66,X73⟩ ⟨OI,H6,(by dsimp only;omega),ajE⟩ Nat.zero_lt_one [1,3,4,0,5,6,7,8] (Sub.refl _)
  refine jn fun C4=>dW Xa (zN 1 7)<|aP 0 fun aqV arh W8=>jc [] (ahz) ?_
  rintro v61 L61 ⟨_,air,rfl⟩
  refine dW W8 (zN 1 8) ?_
  obtain⟨x66,H6⟩:=zG qj (x64.toNat) (by have:=aiA _ (zL OI);omega)
  refine qg x64 1 air H6 (Int.toNat_of_nonneg (show 0≤x64∧x64 <((qj).length:Int) from (aiA _ (zL OI))).1).symm fun b66 ayF=>n7 0 [0] L61 (fun s _ hZ=>cB air ayF hZ H6)<|aP 12 fun aqU arf acJ=>jc (vs:=[zP d,zI ((cs.length:Int)-1)]) [4] (Gd hN hJ.2.2.2 (by omega)) ?_
  rintro _ X73 ⟨w73,rfl,aF8,acj,ajE⟩
  refine eW acJ [[1],[6],[7]]<|zD 1<|aP 15 fun aBy aCL ajv=>jd 1 [2]<|eB ajv<|zD 1<|bF hK8 ⟨C4,w73,_,x66,X73⟩ ⟨OI,H6,(by dsimp only;omega),ajE⟩ Nat.zero_lt_one [2,3,4,0,5,6,7,8] (Sub.refl _)
 refine jd 5 [4] ?_
 obtain⟨aeF,aex,ayo⟩:=hI.2.1.form
 subst ayo
 obtain⟨at4,atS,ayn⟩:=hJ.2.1.form
 subst ayn
 refine jd 3 [6]<|zR (.agg ⟨[(.slice aeF (cs).length aex),(.slice at4 (hv).length atS)]⟩) [6] [3,0,1,2] (LC++(LH++(Z++X))) ⟨cs,hv,hd,_,_,LC++(LH++Z),X,rfl,abi hI.2.2.1 SF (by omega) hJ.2.2.1 (by omega) (by omega) xp aiA,hJ.2.2.1.2.2.2.2,fun aJ hk=>⟨hI.2.1.jR hk.left,hJ.2.1.jR hk.right.left,hJ.2.2.1.1 aJ hk.right.right⟩,by simp only[List.append_assoc],hJ.2.2.2⟩
abbrev gL(x:Value):List Value:=[x]
structure ar where
 n:Int
 l:Int
abbrev dC(x:ar):List Value:=[zI x.n,zI x.l]
def anM(x y:ar):Prop:=x.n <y.n∨(x.n=y.n∧x.l <y.l)
def CE(x:ar):Prop:=(1≤x.n∧x.n≤9)∧0≤x.l∧x.l≤4
structure eF(S:List (List ar)):Prop where
 two:S.length=2
 len:∀l∈S,l.length≤4
 ok:∀l∈S,∀x∈l,CE x
 asc:∀l∈S,l.Pairwise anM
def Ap:List (List ar):=[[⟨1,0⟩,⟨2,0⟩],[⟨1,0⟩,⟨3,0⟩]]
def cD(ro:Nat→Option Obj)(v:Value)(S:List (List ar)):Prop:=∃ws,bJ ro v 1 gL ws∧dc (fun w l=>bJ ro w 2 dC l) ws S
def oz(ro:Nat→Option Obj)(v:Value)(ways:List (List aO)):Prop:=∃ws,bJ ro v 1 gL ws∧dc (fun w l=>bJ ro w 7 lq l) ws ways
theorem cD.up{v:Value}{S:List (List ar)}(h:cD ro v S)(hs:Sub ro aF):cD aF v S:=by
 obtain⟨ws,h1,h2⟩:=h
 exact⟨ws,h1.up hs,h2.imp fun _ _ k=>k.up hs⟩
theorem oz.up{v:Value}{w:List (List aO)}(h:oz ro v w)(hs:Sub ro aF):oz aF v w:=by
 obtain⟨ws,h1,h2⟩:=h
 exact⟨ws,h1.up hs,h2.imp fun _ _ k=>k.up hs⟩
theorem kF.up{cs:List cm}{hv:List bW}(h:kF ro vc vh cs hv hd)(hs:Sub ro aF):kF aF vc vh cs hv hd:=
 ⟨h.1.up hs,h.2.1.up hs,h.2.2.imp fun _ _ k=>⟨k.1,k.2.1,k.2.2.1,k.2.2.2.up hs⟩⟩
structure aE where
 ways:List (List aO)
 cs:List cm
 hd:List cF
 rules:List dq
 before:List aI
 after:List aI
 gone:Int
 new:Int
 af:Int
 facts:List eY
 str:List (List ar)
def fO(ro:Nat→Option Obj)(l:List Value)(k:aE):Prop:=∃(vS vT vc vh vr vb va vf:Value) (fa:Option Addr) (fc:Nat) (hv:List bW),
 l=[vS,vT,.slice fa 0 fc,vc,vh,vr,vb,va,zI k.gone,zI k.new,zI k.af,vf]∧cD ro vS k.str∧oz ro vT k.ways∧kF ro vc vh k.cs hv k.hd∧dc dN hv k.hd∧
 bJ ro vr 2 lE k.rules∧bJ ro vb 5 fX k.before∧bJ ro va 5 fX k.after∧bJ ro vf 3 y6 k.facts
def oB(hd:List cF)(i:Int):Prop:=i= -1∨(0≤i∧∃x,hd[i.toNat]?=some x∧0≤x.cls)
def CG(hd:List cF)(p:aI):Prop:=PY p.name∧oB hd p.head∧(0≤p.st∧p.st≤1)∧p.bold=false
def alC(hd:List cF)(p:aI):Prop:=CG hd p∧(p.st=0→p.no=1∨p.no=2)∧(p.st=1→p.no=1∨p.no=3)
def alD(hd:List cF)(p:aI):Prop:=CG hd p∧1≤p.no∧p.no≤3
def GU(hd:List cF)(p:aI):Prop:=((1≤p.name.size∧p.name.size≤6)∧Script p.name)∧oB hd p.head∧(0≤p.st∧p.st≤1)∧p.bold=false
def aqE(S:List (List ar))(hd:List cF)(p:aI):Prop:=GU hd p∧∃l,S[p.st.toNat]?=some l∧(⟨p.no,0⟩:ar)∈l
def aLD(hd:List cF)(p:aI):Prop:=GU hd p∧1≤p.no∧p.no≤40
structure aa3(cs:List cm)(hd:List cF):Prop where
 nc:0 <cs.length∧cs.length≤6
 nh:hd.length≤6
 B4:∀(i:Nat) (x:cF),hd[i]?=some x→iz cs.length hd.length i x
structure kg(k:aE):Prop where
 qM:eF k.str
 ways:k.ways.length≤1∧∀l∈k.ways,(1≤l.length∧l.length≤2)∧∀c∈l,gv c
 cR:aa3 k.cs k.hd
 rules:k.rules.length≤4
 before:k.before.length≤4∧∀p∈k.before,aqE k.str k.hd p
 after:k.after.length≤4∧∀p∈k.after,aLD k.hd p
 Az:(0≤k.gone∧k.gone≤4)∧(0≤k.new∧k.new≤4)∧(0≤k.af∧k.af≤4)
 facts:k.facts.length≤4∧(∀x∈k.facts,(0≤x.a∧x.a <k.before.length)∧(0≤x.b∧x.b <k.after.length))
 apart:k.facts.Pairwise fun x y=>¬(x.a=y.a∧x.b=y.b)
structure Uc(k:aE):Prop where
 ways:k.ways.length≤1∧∀l∈k.ways,(1≤l.length∧l.length≤2)∧∀c∈l,gv c
 cR:xX k.cs k.hd
 rules:k.rules.length≤2∧∀r∈k.rules,JB r
 before:k.before.length≤4∧∀p∈k.before,alC k.hd p
 after:k.after.length≤4∧∀p∈k.after,alD k.hd p
 Az:(0≤k.gone∧k.gone≤4)∧(0≤k.new∧k.new≤4)∧(0≤k.af∧k.af≤4)
 facts:k.facts.length≤4∧(∀x∈k.facts,(0≤x.a∧x.a <k.before.length)∧(0≤x.b∧x.b <k.after.length))
 apart:k.facts.Pairwise fun x y=>¬(x.a=y.a∧x.b=y.b)
 str:k.str=Ap
theorem abQ:eF Ap where
 two:=rfl
 len:=by simp[Ap]
 ok:=by simp[Ap,CE]
 asc:=by simp[Ap,anM]
theorem CG.c{p:aI}(h:CG hd p):GU hd p:=⟨⟨⟨h.1.1.1,by have:=h.1.1.2;omega⟩,h.1.2⟩,h.2⟩
theorem Uc.c{k:aE}(h:Uc k):kg k where
 qM:=by rw[h.str];exact abQ
 ways:=h.ways
 cR:=⟨⟨h.cR.nc.1,by have:=h.cR.nc.2;omega⟩,by have:=h.cR.nh;omega,fun i x hx=>(h.cR.B4 i x hx).2⟩
 rules:=by have:=h.rules.1;omega
 before:=⟨by have:=h.before.1;omega,fun p hp=>by
  obtain⟨h1,h2,h3⟩:=h.before.2 p hp
  refine⟨h1.c,?_⟩
  rw[h.str]
  have h4:=h1.2.2.1
  rcases(by omega:p.st=0∨p.st=1) with e|e
  ·rw[e];exact⟨_,rfl,by rcases h2 e with e2|e2<;>simp[e2]⟩
  rw[e];exact⟨_,rfl,by rcases h3 e with e2|e2<;>simp[e2]⟩⟩
 after:=⟨by have:=h.after.1;omega,fun p hp=>by
  obtain⟨h1,h2,h3⟩:=h.after.2 p hp
  exact⟨h1.c,h2,by omega⟩⟩
 Az:=h.Az
 facts:=⟨by have:=h.facts.1;omega,h.facts.2⟩
 apart:=h.apart
theorem yu{hv:List bW}(h:dc dN hv hd){i:Int}(k:i= -1∨Ya hv i):oB hd i:=by
 rcases k with k| ⟨k0,x,k1,k2⟩
 ·exact .inl k
 obtain⟨y,h1,h2⟩:=h.get k1
 exact .inr ⟨k0,y,h1,h2.2.1▸k2⟩
theorem Va{b c e:Nat}(h1:ro b=some (.cells ⟨[zI 1,zI 0,zI 2,zI 0]⟩ 81 (0,0)))(h2:ro c=some (.cells ⟨[zI 1,zI 0,zI 3,zI 0]⟩ 81 (0,0)))
 (h3:ro e=some (.cells ⟨[.slice (some ⟨b,0,none⟩) 2 2,.slice (some ⟨c,0,none⟩) 2 2]⟩ 82 (0,0))):cD ro (.slice (some ⟨e,0,none⟩) 2 2) Ap:=
 ⟨_,bX [_,_] h3 (fun _ _=>rfl),.cons (bX [(⟨1,0⟩:ar),⟨2,0⟩] h1 (fun _ _=>rfl)) (.cons (bX [(⟨1,0⟩:ar),⟨3,0⟩] h2 (fun _ _=>rfl)) .nil)⟩
def CH(nb na:Nat)(fs:List eY):Prop:=(∀x∈fs,(0≤x.a∧x.a <nb)∧(0≤x.b∧x.b <na))∧fs.Pairwise fun x y=>¬(x.a=y.a∧x.b=y.b)
theorem CH.snoc{nb na:Nat}(h:CH nb na fs){x:eY}(ha:0≤x.a∧x.a <nb)(hb:0≤x.b∧x.b <na)(hn:EV fs x.a x.b=false):CH nb na (fs++[x]):=by
 refine⟨rF h.1 ⟨ha,hb⟩,List.pairwise_append.2 ⟨h.2,List.pairwise_singleton _ _,fun y hy z hz e=>?_⟩⟩
 rw[List.mem_singleton] at hz;subst hz
 have:=List.any_eq_false.1 hn y hy
 simp[e.1,e.2] at this
theorem avO{w u:Int}(h:w∈[1,2,4,u])(hu:0≤u∧u≤4):0≤w∧w≤4:=by
 simp only[List.mem_cons,List.not_mem_nil,or_false] at h
 omega
theorem Ve:oz ro (zS) []:=⟨[],bJ.nil _ _ _ _ _,.nil⟩
end Go.L
