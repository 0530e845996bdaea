/- Part 19 of the proof: a program logic, contracts, a theorem on goroutines. -/
import Derived.Test.YtjpghiajlddegaaGreatDoorL18
set_option maxRecDepth 100000
set_option linter.all false
namespace Go.L
open Go Go.Conc Go.Proofs
variable {ys xs:List Int} {K:aZ} {l:List Value} {k n i:Nat} {x f y j b:Int} {α:Type}
def W0(S:List (List ah))(ways:List (List aL))(w:List Int)(x:aF):List aj:=match ways,w with
 |l::_,i::_=>(match l[i.toNat]? with
  |some c=>[ya S c ⟨x.st,x.no,0⟩]
  |none=>[])
 |_,_=>[⟨x.st,x.no,0⟩]
def WW(K:aZ):List (List Int):=(cP K.str K.ways).map (·.ways)
theorem Tk{l:List aL}{w:List Int}(h:K.ways=[l])(hw:w∈WW K):∃(i:Nat) (c:aL),l[i]?=some c∧w=[(i:Int)]:=by
 simp only[WW,h,cP,List.map_map,List.mem_map,List.mem_range,Function.comp,an1] at hw
 obtain⟨i,hi,rfl⟩:=hw
 exact⟨i,l[i],List.getElem?_eq_getElem hi,rfl⟩
theorem n9.wp(h:n9 K):xL K.ways:=⟨h.ways.1,fun l hl=>⟨⟨(h.ways.2 l hl).1.1,by have:=(h.ways.2 l hl).1.2;omega⟩,(h.ways.2 l hl).2⟩⟩
theorem Ut(h:n9 K):K.ways=[]∨∃l,K.ways=[l]:=by
 have:=h.ways.1
 match hw:K.ways,this with
 | [],_=>exact .inl rfl
 | [l],_=>exact .inr ⟨l,rfl⟩
theorem Zn(h:n9 K):Tj K (WW K):=by
 rcases Ut h with e| ⟨l,e⟩
 ·exact⟨by simp[WW,e,cP],fun w hw=>by simp[WW,e,cP] at hw;simp[hw,e],fun w hw k l n hl=>by simp[e] at hl⟩
 have hl:=(h.ways.2 l (by simp[e])).1
 refine⟨by simp[WW,e,cP];omega,fun w hw=>?_,fun w hw k l' n hk hn=>?_⟩
 ·obtain⟨i,c,_,rfl⟩:=Tk e hw;simp[e]
 obtain⟨i,c,hi,rfl⟩:=Tk e hw
 rw[e] at hk
 obtain⟨rfl,rfl⟩:=E6 hk
 obtain⟨rfl,_⟩:=E6 hn
 have:=(List.getElem?_eq_some_iff.1 hi).1
 omega
theorem ZJ{ro:Nat→Option Obj}(hK:gh ro l K)(hO:n9 K):qk ro l (WW K):=by
 obtain⟨vS,vT,vc,vh,vr,vb,va,vf,fa,fc,hv,rfl,hS,hT,_⟩:=hK
 intro aA hs
 exact akm (hS.up hs) hO.r8 (hT.up hs) hO.wp
theorem W9{S:List (List ah)}{hd:List bZ}{x:aF}(h:akY S hd x):(⟨x.st,x.no,0⟩:aj)∈bx S:=by
 obtain⟨l,h1,h2⟩:=h.2
 have:=FP h1 h2
 simp only[mg] at this
 rwa[show ((x.st.toNat:Nat):Int)=x.st by have:=h.1.2.2.1;omega] at this
theorem akA{l:List aL}{c:aL}(h:l[i]?=some c):(l.take ((i:Int).toNat+1)).drop (i:Int).toNat=[c]:=by
 rw[Int.toNat_natCast,eY h,List.drop_append_of_le_length (by have:=(List.getElem?_eq_some_iff.1 h).1;rw[List.length_take];omega),List.drop_eq_nil_of_le (by rw[List.length_take];omega)];rfl
theorem ahv{ro:Nat→Option Obj}(hK:gh ro l K)(hO:n9 K):wU ro l K (WW K) (W0 K.str K.ways):=by
 obtain⟨vS,vT,vc,vh,vr,vb,va,vf,fa,fc,hv,rfl,hS,hT,_⟩:=hK
 intro w hw x hx
 have hy:=W9 (hO.before.2 x hx)
 have fin:∀(t:TrD),xL (Ao K.ways w)→cP K.str (Ao K.ways w)=[t]→W0 K.str K.ways w x=[t.g ⟨x.st,x.no,0⟩]→(W0 K.str K.ways w x).length≤1000∧∀aA,Sub ro aA→∀v vS' vT' vU r,[vS,vT,.slice fa 0 fc,vc,vh,vr,vb,va,zI K.gone,zI K.new,zI K.af,vf]=vS'::vT'::vU::r→nu aA v (Ao K.ways w)→
  eo zT 64 [.agg ⟨[vS',v,vU]⟩,.agg ⟨[zI x.st,zI x.no,zI 0]⟩] aA [] (fun r Y=>∃a n c,r= .tuple ⟨[.slice a n c,zI 0]⟩∧∀lB,Knows lB Y→bI lB (.slice a n c) 3 cw (W0 K.str K.ways w x)):=by
  intro t h1 h2 h3
  rw[h3]
  refine⟨by simp,fun aA hs v vS' vT' vU r he hv=>?_⟩
  simp only[List.cons.injEq] at he
  obtain⟨rfl,_,rfl,_⟩:=he
  exact asQ (hS.up hs) hO.r8 hv h1 hy h2
 rcases Ut hO with e| ⟨l,e⟩
 ·refine fin ⟨[],id⟩ ?_ ?_ ?_
  ·rw[e];exact⟨by simp[Ao],by simp[Ao]⟩
  ·rw[e];simp[Ao,cP]
  rw[e];rfl
 obtain⟨i,c,hi,rfl⟩:=Tk e hw
 have hc:Ao K.ways [(i:Int)]=[[c]]:=by rw[e];simp only[Ao,List.zipWith_cons_cons,List.zipWith_nil_right,akA hi]
 refine fin ⟨[0],ya K.str c⟩ ?_ ?_ ?_
 ·rw[hc]
  refine⟨by simp,fun l' hl=>?_⟩
  rw[List.mem_singleton] at hl;subst hl
  exact⟨by simp,fun c' sA=>by rw[List.mem_singleton] at sA;subst sA;exact(hO.ways.2 l (by simp[e])).2 _ (List.mem_of_getElem? hi)⟩
 ·rw[hc];rfl
 rw[e];simp only[W0,Int.toNat_natCast,hi]
def iN(K:aZ):List bK:=(WW K).map (kZ K (W0 K.str K.ways))
theorem mb(h:n9 K):(iN K).length≤2:=by
 rw[iN,List.length_map];exact(Zn h).n.2
theorem tT{ro:Nat→Option Obj}(hK:gh ro l K)(hO:n9 K)(hV:fH K):iK ro l K (iN K):=
 akR hK hO hV (Zn hO) (ZJ hK hO) (ahv hK hO)
def sY(K:aZ):Nat:=(eW K (dg K) (di K.gone K.new K.af) (iN K)).length
theorem Gg:∀(l:List Int) (a:Int),l.foldl min a≤a∧∀x∈l,l.foldl min a≤x
 | [],a=>⟨Int.le_refl _,fun _ h=>(by cases h)⟩
 |y::l,a=>by
  obtain⟨h1,h2⟩:=Gg l (min a y)
  refine⟨by simp only[List.foldl_cons];omega,fun x hx=>?_⟩
  rcases List.mem_cons.1 hx with rfl|hx
  ·simp only[List.foldl_cons];omega
  exact h2 x hx
theorem tF{l:List Int}(h:x∈l):iD l≤x:=by
 cases l with
 |nil=>cases h
 |cons y l=>
  rcases List.mem_cons.1 h with rfl|h
  ·exact(Gg l _).1
  exact(Gg l _).2 x h
theorem aje{ro:Nat→Option Obj}(hK:gh ro l K)(hO:n9 K)(hV:fH K):B4 zT 44 [.agg ⟨l⟩] ro [] (fun r Y=>∃zs m e,zs.Perm (eW K (dg K) (fun _=>true) (iN K))∧Y=[]∧r= .tuple ⟨[zI m,zI e]⟩∧((zs=[]∧m=0∧e=9)∨(zs≠[]∧m=iD (zs.map Ex)∧e=0))):=
 fun fr=>Fn.mono (apS hK hV (mb hO) (tT hK hO hV) fr) fun en s' ⟨v,Y,h1,h2,zs,h3,h4,h5⟩=>⟨v,Y,h1,h2,by
  rcases h5 with ⟨h5,h6⟩| ⟨h5,h6⟩
  ·exact⟨zs,0,9,h3,h4,h6,.inl ⟨h5,rfl,rfl⟩⟩
  exact⟨zs,_,0,h3,h4,h6,.inr ⟨h5,rfl,rfl⟩⟩⟩
theorem ab0{ro:Nat→Option Obj}(hK:gh ro l K)(hO:n9 K)(hV:fH K):B4 zT 11 [.agg ⟨l⟩] ro [] (fun r Y=>r= .tuple ⟨[zI (sY K:Int),zI 0]⟩∧Y=[]):=ab1 hK hV (mb hO) (tT hK hO hV)
def Yb:List Int→List Int→Bool
 | [],[]=>true
 |x::l,y::m=>decide (x=y)&&Yb l m
 |_,_=>false
theorem afl:∀ {l m:List Int},¬l.length=m.length→Yb l m=false
 | [],[],h=>absurd rfl h
 | [],_::_,_=>rfl
 |_::_,[],_=>rfl
 |x::l,y::m,h=>by rw[Yb,afl (l:=l) (m:=m) (by simpa using h),Bool.and_false]
theorem afm(hx:xs[k]?=some x) (hy:ys[k]?=some y):Yb (xs.drop k) (ys.drop k)=(decide (x=y)&&Yb (xs.drop (k+1)) (ys.drop (k+1))):=by rw[fN hx,fN hy];rfl
theorem akt(hx:¬k <xs.length)(h:xs.length=ys.length):Yb (xs.drop k) (ys.drop k)=true:=by rw[eF hx,eF (by omega)];rfl
def HN:List (List Int)→List (List Int)→Bool
 | [],[]=>true
 |x::l,y::m=>Yb x y&&HN l m
 |_,_=>false
theorem VG:∀ {l m:List (List Int)},¬l.length=m.length→HN l m=false
 | [],[],h=>absurd rfl h
 | [],_::_,_=>rfl
 |_::_,[],_=>rfl
 |x::l,y::m,h=>by rw[HN,VG (l:=l) (m:=m) (by simpa using h),Bool.and_false]
theorem VH{xs ys:List (List Int)}{x y:List Int}(hx:xs[k]?=some x) (hy:ys[k]?=some y):HN (xs.drop k) (ys.drop k)=(Yb x y&&HN (xs.drop (k+1)) (ys.drop (k+1))):=by rw[fN hx,fN hy];rfl
theorem afk{xs ys:List (List Int)}(hx:¬k <xs.length)(h:xs.length=ys.length):HN (xs.drop k) (ys.drop k)=true:=by rw[eF hx,eF (by omega)];rfl
def xI:List Int→List Int→Int
 | [],[]=>0
 | [],_::_=> -1
 |_::_,[]=>1
 |x::xs,y::ys=>if qv x y=0 then xI xs ys else qv x y
theorem Pr(hx:xs[k]?=some x) (hy:ys[k]?=some y):xI (xs.drop k) (ys.drop k)=if qv x y=0 then xI (xs.drop (k+1)) (ys.drop (k+1)) else qv x y:=by rw[fN hx,fN hy];rfl
theorem Yh(hx:xs[k]?=some x) (hy:¬k <ys.length):xI (xs.drop k) (ys.drop k)=1:=by rw[fN hx,eF hy];rfl
theorem Jl(hx:¬k <xs.length):xI (xs.drop k) (ys.drop k)=if k <ys.length then-1 else 0:=by
 rw[eF hx]
 split
 ·rename_i h
  rw[List.drop_eq_getElem_cons h];rfl
 rename_i h
 rw[eF h];rfl
def lH(f:Int):Nat→List Int
 |0=>[]
 |k+1=>lH f k++(bif hasB f k then [(k:Int)] else [])
theorem aiT(h:hasB f (k:Int)=true):lH f (k+1)=lH f k++[(k:Int)]:=by rw[lH,h];rfl
theorem aiU(h:hasB f (k:Int)=false):lH f (k+1)=lH f k:=by rw[lH,h];exact List.append_nil _
theorem IL(f:Int)(n:Nat):(lH f n).length≤n:=by
 induction n with
 |zero=>exact Nat.le_refl _
 |succ n ih=>rw[lH,List.length_append];cases hasB f (n:Int)<;>simp<;>omega
def xX(f:Int):Int:=([0,1,1,2,1,2,2,3,1,2,2,3,2,3,3,4]:List Int).getD f.toNat 0
theorem Uo(h:0≤f∧f <16):0≤xX f∧xX f≤8:=by
 obtain⟨n,rfl⟩:=Int.eq_ofNat_of_zero_le h.1
 have h2:n <16:=by omega
 revert h2
 exact(by decide:∀n:Nat,n <16→0≤xX (n:Int)∧xX (n:Int)≤8) n
def Pp(x y:Int):Int:=if xX x-xX y=0 then xI (lH x 4) (lH y 4) else xX x-xX y
theorem amV{v w:Value}{ro:Nat→Option Obj}(hv:bI ro v 1 cJ xs)(hw:bI ro w 1 cJ ys)(hx:xs.length≤1000)(hy:ys.length≤1000):dz zT 13 [v,w] ro (.bool (Yb xs ys)):=by
 obtain⟨Nd,qvb,qvo,C2,rfl,qvk,Q0,QZ⟩:=hv
 obtain⟨QX,qwb,qwo,JR,rfl,qwk,qwh,qwl⟩:=hw
 refine bA au [] [] bn<|zD 13<|js 10 (!decide ((xs.length:Int)=(ys.length:Int))) (fun h1=>?_) (fun h1=>?_)
 ·
  replace h1:=of_decide_eq_false (by simpa using h1)
  refine zD 6<|aE q0 (.bool false) [] [] [] (Sub.refl _) ⟨_,_,rfl,rfl,by rw[afl (by omega)],rfl⟩
 replace h1:=of_decide_eq_true (by simpa using h1)
 refine zD 8<|ez [1,1,0,1,0,0] [] (fun(zz:Nat)=>[(0,.slice Nd xs.length C2),(1,.slice QX ys.length JR),(5,zI (zz:Int))]) (fun(zz:Nat)=>[]) (fun(zz:Nat)=>zz≤xs.length∧Yb xs ys=Yb (xs.drop zz) (ys.drop zz)) (fun(zz:Nat)=>xs.length-zz) 0 ⟨by omega,rfl⟩ [] ?_
 rintro k hI K1 bM rest
 refine zD 8<|zJ 14 ((k:Int) <(xs.length:Int)) (fun h2=>?_) fun h2=>?_
 ·
  refine zD 8 ?_
  obtain⟨DK,xk⟩:=zG xs k
  refine ij C2 1 Q0 xk<|jl 0 (QZ _ _ xk)<|zD 2 ?_
  obtain⟨uG,sq⟩:=zG ys k
  refine ij JR 1 qwh sq<|jl 0 (qwl _ _ sq)<|zD 2<|js 25 (!decide (DK=uG)) (fun h3=>?_) (fun h3=>?_)
  ·
   replace h3:=of_decide_eq_false (by simpa using h3)
   refine zD 6<|aE q0 (.bool false) [] [] [] (Sub.refl _) ⟨_,_,rfl,rfl,by rw[hI.2,afm xk sq,decide_eq_false (by omega),Bool.false_and],rfl⟩
  replace h3:=of_decide_eq_true (by simpa using h3)
  refine zD 4<|ja ((k:Int)+1) (by omega)<|zD 2<|bO bM (k+1) ⟨by omega,by rw[hI.2,afm xk sq,decide_eq_true (by omega),Bool.true_and]⟩ (by omega) [] (Sub.refl _)
 refine zD 7<|aE q0 (.bool true) [] [] [] (Sub.refl _) ⟨_,_,rfl,rfl,by rw[hI.2,akt (by omega) (by omega)],rfl⟩
theorem aMN{v w:Value}{ro:Nat→Option Obj}(hv:bI ro v 1 cJ xs)(hw:bI ro w 1 cJ ys)(hx:xs.length≤1000)(hy:ys.length≤1000):dz zT 71 [v,w] ro (zI (xI xs ys)):=by
 obtain⟨Nd,qvb,qvo,C2,rfl,qvk,Q0,QZ⟩:=hv
 obtain⟨QX,qwb,qwo,JR,rfl,qwk,qwh,qwl⟩:=hw
 refine bA au [] [] bn<|zD 12<|ez [1,0,1,0,0] [] (fun(zz:Nat)=>[(0,.slice Nd xs.length C2),(1,.slice QX ys.length JR),(9,.slice Nd xs.length C2),(10,zI (xs.length:Int)),(11,zI (zz:Int))]) (fun(zz:Nat)=>[]) (fun(zz:Nat)=>(zz≤xs.length∧zz≤ys.length)∧xI xs ys=xI (xs.drop zz) (ys.drop zz)) (fun(zz:Nat)=>xs.length-zz) 0 ⟨by omega,rfl⟩ [] ?_
 rintro k hI K1 bM rest
 refine zD 5<|zJ 12 ((k:Int) <(xs.length:Int)) (fun h1=>?_) fun h1=>?_
 ·
  refine zD 7 ?_
  obtain⟨fC,eA⟩:=zG xs k
  refine ij C2 1 Q0 eA<|jl 0 (QZ _ _ eA)<|zD 11<|zJ 19 ((k:Int)≥(ys.length:Int)) (fun h2=>?_) fun h2=>?_
  ·
   refine zD 6<|aE q0 (zI 1) [] [] [] (Sub.refl _) ⟨_,_,rfl,rfl,by rw[hI.2,Yh eA (by omega)],rfl⟩
  refine zD 6 ?_
  obtain⟨rG,tI⟩:=zG ys k
  refine ij JR 1 qwh tI<|jl 0 (qwl _ _ tI)<|zD 6<|jp (vs:=[zI fC,zI rG]) [] [] (fun aA hs hZ=>asW)<|zD 7<|js 28 (!decide ((qv fC rG)=0)) (fun h3=>?_) (fun h3=>?_)
  ·
   replace h3:=of_decide_eq_false (by simpa using h3)
   refine zD 7<|aE q0 (zI (qv fC rG)) [] [] [] (Sub.refl _) ⟨_,_,rfl,rfl,by rw[hI.2,Pr eA tI,if_neg (by omega)],rfl⟩
  replace h3:=of_decide_eq_true (by simpa using h3)
  refine zD 3<|ja ((k:Int)+1) (by omega)<|zD 2<|bO bM (k+1) ⟨by omega,by rw[hI.2,Pr eA tI,if_pos (by omega)]⟩ (by omega) [] (Sub.refl _)
 refine zD 11<|zJ 35 ((xs.length:Int) <(ys.length:Int)) (fun h4=>?_) fun h4=>?_
 ·
  refine zD 6<|aE q0 (zI (-1)) [] [] [] (Sub.refl _) ⟨_,_,rfl,rfl,by rw[hI.2,Jl (by omega),if_pos (by omega)],rfl⟩
 refine zD 7<|aE q0 (zI 0) [] [] [] (Sub.refl _) ⟨_,_,rfl,rfl,by rw[hI.2,Jl (by omega),if_neg (by omega)],rfl⟩
theorem ae6{ro:Nat→Option Obj}:eo zT 38 [.int .u8 f] ro [] (fun r Y=>∃L,az r 1 3 cJ (lH f 4) L∧Y=L):=by
 refine bA au [] [] bn<|zD 14<|pQ<|ez [1,1,0,1,0,0] [] (fun(zz:Nat×Value×Cells)=>[(0,.int .u8 f),(2,zS),(3,zz.2.1),(5,zI (zz.1:Int))]) (fun(zz:Nat×Value×Cells)=>[.l zz.2.2]) (fun(zz:Nat×Value×Cells)=>zz.1≤4∧az zz.2.1 1 3 cJ (lH f zz.1) zz.2.2) (fun(zz:Nat×Value×Cells)=>4-zz.1) (⟨0,zS,[]⟩) ⟨by dsimp only;omega,az.nil _ _ _⟩ [0] ?_
 rintro⟨k,v,L⟩ hI K1 bM rest
 dsimp only at hI
 have hll:=IL f k
 refine zD 5<|zJ 6 ((k:Int) <4) (fun h1=>?_) fun h1=>?_
 ·
  refine zD 13<|jp (vs:=[.int .u8 f,zI (k:Int)]) [] [] (fun aA hs hZ=>(apX (by omega)))<|zD 1<|js 10 (hasB f (k:Int)) (fun h2=>?_) (fun h2=>?_)
  ·
   refine zD 4<|jn fun yP=>ku (sz:=1) (ps:=(lH f k)) (qs:=[(k:Int)]) (enc:=cJ) (w:= .slice (some ⟨yP,0,none⟩) 1 1) [1] [0] [(yP,.cells ⟨([(k:Int)].map cJ).flatten⟩ 3 (0,0))] (hI.2) (fun s _ hZ=>bX [(k:Int)] (hZ _ (.head _)) (by intro p hp;rfl)) (fun p _=>an rfl) (by simp<;>omega) (fun v14 L14 tL=>?_)
   obtain⟨Jz,Hn,xp⟩:=tL.form
   subst xp
   refine zD 3<|ja ((k:Int)+1) (by omega)<|zD 2<|bO bM (⟨k+1,(.slice Jz (((lH f k)++[(k:Int)])).length Hn),L14⟩) ⟨by dsimp only;omega,by dsimp only;rw[aiT (by assumption)];exact tL⟩ (by dsimp only;omega) [0] (Sub.refl _)
  refine zD 3<|ja ((k:Int)+1) (by omega)<|zD 2<|bO bM (⟨k+1,v,L⟩) ⟨by dsimp only;omega,by dsimp only;rw[aiU (by assumption)];exact hI.2⟩ (by dsimp only;omega) [0] (Sub.refl _)
 refine zD 8<|aE q0 (v) [] [0] L (Sub.refl _) ⟨_,_,rfl,rfl,_,(by rw[←show k=4 by omega];exact hI.2),rfl⟩
theorem apO{ro:Nat→Option Obj}:dz zT 70 [.int .u8 0] ro (zI 0):=by
 refine bA au [] [] bn<|zD 12<|aE q0 (zI 0) [] [] [] (Sub.refl _) ⟨_,_,rfl,rfl,rfl,rfl⟩
theorem apN{ro:Nat→Option Obj}:dz zT 70 [.int .u8 1] ro (zI 1):=by
 refine bA au [] [] bn<|zD 12<|aE q0 (zI 1) [] [] [] (Sub.refl _) ⟨_,_,rfl,rfl,rfl,rfl⟩
theorem apM{ro:Nat→Option Obj}:dz zT 70 [.int .u8 2] ro (zI 1):=by
 refine bA au [] [] bn<|zD 12<|aE q0 (zI 1) [] [] [] (Sub.refl _) ⟨_,_,rfl,rfl,rfl,rfl⟩
theorem apL{ro:Nat→Option Obj}:dz zT 70 [.int .u8 3] ro (zI 2):=by
 refine bA au [] [] bn<|zD 12<|aE q0 (zI 2) [] [] [] (Sub.refl _) ⟨_,_,rfl,rfl,rfl,rfl⟩
theorem apK{ro:Nat→Option Obj}:dz zT 70 [.int .u8 4] ro (zI 1):=by
 refine bA au [] [] bn<|zD 12<|aE q0 (zI 1) [] [] [] (Sub.refl _) ⟨_,_,rfl,rfl,rfl,rfl⟩
theorem apJ{ro:Nat→Option Obj}:dz zT 70 [.int .u8 5] ro (zI 2):=by
 refine bA au [] [] bn<|zD 12<|aE q0 (zI 2) [] [] [] (Sub.refl _) ⟨_,_,rfl,rfl,rfl,rfl⟩
theorem apI{ro:Nat→Option Obj}:dz zT 70 [.int .u8 6] ro (zI 2):=by
 refine bA au [] [] bn<|zD 12<|aE q0 (zI 2) [] [] [] (Sub.refl _) ⟨_,_,rfl,rfl,rfl,rfl⟩
theorem apH{ro:Nat→Option Obj}:dz zT 70 [.int .u8 7] ro (zI 3):=by
 refine bA au [] [] bn<|zD 12<|aE q0 (zI 3) [] [] [] (Sub.refl _) ⟨_,_,rfl,rfl,rfl,rfl⟩
theorem apG{ro:Nat→Option Obj}:dz zT 70 [.int .u8 8] ro (zI 1):=by
 refine bA au [] [] bn<|zD 12<|aE q0 (zI 1) [] [] [] (Sub.refl _) ⟨_,_,rfl,rfl,rfl,rfl⟩
theorem apF{ro:Nat→Option Obj}:dz zT 70 [.int .u8 9] ro (zI 2):=by
 refine bA au [] [] bn<|zD 12<|aE q0 (zI 2) [] [] [] (Sub.refl _) ⟨_,_,rfl,rfl,rfl,rfl⟩
theorem aja{ro:Nat→Option Obj}:dz zT 70 [.int .u8 10] ro (zI 2):=by
 refine bA au [] [] bn<|zD 12<|aE q0 (zI 2) [] [] [] (Sub.refl _) ⟨_,_,rfl,rfl,rfl,rfl⟩
theorem ai9{ro:Nat→Option Obj}:dz zT 70 [.int .u8 11] ro (zI 3):=by
 refine bA au [] [] bn<|zD 12<|aE q0 (zI 3) [] [] [] (Sub.refl _) ⟨_,_,rfl,rfl,rfl,rfl⟩
theorem ai8{ro:Nat→Option Obj}:dz zT 70 [.int .u8 12] ro (zI 2):=by
 refine bA au [] [] bn<|zD 12<|aE q0 (zI 2) [] [] [] (Sub.refl _) ⟨_,_,rfl,rfl,rfl,rfl⟩
theorem ai7{ro:Nat→Option Obj}:dz zT 70 [.int .u8 13] ro (zI 3):=by
 refine bA au [] [] bn<|zD 12<|aE q0 (zI 3) [] [] [] (Sub.refl _) ⟨_,_,rfl,rfl,rfl,rfl⟩
theorem ai6{ro:Nat→Option Obj}:dz zT 70 [.int .u8 14] ro (zI 3):=by
 refine bA au [] [] bn<|zD 12<|aE q0 (zI 3) [] [] [] (Sub.refl _) ⟨_,_,rfl,rfl,rfl,rfl⟩
theorem ai5{ro:Nat→Option Obj}:dz zT 70 [.int .u8 15] ro (zI 4):=by
 refine bA au [] [] bn<|zD 12<|aE q0 (zI 4) [] [] [] (Sub.refl _) ⟨_,_,rfl,rfl,rfl,rfl⟩
theorem alZ{ro:Nat→Option Obj}(h:0≤f∧f <16):dz zT 70 [.int .u8 f] ro (zI (xX f)):=by
 obtain rfl|rfl|rfl|rfl|rfl|rfl|rfl|rfl|rfl|rfl|rfl|rfl|rfl|rfl|rfl|rfl:=(by omega:f=0∨f=1∨f=2∨f=3∨f=4∨f=5∨f=6∨f=7∨f=8∨f=9∨f=10∨f=11∨f=12∨f=13∨f=14∨f=15)
 ·exact apO
 ·exact apN
 ·exact apM
 ·exact apL
 ·exact apK
 ·exact apJ
 ·exact apI
 ·exact apH
 ·exact apG
 ·exact apF
 ·exact aja
 ·exact ai9
 ·exact ai8
 ·exact ai7
 ·exact ai6
 exact ai5
def LL(ro:Nat→Option Obj)(v:Value)(W:List (List Int)):Prop:=∃ws,bI ro v 1 iQ ws∧dD (fun w l=>bI ro w 1 cJ l) ws W
theorem as6{v w:Value}{ws us:List Value}{W U:List (List Int)}{ro:Nat→Option Obj}(hv:bI ro v 1 iQ ws)(hw:bI ro w 1 iQ us)(ha:dD (fun w l=>bI ro w 1 cJ l) ws W)(hb:dD (fun w l=>bI ro w 1 cJ l) us U)(hx:W.length≤1000)(hy:U.length≤1000)(hW:∀l∈W,l.length≤1000)(hU:∀l∈U,l.length≤1000):dz zT 22 [v,w] ro (.bool (HN W U)):=by
 obtain⟨Nd,qvb,qvo,C2,rfl,qvk,Q0,QZ⟩:=hv
 obtain⟨QX,qwb,qwo,JR,rfl,qwk,qwh,qwl⟩:=hw
 have hla:=ha.len
 have hlb:=hb.len
 refine bA au [] [] bn<|zD 13<|js 10 (!decide ((ws.length:Int)=(us.length:Int))) (fun h1=>?_) (fun h1=>?_)
 ·
  replace h1:=of_decide_eq_false (by simpa using h1)
  refine zD 6<|aE q0 (.bool false) [] [] [] (Sub.refl _) ⟨_,_,rfl,rfl,by rw[VG (by omega)],rfl⟩
 replace h1:=of_decide_eq_true (by simpa using h1)
 refine zD 8<|ez [1,1,0,1,0,0] [] (fun(zz:Nat)=>[(0,.slice Nd ws.length C2),(1,.slice QX us.length JR),(5,zI (zz:Int))]) (fun(zz:Nat)=>[]) (fun(zz:Nat)=>zz≤W.length∧HN W U=HN (W.drop zz) (U.drop zz)) (fun(zz:Nat)=>W.length-zz) 0 ⟨by omega,rfl⟩ [] ?_
 rintro k hI K1 bM rest
 refine zD 8<|zJ 14 ((k:Int) <(ws.length:Int)) (fun h2=>?_) fun h2=>?_
 ·
  refine zD 8 ?_
  obtain⟨DK,xk⟩:=zG ws k
  refine ij C2 1 Q0 xk ?_
  obtain⟨l20,ard,h20⟩:=ha.get xk
  obtain aq4:=hW _ (List.mem_of_getElem? ard)
  obtain⟨axj,aLt,aLp,axi,rfl,aLr,aLs,aLq⟩:=h20
  refine jl 0 (QZ _ _ xk)<|zD 2 ?_
  obtain⟨uG,sq⟩:=zG us k
  refine ij JR 1 qwh sq ?_
  obtain⟨Rw,Sa,h24⟩:=hb.get sq
  obtain azy:=hU _ (List.mem_of_getElem? Sa)
  obtain⟨aoS,axc,axa,aaI,rfl,axb,aii,aih⟩:=h24
  refine jl 0 (qwl _ _ sq)<|jp (vs:=[.slice axj l20.length axi,.slice aoS Rw.length aaI]) [] [] (fun aA hs hZ=>amV ((show bI _ _ _ _ _ from ⟨axj,aLt,aLp,axi,rfl,aLr,aLs,aLq⟩).up hs) ((show bI _ _ _ _ _ from ⟨aoS,axc,axa,aaI,rfl,axb,aii,aih⟩).up hs) aq4 azy)<|zD 2<|js 26 (!(Yb l20 Rw)) (fun h3=>?_) (fun h3=>?_)
  ·
   try simp only[zB] at h3
   refine zD 6<|aE q0 (.bool false) [] [] [] (Sub.refl _) ⟨_,_,rfl,rfl,by rw[hI.2,VH ard Sa];simp_all,rfl⟩
  try simp only[zB] at h3
  refine zD 4<|ja ((k:Int)+1) (by omega)<|zD 2<|bO bM (k+1) ⟨by omega,by rw[hI.2,VH ard Sa];simp_all⟩ (by omega) [] (Sub.refl _)
 refine zD 7<|aE q0 (.bool true) [] [] [] (Sub.refl _) ⟨_,_,rfl,rfl,by rw[hI.2,afk (by omega) (by omega)],rfl⟩
theorem NW:(lH f 4).length≤1000:=Nat.le_trans (IL f 4) (by decide)
def C9:Nat→List Int→List Int
 |0,ys=>ys
 |j+1,ys=>if Pp (ys.getD (j+1) 0) (ys.getD j 0) <0 then C9 j ((ys.set (j+1) (ys.getD j 0)).set j (ys.getD (j+1) 0)) else ys
def EA:Nat→Nat→List Int→List Int
 |0,_,ys=>ys
 |n+1,i,ys=>EA n (i+1) (C9 i ys)
def Cc(xs:List Int):List Int:=EA (xs.length-1) 1 xs
theorem Xp(h:¬j>0):C9 j.toNat ys=ys:=by rw[show j.toNat=0 by omega];rfl
theorem akk(h:ys[i]?=some x):ys.getD i 0=x:=by rw[List.getD_eq_getElem?_getD,h];rfl
theorem Xq(hj:j>0)(hx:ys[j.toNat]?=some x) (hy:ys[(j-1).toNat]?=some y) (h:¬Pp x y <0):C9 j.toNat ys=ys:=by
 have e:j.toNat=(j-1).toNat+1:=by omega
 rw[e] at hx ⊢
 rw[C9,akk hx,akk hy,if_neg h]
theorem U3{x' y':Int}(hj:j>0)(hx:ys[j.toNat]?=some x) (hy:ys[(j-1).toNat]?=some y) (kJ:ys[j.toNat]?=some x') (PW:ys[(j-1).toNat]?=some y') (h:Pp x y <0):C9 j.toNat ys=C9 (j-1).toNat ((ys.set j.toNat y').set (j-1).toNat x'):=by
 rw[hx] at kJ;rw[hy] at PW;cases kJ;cases PW
 have e:j.toNat=(j-1).toNat+1:=by omega
 rw[e] at hx ⊢
 rw[C9,akk hx,akk hy,if_pos h]
def LW(v:Value)(xs:List Int)(Y:Cells):Prop:=∃ys,ys=Cc xs∧az v 1 99 Qe ys Y
theorem QA{i:Int}(h:Cc xs=EA (n-i.toNat) i.toNat ys)(hi:0≤i∧i <n):Cc xs=EA (n-(i+1).toNat) (i+1).toNat (C9 i.toNat ys):=by
 rw[h,show n-i.toNat=(n-(i+1).toNat)+1 by omega,show (i+1).toNat=i.toNat+1 by omega];rfl
theorem Ws{i:Int}(h:Cc xs=EA (n-i.toNat) i.toNat ys)(hi:¬i <n):ys=Cc xs:=by
 rw[h,show n-i.toNat=0 by omega];rfl
theorem aMc{ro:Nat→Option Obj}(hx:0≤x∧x <16)(hy:0≤y∧y <16):dz zT 69 [.int .u8 x,.int .u8 y] ro (zI (Pp x y)):=by
 have hpx:=Uo hx
 have hpy:=Uo hy
 refine bA au [] [] bn<|zD 8<|jp (vs:=[.int .u8 x]) [] [] (fun aA hs hZ=>(alZ hx))<|zD 1<|jp (vs:=[.int .u8 y]) [] [] (fun aA hs hZ=>(alZ hy))<|ja ((xX x)-(xX y)) (by omega)<|zD 7<|js 12 (!decide (((xX x)-(xX y))=0)) (fun h1=>?_) (fun h1=>?_)
 ·
  replace h1:=of_decide_eq_false (by simpa using h1)
  refine zD 7<|aE q0 (zI ((xX x)-(xX y))) [] [] [] (Sub.refl _) ⟨_,_,rfl,rfl,by rw[Pp,if_neg (by omega)],rfl⟩
 replace h1:=of_decide_eq_true (by simpa using h1)
 refine zD 5<|jc (vs:=[.int .u8 x]) [] (ae6) ?_
 rintro v15 L15 ⟨_,aqS,rfl⟩
 refine zD 1<|jc (vs:=[.int .u8 y]) [] (ae6) ?_
 rintro v17 L17 ⟨_,BB,rfl⟩
 refine jp (vs:=[v15,v17]) [1,0] (L15++L17) (fun aA hs hZ=>aMN (aqS.ma hZ.left) (BB.ma hZ.right) NW NW)<|zD 3<|aE q0 (zI (xI (lH x 4) (lH y 4))) [] [] [] (Sub.refl _) ⟨_,_,rfl,rfl,by rw[Pp,if_pos (by omega)],rfl⟩
theorem aMb{v:Value}{L:Cells}{ro:Nat→Option Obj}(ho:az v 1 99 Qe xs L)(hN:xs.length≤12)(hM:∀m∈xs,0≤m∧m <16):eo zT 123 [v,zI 0,zI (xs.length:Int),.func (.func 69) ⟨[]⟩ ⟨[]⟩] ro L (fun r Y=>LW v xs Y):=by
 refine bA au [.l L] [] bn<|zD 7<|ez [1,0,0] [] (fun(zz:Int×(List Int)×Cells)=>[(0,v),(1,zI 0),(2,zI (xs.length:Int)),(3,.func (.func 69) ⟨[]⟩ ⟨[]⟩),(8,zI zz.1)]) (fun(zz:Int×(List Int)×Cells)=>[.l zz.2.2]) (fun(zz:Int×(List Int)×Cells)=>(1≤zz.1)∧az v 1 99 Qe zz.2.1 zz.2.2∧zz.2.1.Perm xs∧Cc xs=EA (xs.length-zz.1.toNat) zz.1.toNat zz.2.1) (fun(zz:Int×(List Int)×Cells)=>((xs.length:Int)-zz.1).toNat) (⟨1,xs,L⟩) ⟨by dsimp only;omega,ho,.refl _,rfl⟩ [0] ?_
 rintro⟨i,ys,L⟩ hI K1 bM rest
 dsimp only at hI
 have U5:=hI.2.2.1.length_eq
 have hym:∀m∈ys,0≤m∧m <16:=fun m hm=>hM m (hI.2.2.1.mem_iff.1 hm)
 refine zD 7<|zJ 14 (i <(xs.length:Int)) (fun h1=>?_) fun h1=>?_
 ·
  refine zD 10<|ez [1,0,0,1,0,0,1,0,0] [K1] (fun(zz:Int×(List Int)×Cells)=>[(0,v),(1,zI 0),(2,zI (xs.length:Int)),(3,.func (.func 69) ⟨[]⟩ ⟨[]⟩),(8,zI i),(9,zI zz.1)]) (fun(zz:Int×(List Int)×Cells)=>[.l zz.2.2]) (fun(zz:Int×(List Int)×Cells)=>(0≤zz.1∧zz.1≤i)∧az v 1 99 Qe zz.2.1 zz.2.2∧zz.2.1.Perm xs∧Cc xs=EA (xs.length-(i+1).toNat) (i+1).toNat (C9 zz.1.toNat zz.2.1)) (fun(zz:Int×(List Int)×Cells)=>zz.1.toNat) (⟨i,ys,L⟩) ⟨by dsimp only;omega,hI.2.1,hI.2.2.1,QA hI.2.2.2 (by omega)⟩ [0] ?_
  rintro⟨j,ys,L⟩ hJ K2 mo rest
  dsimp only at hJ
  have U5:=hJ.2.2.1.length_eq
  have hym:∀m∈ys,0≤m∧m <16:=fun m hm=>hM m (hJ.2.2.1.mem_iff.1 hm)
  refine zD 7<|js 3 (decide (j>0)) (fun h2=>?_) (fun h2=>?_)
  ·
   have kF:=h2
   replace kF:=of_decide_eq_true kF
   refine zD 3 ?_
   obtain⟨xN,kQ⟩:=zG ys (j.toNat) (by first|omega| (simp only[List.length_set];omega))
   refine pP j 1 hJ.2.1 kQ (Int.toNat_of_nonneg (show 0≤j∧j <((ys).length:Int) from (by first|omega| (simp only[List.length_set];omega))).1).symm (fun dL adX=>?_)
   refine oJ 0 [0] L (fun s _ hZ=>cv hJ.2.1 adX hZ kQ)<|zD 2<|ja (j-1) (by omega) ?_
   obtain⟨od,jQ⟩:=zG ys ((j-1).toNat) (by first|omega| (simp only[List.length_set];omega))
   refine pP (j-1) 1 hJ.2.1 jQ (Int.toNat_of_nonneg (show 0≤(j-1)∧(j-1) <((ys).length:Int) from (by first|omega| (simp only[List.length_set];omega))).1).symm (fun b30 Sn=>?_)
   refine oJ 0 [0] L (fun s _ hZ=>cv hJ.2.1 Sn hZ jQ)<|aN 14 fun sW sZ rD=>jp (vs:=[.int .u8 xN,.int .u8 od]) [] [] (fun aA hs hZ=>(aMc (hym _ (List.mem_of_getElem? kQ)) (hym _ (List.mem_of_getElem? jQ))))<|bC rD [0]<|zD 3<|zJ 34 ((Pp xN od) <0) (fun h4=>?_) fun h4=>?_
   ·
    refine zD 9<|ja (j-1) (by omega)<|zD 2<|ja (j-1) (by omega) ?_
    obtain⟨wX,De⟩:=zG ys ((j-1).toNat) (by first|omega| (simp only[List.length_set];omega))
    refine pP (j-1) 1 hJ.2.1 De (Int.toNat_of_nonneg (show 0≤(j-1)∧(j-1) <((ys).length:Int) from (by first|omega| (simp only[List.length_set];omega))).1).symm (fun b45 adW=>?_)
    refine oJ 0 [0] L (fun s _ hZ=>cv hJ.2.1 adW hZ De)<|zD 2 ?_
    obtain⟨Hi,Dd⟩:=zG ys (j.toNat) (by first|omega| (simp only[List.length_set];omega))
    refine pP j 1 hJ.2.1 Dd (Int.toNat_of_nonneg (show 0≤j∧j <((ys).length:Int) from (by first|omega| (simp only[List.length_set];omega))).1).symm (fun b49 adV=>?_)
    refine oJ 0 [0] L (fun s _ hZ=>cv hJ.2.1 adV hZ Dd) ?_
    obtain⟨x51,Dc⟩:=zG ys (j.toNat) (by first|omega| (simp only[List.length_set];omega))
    refine pP j 1 hJ.2.1 Dc (Int.toNat_of_nonneg (show 0≤j∧j <((ys).length:Int) from (by first|omega| (simp only[List.length_set];omega))).1).symm (fun b51 adU=>?_)
    refine aN 15 fun uv uw sB=>PT 0 0 [.int .u8 wX] wX hJ.2.1 adU Dc rfl rfl (Nat.le_of_ble_eq_true rfl) fun L6 XG=>iS sB [] ?_
    obtain⟨x52,Bx⟩:=zG ((ys.set j.toNat wX)) ((j-1).toNat) (by first|omega| (simp only[List.length_set];omega))
    refine pP (j-1) 1 XG Bx (Int.toNat_of_nonneg (show 0≤(j-1)∧(j-1) <(((ys.set j.toNat wX)).length:Int) from (by first|omega| (simp only[List.length_set];omega))).1).symm (fun b52 adT=>?_)
    refine aN 17 fun CL CX Dp=>PT 0 0 [.int .u8 Hi] Hi XG adT Bx rfl rfl (Nat.le_of_ble_eq_true rfl) fun L9 adj=>eO Dp<|zD 3<|ja (j-1) (by omega)<|zD 2<|bO mo (⟨(j-1),((ys.set j.toNat wX).set ((j-1).toNat) Hi),L9⟩) ⟨by dsimp only;omega,adj,(mW Dd De).trans hJ.2.2.1,by dsimp only;rw[hJ.2.2.2,U3 (by omega) kQ jQ Dd De (by assumption)]⟩ (by dsimp only;omega) [0] (Sub.refl _)
   refine zD 4<|ja (i+1) (by omega)<|zD 2<|bO bM (⟨(i+1),ys,L⟩) ⟨by dsimp only;omega,hJ.2.1,hJ.2.2.1,by dsimp only;rw[hJ.2.2.2,Xq (by omega) kQ jQ (by assumption)]⟩ (by dsimp only;omega) [0] (Sub.refl _)
  have kF:=h2
  replace kF:=of_decide_eq_false kF
  refine zD 18<|ja (i+1) (by omega)<|zD 2<|bO bM (⟨(i+1),ys,L⟩) ⟨by dsimp only;omega,hJ.2.1,hJ.2.2.1,by dsimp only;rw[hJ.2.2.2,Xp (by omega)]⟩ (by dsimp only;omega) [0] (Sub.refl _)
 refine zD 2<|aE q0 (.tuple ⟨[]⟩) [] [0] L (Sub.refl _) ⟨_,_,rfl,rfl,ys,Ws hI.2.2.2 (by omega),hI.2.1⟩
theorem akW(h:K.facts.length≤3):IntKind.u8.wrap (dg K+1)=((2^K.facts.length:Nat):Int):=by
 unfold dg
 generalize K.facts.length=n at h
 obtain rfl|rfl|rfl|rfl:n=0∨n=1∨n=2∨n=3:=by omega
 all_goals decide
theorem ail(h:n≤3):2^n≤8:=by
 obtain rfl|rfl|rfl|rfl:n=0∨n=1∨n=2∨n=3:=by omega
 all_goals decide
theorem avD(h:n≤255):Value.int .u8 (IntKind.u8.wrap (n:Int))= .int .u8 (n:Int):=by
 rw[rK .u8 rfl _ (by omega) (by simp[IntKind.bits];omega)]
def oH(n:Nat):List Int:=Cc (dc (2^n))
theorem WM(h:n≤8):∀m∈dc n,0≤m∧m <16:=fun m hm=>by have:=pE hm;omega
theorem aMa{v:Value}{L:Cells}{lim:Int}{ro:Nat→Option Obj}(ho:az v 1 99 Qe xs L)(hN:xs.length≤12)(hM:∀m∈xs,0≤m∧m <16):eo zT 94 [v,zI 0,zI (xs.length:Int),zI lim,.func (.func 69) ⟨[]⟩ ⟨[]⟩] ro L (fun r Y=>LW v xs Y):=by
 refine bA au [.l L] [] bn<|zD 9<|ez [1,1,0,0] [] (fun(zz:Nat)=>[(0,v),(1,zI 0),(2,zI (xs.length:Int)),(3,zI lim),(4,.func (.func 69) ⟨[]⟩ ⟨[]⟩),(10,.bool true),(11,.bool true)]) (fun(zz:Nat)=>[.l L]) (fun(zz:Nat)=>True) (fun(zz:Nat)=>zz) 0 trivial [0] ?_
 rintro z hI K1 bM rest
 refine zD 5<|ja ((xs.length:Int)-0) (by omega)<|zD 8<|zJ 25 (((xs.length:Int)-0)≤12) (fun h1=>?_) fun h1=>?_
 ·
  refine zD 7<|jc (vs:=[v,zI 0,zI (xs.length:Int),.func (.func 69) ⟨[]⟩ ⟨[]⟩]) [0] (aMb ho hN hM) ?_
  rintro awq Y30 ⟨aH0,aqL,BA⟩
  refine zD 2<|aE q0 (.tuple ⟨[]⟩) [] [0] Y30 (Sub.refl _) ⟨_,_,rfl,rfl,_,aqL,BA⟩
 exfalso;omega
theorem axU{v:Value}{L:Cells}{ro:Nat→Option Obj}(ho:az v 1 99 Qe xs L)(hN:xs.length≤12)(hM:∀m∈xs,0≤m∧m <16):eo zT 68 [v,.func (.func 69) ⟨[]⟩ ⟨[]⟩] ro L (fun r Y=>LW v xs Y):=by
 refine bA au [.l L] [] bn<|zD 3<|DX ho<|zD 6<|je (zU (xs.length:Int)) (Zj (by omega))<|jp (vs:=[zU (xs.length:Int)]) [] [] (fun aA hs hZ=>(asV (by omega)))<|zD 1<|jc (vs:=[v,zI 0,zI (xs.length:Int),zI (Xi xs.length),.func (.func 69) ⟨[]⟩ ⟨[]⟩]) [0] (aMa ho hN hM) ?_
 rintro awr Y13 ⟨aH2,XE,R6⟩
 refine zD 1<|aE q0 (.tuple ⟨[]⟩) [] [0] Y13 (Sub.refl _) ⟨_,_,rfl,rfl,_,XE,R6⟩
theorem aDH{f:Nat}{rows:List bK}{ro:Nat→Option Obj}(hF:oX ro f K rows)(hV:fH K)(hn3:K.facts.length≤3):eo zT 35 [zP f] ro [] (fun r Y=>∃L,az r 1 99 Qe (oH K.facts.length) L∧Y=L):=by
 have hp8:=ail hn3
 refine bA au [] [] bn<|zD 12<|jp (vs:=[zP f]) [] [] (fun aA hs hZ=>N1 hV (hF.up hs))<|je (.int .u8 ((2^K.facts.length:Nat):Int)) (congrArg (Value.int .u8) (akW hn3))<|zD 3<|pQ<|ez [1,1,0,1,0,0] [] (fun(zz:Nat×Value×Cells)=>[(2,zS),(3,zz.2.1),(7,.int .u8 ((2^K.facts.length:Nat):Int)),(8,.int .u8 (zz.1:Int))]) (fun(zz:Nat×Value×Cells)=>[.l zz.2.2]) (fun(zz:Nat×Value×Cells)=>zz.1≤2^K.facts.length∧az zz.2.1 1 99 Qe (dc zz.1) zz.2.2) (fun(zz:Nat×Value×Cells)=>2^K.facts.length-zz.1) (⟨0,zS,[]⟩) ⟨Nat.zero_le _,az.nil _ _ _⟩ [0] ?_
 rintro⟨k,v,L⟩ hI K1 bM rest
 dsimp only at hI
 have hrl:=k7 k
 refine zD 5<|zJ 9 ((k:Int) <((2^K.facts.length:Nat):Int)) (fun h1=>?_) fun h1=>?_
 ·
  refine zD 12<|jn fun yP=>ku (sz:=1) (ps:=(dc k)) (qs:=[(k:Int)]) (enc:=Qe) (w:= .slice (some ⟨yP,0,none⟩) 1 1) [1] [0] [(yP,.cells ⟨([(k:Int)].map Qe).flatten⟩ 99 (0,0))] (hI.2) (fun s _ hZ=>bX [(k:Int)] (hZ _ (.head _)) (by intro p hp;rfl)) (fun p _=>an rfl) (by simp<;>omega) (fun v14 L14 tL=>?_)
  obtain⟨Jz,Hn,xp⟩:=tL.form
  subst xp
  refine zD 3<|je (.int .u8 ((k:Int)+1)) (avD (n:=k+1) (by omega))<|zD 2<|bO bM (⟨k+1,(.slice Jz (((dc k)++[(k:Int)])).length Hn),L14⟩) ⟨by dsimp only;omega,by dsimp only;rw[uZ];exact tL⟩ (by dsimp only;omega) [0] (Sub.refl _)
 refine zD 5<|jc (vs:=[v,.func (.func 69) ⟨[]⟩ ⟨[]⟩]) [0] (axU hI.2 (by rw[k7];omega) (WM (by omega))) ?_
 rintro aZe Y17 ⟨aYo,aNR,BB⟩
 refine zD 7<|aE q0 (v) [] [0] Y17 (Sub.refl _) ⟨_,_,rfl,rfl,_,by rw[oH,show 2^K.facts.length=k by omega,←aNR];exact BB,rfl⟩
def HU(K:aZ)(rows:List bK)(p:Nat→Int):Nat→Bool
 |0=>false
 |i+1=>HU K rows p i||di K.gone K.new K.af (dv K ((rows[i]?).getD ⟨fun _ _=>false⟩) i p)
theorem V4{rows:List bK}{p:Nat→Int}{r:bK}(h:rows[i]?=some r):HU K rows p (i+1)=(HU K rows p i||di K.gone K.new K.af (dv K r i p)):=by rw[HU,h];rfl
theorem akV{rows:List bK}{p:Nat→Int}(h:HU K rows p i=true)(hn:i≤n):HU K rows p n=true:=by
 induction n with
 |zero=>rwa[show i=0 by omega] at h
 |succ n ih=>
  by_cases e:i=n+1
  ·rwa[e] at h
  rw[HU,ih (by omega),Bool.true_or]
def Yl(K:aZ)(rows:List bK)(on:Int):Bool:=(dA K on).any fun p=>HU K rows p rows.length
theorem af3{f:α→Bool}{l:List α}{x:α}(h:l[k]?=some x) (h1:(l.take k).any f=false) (h2:f x=false):(l.take (k+1)).any f=false:=by
 rw[gA h,List.any_append,h1,List.any_cons,h2];rfl
theorem aRR{f:Nat}{rows:List bK}{on:Int}{ro:Nat→Option Obj}(hF:oX ro f K rows)(hV:fH K)(hR:rows.length≤1000):eo zT 36 [zP f,.int .u8 on] ro [] (fun r Y=>r= .bool (Yl K rows on)∧Y=[]):=by
 obtain⟨c0,c1,c2,vc,vh,vr,vb,va,vf,vt,hv,hf,rC,oe,hr,Dm,HK,I0,bL⟩:=id hF
 obtain⟨hc,hh,cX⟩:=id rC
 obtain⟨eC,AO,AN,ek,rfl,C5,yI,yH⟩:=hc
 obtain⟨dJ,uK,uJ,dr,rfl,wZ,qB,qA⟩:=hh
 obtain⟨lR,JX,JW,lQ,rfl,Ni,Is,Ir⟩:=hr
 obtain⟨k9,J2,J0,kz,rfl,J1,EN,EM⟩:=Dm
 obtain⟨ld,J5,J3,kA,rfl,J4,EP,EO⟩:=HK
 obtain⟨lS,Q4,Q1,kN,rfl,Q3,JZ,JY⟩:=I0
 obtain⟨mV,C4,C3,mE,rfl,Nf,JV,JU⟩:=bL
 have P0:=hV.rules.1
 have FR:=hV.before.1
 have HE:=hV.after.1
 have hnf:=hV.facts.1
 refine ajk au [] [] bn<|zD 2<|jn fun b2=>zD 5<|jn fun b5=>jd 9 [0,1]<|jc (vs:=[zP f,.int .u8 on]) [] (IM (on:=on) hF hV) ?_
 rintro _ _ ⟨q1,q2,q3,q4,rfl,rfl⟩
 refine jg 0 [.b q1 (.cells ⟨[zP f]⟩ 94 (0,0)),.b q2 (.cells ⟨[.func (.func 98) ⟨[]⟩ ⟨[zP q1,zP q4]⟩]⟩ 187 (0,0)),.b q3 (.cells ⟨[.bool (cY K on 0 0),.bool (cY K on 0 1),.bool (cY K on 0 2),.bool (cY K on 0 3),.bool (cY K on 1 0),.bool (cY K on 1 1),.bool (cY K on 1 2),.bool (cY K on 1 3),.bool (cY K on 2 0),.bool (cY K on 2 1),.bool (cY K on 2 2),.bool (cY K on 2 3),.bool (cY K on 3 0),.bool (cY K on 3 1),.bool (cY K on 3 2),.bool (cY K on 3 3)]⟩ 139 (0,0)),.b q4 (.cells ⟨[.int .u8 on]⟩ 99 (0,0))]<|jf [0,1,2,3,5] ((q1,.cells ⟨[zP f]⟩ 94 (0,0))::((q2,.cells ⟨[.func (.func 98) ⟨[]⟩ ⟨[zP q1,zP q4]⟩]⟩ 187 (0,0))::((q3,.cells ⟨[.bool (cY K on 0 0),.bool (cY K on 0 1),.bool (cY K on 0 2),.bool (cY K on 0 3),.bool (cY K on 1 0),.bool (cY K on 1 1),.bool (cY K on 1 2),.bool (cY K on 1 3),.bool (cY K on 2 0),.bool (cY K on 2 1),.bool (cY K on 2 2),.bool (cY K on 2 3),.bool (cY K on 3 0),.bool (cY K on 3 1),.bool (cY K on 3 2),.bool (cY K on 3 3)]⟩ 139 (0,0))::((q4,.cells ⟨[.int .u8 on]⟩ 99 (0,0))::[(b2,.cells ⟨[zP f]⟩ 94 (0,0))])))) fun AI bV iT=>zD 2<|jrf [] (UX (on:=on) (hF.up bV) hV (iT _ (.head _)) (iT _ (.tail _ (.head _))) (iT _ (.tail _ (.tail _ (.head _)))) (iT _ (.tail _ (.tail _ (.tail _ (.head _)))))) (by rintro _ _ _ _ ⟨_,_,rfl,_⟩;rfl) (fun(zz:Bool)=>[.b b5 (.cells ⟨[.bool zz]⟩ 4 (0,0))]) (fun kk=>(fun(zz:Bool)=>zz=false∧(((dA K on).take kk).any fun p=>HU K rows p rows.length)=false)) (fun jump=>(fun(zz:Bool)=>jump= .exit 0∧zz=true∧Yl K rows on=true)) false ⟨rfl,rfl⟩ [0] ?_ ?_ ?_
 ·
  rintro bl4 bd4 kk4 vs4 LL4 bo ro4 hk4 arE hI kD
  obtain⟨p4,hp4,rfl,rfl⟩:=arE
  have XB:=(lE hV on).2 p4 (List.mem_of_getElem? hp4)
  refine zD 1<|jn fun b6=>jd 2 [0]<|aym<|zD 3<|jl (b:=b2) (off:=0) (m:=1) (vs:=[zP f]) 0 ⟨_,_,_,.inl (kD _ _ (iT _ (.tail _ (.tail _ (.tail _ (.tail _ (.head _))))))),rfl⟩<|zD 2<|jl (b:=f) (off:=0) (m:=13) (vs:=[c0,c1,c2,.slice eC K.cs.length ek,.slice dJ hv.length dr,.slice lR K.rules.length lQ,.slice k9 K.before.length kz,.slice ld K.after.length kA,zI K.gone,zI K.new,zI K.af,.slice lS K.facts.length kN,.slice mV rows.length mE]) 12 ⟨_,_,_,.inl (kD _ _ (bV _ _ hf)),rfl⟩<|zD 4<|aMz [1] [1,0,1,1,0,1,0,3,0,1,0,0] [] (fun(zz:Nat×Bool)=>[(2,zP b2),(4,.bool false),(5,zP b5),(6,zP b6),(16,zI (rows.length:Int)),(17,zI (zz.1:Int))]) (fun(zz:Nat×Bool)=>[.b b5 (.cells ⟨[.bool zz.2]⟩ 4 (0,0)),.b b6 (.cells ⟨[zI (p4 0),zI (p4 1),zI (p4 2),zI (p4 3)]⟩ 122 (0,0))]) (fun(zz:Nat×Bool)=>zz.1≤rows.length∧zz.2=false∧HU K rows p4 zz.1=false) (fun(zz:Nat×Bool)=>rows.length-zz.1) (⟨0,bo⟩) ⟨Nat.zero_le _,hI.1,rfl⟩ [2,0,1] ?_
  rintro⟨i,bo⟩ hJ K1 bM rest
  dsimp only at hJ
  refine zD 5<|zJ 18 ((i:Int) <(rows.length:Int)) (fun h5=>?_) fun h5=>?_
  ·
   refine zD 5 ?_
   obtain⟨r_,By⟩:∃r_,rows[i]?=some r_:=⟨_,List.getElem?_eq_getElem (by omega)⟩
   refine zD 6<|jl (b:=b2) (off:=0) (m:=1) (vs:=[zP f]) 0 ⟨_,_,_,.inl (kD _ _ (iT _ (.tail _ (.tail _ (.tail _ (.tail _ (.head _))))))),rfl⟩<|jl (b:=b2) (off:=0) (m:=1) (vs:=[zP f]) 0 ⟨_,_,_,.inl (kD _ _ (iT _ (.tail _ (.tail _ (.tail _ (.tail _ (.head _))))))),rfl⟩<|jd 2 [1]<|jp (vs:=[zP f,zI (i:Int),.agg ⟨[zI (p4 0),zI (p4 1),zI (p4 2),zI (p4 3)]⟩]) [] [] (fun aA hs hZ=>al0 (hF.up (Sub.trans (bV.trans kD) hs)) hV By XB)<|jp (vs:=[zP f,.agg ⟨[zI ((dv K r_ i p4).past),zI ((dv K r_ i p4).w0),zI ((dv K r_ i p4).w1),zI ((dv K r_ i p4).w2),zI ((dv K r_ i p4).w3),zI ((dv K r_ i p4).gone),zI ((dv K r_ i p4).new),zI ((dv K r_ i p4).af)]⟩]) [] [] (fun aA hs hZ=>aca (x:=(dv K r_ i p4)) (hs _ _ (kD _ _ (bV _ _ hf))))<|aN 6 fun CM CY BG=>jd 1 [0]<|eO BG<|jd 5 [0]<|js 26 (di K.gone K.new K.af (dv K r_ i p4)) (fun h7=>?_) (fun h7=>?_)
   ·
    refine zD 2<|jys WQ (Sub.refl _) (.exit 0) (di K.gone K.new K.af (dv K r_ i p4)) ⟨rfl,by assumption,List.any_eq_true.2 ⟨p4,List.mem_of_getElem? hp4,akV (i:=i+1) (by rw[V4 By];simp[*]) (by omega)⟩⟩ [2,0]
   refine zD 3<|ja ((i:Int)+1) (by omega)<|zD 2<|bO bM (⟨i+1,(di K.gone K.new K.af (dv K r_ i p4))⟩) ⟨by dsimp only;omega,by assumption,by dsimp only;rw[V4 By,hJ.2.2,Bool.false_or];assumption⟩ (by dsimp only;omega) [0,1,2] (Sub.refl _)
  refine zD 2<|jyn WQ (Sub.refl _) bo ⟨hJ.2.1,af3 hp4 hI.2 (by have:=hJ.2.2;rwa[show i=rows.length by omega] at this)⟩ [2,0]
 ·
  rintro bd4 bo Z4 hI hZ4
  subst hZ4
  refine jd 6 [2]<|jrM qm0.a.m (.bool bo) [0] [] [] [] bV ⟨by have:=hI.2;rw[List.take_of_length_le (Nat.le_refl _)] at this;rw[hI.1,Yl,this],rfl⟩
 rintro bd4 bo Z4 jump hS hZ4
 obtain⟨rfl,hS⟩:=hS
 subst hZ4
 refine jd 6 [2]<|jrM qm0.a.m (.bool bo) [0] [] [] [] bV ⟨by rw[hS.1,hS.2],rfl⟩
def iAn(k:IntKind)(a b:Int):Int:=k.wrap (BitVec.ofInt k.bits a&&& ~~~ BitVec.ofInt k.bits b).toNat
theorem apo:oH 0=[0]:=by kernel_rfl
theorem apn:oH 1=[0,1]:=by kernel_rfl
theorem apm:oH 2=[0,1,2,3]:=by kernel_rfl
theorem apl:oH 3=[0,1,2,4,3,5,6,7]:=by kernel_rfl
theorem abx(h:n≤3):(oH n).length≤8∧∀m∈oH n,0≤m∧m <16:=by
 obtain rfl|rfl|rfl|rfl:n=0∨n=1∨n=2∨n=3:=by omega
 ·rw[apo];decide
 ·rw[apn];decide
 ·rw[apm];decide
 rw[apl];decide
def Jv(K:aZ)(rows:List bK):Option Int:=(oH K.facts.length).find? fun m=>Yl K rows (iAn .u8 (dg K) m)
theorem VE{p:α→Bool}{l:List α}{x:α}(hx:l[k]?=some x):(l.drop k).find? p=bif p x then some x else (l.drop (k+1)).find? p:=by rw[fN hx,List.find?_cons];cases p x<;>rfl
theorem ae2{p:α→Bool}{l:List α}(hx:¬k <l.length):(l.drop k).find? p=none:=by rw[eF hx];rfl
theorem apA{rows:List bK}{ro:Nat→Option Obj}(hK:gh ro l K)(hV:fH K)(hR:rows.length≤2)(hB:iK ro l K rows)(hn3:K.facts.length≤3):eo zT 9 [.agg ⟨l⟩] ro [] (fun r Y=>∃v e,r= .tuple ⟨[v,zI e]⟩∧((∃m,Jv K rows=some m∧az v 1 3 cJ (lH m 4) Y∧e=0)∨(Jv K rows=none∧v= zS∧e=11∧Y=[]))):=by
 obtain⟨v0,v1,v3,v4,v5,v6,v7,vb,fa,fc,hv,rfl,_⟩:=hK
 have Ot:=abx hn3
 have R9:=Ot.1
 refine bA au [] [] bn<|zD 2<|jn fun b1=>jd 6 [0]<|jc (vs:=[.agg ⟨[v0,v1,.slice fa 0 fc,v3,v4,v5,v6,v7,zI K.gone,zI K.new,zI K.af,vb]⟩]) [] (hB _ (Sub.refl _)) ?_
 rintro _ Y3 ⟨f10,rfl,asE⟩
 refine zD 5<|jf [0] Y3 (fun AI bV iT=>?_)
 have HL:=asE _ bV iT
 refine zD 13<|jc (vs:=[zP f10]) [] (aDH HL hV hn3) ?_
 rintro v17 L17 ⟨_,BB,rfl⟩
 refine DX BB<|zD 3<|ez [1,1,1,0,1,0,0] [] (fun(zz:Nat)=>[(4,zP f10),(17,v17),(18,zI ((oH K.facts.length).length:Int)),(19,zI (zz:Int))]) (fun(zz:Nat)=>[.l L17,.b b1 (.cells ⟨[v0,v1,.slice fa 0 fc,v3,v4,v5,v6,v7,zI K.gone,zI K.new,zI K.af,vb]⟩ 38 (0,0))]) (fun(zz:Nat)=>zz≤(oH K.facts.length).length∧Jv K rows=((oH K.facts.length).drop zz).find? (fun m=>Yl K rows (iAn .u8 (dg K) m))) (fun(zz:Nat)=>(oH K.facts.length).length-zz) 0 ⟨Nat.zero_le _,rfl⟩ [0,1] ?_
 rintro k hI K1 bM rest
 refine zD 5<|zJ 20 ((k:Int) <((oH K.facts.length).length:Int)) (fun h4=>?_) fun h4=>?_
 ·
  refine zD 6 ?_
  obtain⟨xO,pS⟩:=zG ((oH K.facts.length)) k (by first|omega| (simp only[List.length_set,List.length_append,List.length_cons,List.length_nil];omega))
  refine YP 1 BB pS fun b21 aP5=>oJ 0 [0] L17 (fun s _ hZ=>cv BB aP5 hZ pS)<|zD 6<|jp (vs:=[zP f10]) [] [] (fun aA hs hZ=>N1 hV (HL.up hs))<|zD 1<|je (.int .u8 (iAn .u8 (dg K) xO)) rfl<|jc (vs:=[zP f10,.int .u8 (iAn .u8 (dg K) xO)]) [] (aRR HL hV (by omega)) ?_
  rintro _ _ ⟨rfl,rfl⟩
  refine jg 0 []<|zD 1<|js 28 (Yl K rows (iAn .u8 (dg K) xO)) (fun h5=>?_) (fun h5=>?_)
  ·
   refine zD 4<|jc (vs:=[.int .u8 xO]) [] (ae6) ?_
   rintro v30 L30 ⟨_,BA,rfl⟩
   refine zD 4<|aE q0.a (.tuple ⟨[v30,zI 0]⟩) [] [0] L30 bV ⟨_,_,rfl,rfl,_,_,rfl,.inl ⟨_,by rw[hI.2,VE pS];simp only[*,cond_true],BA,rfl⟩⟩
  refine zD 3<|ja ((k:Int)+1) (by omega)<|zD 2<|bO bM (k+1) ⟨by omega,by rw[hI.2,VE pS];simp only[*,cond_false]⟩ (by omega) [0,1] (Sub.refl _)
 refine zD 8<|aE q0.a (.tuple ⟨[zS,zI 11]⟩) [] [] [] bV ⟨_,_,rfl,rfl,_,_,rfl,.inr ⟨by rw[hI.2,ae2 (by omega)],rfl,rfl,rfl⟩⟩
theorem apT{f:Nat}{rows:List bK}{ro:Nat→Option Obj}(hF:oX ro f K rows)(hV:fH K)(hR:rows.length≤2):B4 zT 83 [zP f] ro [] (fun r Y=>∃zs v e,r= .tuple ⟨[v,zI e]⟩∧zs.Perm (eW K (dg K) (di K.gone K.new K.af) rows)∧az v 8 124 cN zs Y∧((zs=[]∧e=9)∨(zs≠[]∧e=0))):=by
 refine zo au [] [] bn fun fr=>zD 9<|jp (vs:=[zP f]) [] [] (fun aA hs hZ=>N1 hV (hF.up hs))<|Kx (vs:=[zP f,.int .u8 (dg K)]) [] (fun _ _ h=>h) (UU hV hF hR) ?_
 rintro v8 Y8 ⟨zs,hz,ho8⟩
 refine zD 6<|DX ho8<|zD 2<|zJ 11 ((zs.length:Int)=0) (fun h1=>?_) fun h1=>?_
 ·
  refine zD 7<|UZ qC (.tuple ⟨[zS,zI 9]⟩) [1] [] (Sub.refl _) ⟨zs,_,_,rfl,hz,by rw[show zs=[] from List.eq_nil_of_length_eq_zero (by omega)];exact az.nil _ _ _,.inl ⟨List.eq_nil_of_length_eq_zero (by omega),rfl⟩⟩
 refine zD 9<|UZ qC (.tuple ⟨[v8,zI 0]⟩) [0,1] Y8 (Sub.refl _) ⟨zs,_,_,rfl,hz,ho8,.inr ⟨fun e=>by subst e;simp at*,rfl⟩⟩
theorem N0{rows:List bK}{ro:Nat→Option Obj}(hK:gh ro l K)(hV:fH K)(hR:rows.length≤2)(hB:iK ro l K rows):atE zT 46 [.agg ⟨l⟩] ro [] (fun r aA Y=>∃f zs v e,r= .tuple ⟨[pV f,v,zI e]⟩∧oX aA f K rows∧zs.Perm (eW K (dg K) (di K.gone K.new K.af) rows)∧az v 8 124 cN zs Y∧((zs=[]∧e=9)∨(zs≠[]∧e=0))):=by
 obtain⟨v0,v1,v3,v4,v5,v6,v7,vb,fa,fc,hv,rfl,_⟩:=hK
 refine ayk (hm:=au) [] [] bn fun fr=>zD 2<|jn fun b1=>jd 7 [0]<|jc (vs:=[.agg ⟨[v0,v1,.slice fa 0 fc,v3,v4,v5,v6,v7,zI K.gone,zI K.new,zI K.af,vb]⟩]) [] (hB _ (Sub.refl _)) ?_
 rintro _ Y3 ⟨f10,rfl,asE⟩
 refine zD 5<|jf [0] Y3 (fun AI bV iT=>?_)
 have HL:=asE _ bV iT
 refine zD 12<|Kx (vs:=[zP f10]) [] (fun _ _ h=>h) (apT HL hV hR) ?_
 rintro _ Y18 ⟨zs,v18,e18,rfl,hz,XH,he⟩
 refine zD 16<|aMr qC.a (.tuple ⟨[zP f10,v18,zI e18]⟩) [0,2] Y18 bV ⟨f10,zs,v18,e18,rfl,HL,hz,XH,he⟩
theorem ajb{x:av}{ro:Nat→Option Obj}:dz zT 53 [.agg ⟨[zI x.past,zI x.w0,zI x.w1,zI x.w2,zI x.w3,zI x.gone,zI x.new,zI x.af]⟩] ro (zI x.af):=by
 refine bA au [] [] bn<|zD 2<|jn fun b1=>jd 9 [0]<|aE q0 (zI x.af) [] [] [] (Sub.refl _) ⟨_,_,rfl,rfl,rfl,rfl⟩
theorem ab2{rows:List bK}{ro:Nat→Option Obj}(hK:gh ro l K)(hV:fH K)(hR:rows.length≤2)(hB:iK ro l K rows):B4 zT 52 [.agg ⟨l⟩,.func (.func 53) ⟨[]⟩ ⟨[]⟩] ro [] (fun r Y=>∃zs a b e,zs.Perm (eW K (dg K) (di K.gone K.new K.af) rows)∧Y=[]∧r= .tuple ⟨[.agg ⟨[zI a,zI b]⟩,zI e]⟩∧((zs=[]∧a=0∧b=0∧e=9)∨(zs≠[]∧a=iD (zs.map fun x=>x.af)∧b=jE (zs.map fun x=>x.af)∧e=0))):=by
 obtain⟨v0,v1,v3,v4,v5,v6,v7,vb,fa,fc,hv,rfl,_⟩:=id hK
 refine zo au [] [] bn fun fr=>zD 2<|jn fun b2=>jn fun b4=>jd 5 [1]<|acj (vs:=[.agg ⟨[v0,v1,.slice fa 0 fc,v3,v4,v5,v6,v7,zI K.gone,zI K.new,zI K.af,vb]⟩]) [] (fun _ _ h=>h) (N0 hK hV hR hB) ?_
 rintro _ aA Y14 bV ⟨f14,zs,v14,Ak,rfl,HL,hz,FQ,he⟩
 have XA:∀x∈zs,(-4≤x.gone∧x.gone≤4)∧(-4≤x.new∧x.new≤4)∧(0≤x.af∧x.af≤4):=fun x hx=>by obtain⟨i,r,p,_,_,rfl,_⟩:=kS (hz.mem_iff.1 hx);exact lG hV r i p
 have Xs:zs.length≤1250:=by rw[hz.length_eq];exact qj hV _ _ hR
 refine zD 7<|jf [0] Y14 (fun ro4 oB P5=>?_)
 have hZ1:=FQ.ma P5
 obtain⟨u1,Q9,Q7,ri,rfl,Q8,ET,ES⟩:=hZ1
 refine zD 7<|js 19 (!decide (Ak=0)) (fun h5=>?_) (fun h5=>?_)
 ·
  replace h5:=of_decide_eq_false (by simpa using h5)
  have qn:zs=[]∧Ak=9:=by rcases he with h| ⟨_,h⟩;exact h;omega
  refine jd 9 [0]<|Kw qC.a.a (.tuple ⟨[.agg ⟨[zI 0,zI 0]⟩,zI Ak]⟩) [0] [2] [] (bV.trans oB) ⟨zs,_,_,_,hz,rfl,rfl,.inl ⟨qn.1,rfl,rfl,qn.2⟩⟩
 replace h5:=of_decide_eq_true (by simpa using h5)
 have qn:zs≠[]∧Ak=0:=by rcases he with ⟨_,h⟩|h;omega;exact h
 have hzp:0 <zs.length:=List.length_pos_iff.2 qn.1
 refine zD 14<|pQ<|ez [1,1,1,1,0,1,0,0] [] (fun(zz:Nat×Value×Cells)=>[(1,.func (.func 53) ⟨[]⟩ ⟨[]⟩),(4,zP b4),(5,zI 0),(9,zz.2.1),(22,.slice u1 zs.length ri),(23,zI (zs.length:Int)),(24,zI (zz.1:Int))]) (fun(zz:Nat×Value×Cells)=>[.l zz.2.2,.b b4 (.cells ⟨[zI 0,zI 0]⟩ 64 (0,0)),.b b2 (.cells ⟨[v0,v1,.slice fa 0 fc,v3,v4,v5,v6,v7,zI K.gone,zI K.new,zI K.af,vb]⟩ 38 (0,0)),.l fr]) (fun(zz:Nat×Value×Cells)=>zz.1≤zs.length∧az zz.2.1 1 3 cJ ((zs.take zz.1).map fun x=>x.af) zz.2.2) (fun(zz:Nat×Value×Cells)=>zs.length-zz.1) (⟨0,zS,[]⟩) ⟨by dsimp only;omega,az.nil _ _ _⟩ [0,1,2,3] ?_
 rintro⟨k,vS,LS⟩ hI K1 bM rest
 dsimp only at hI
 refine zD 5<|zJ 25 ((k:Int) <(zs.length:Int)) (fun h6=>?_) fun h6=>?_
 ·
  refine zD 6 ?_
  obtain⟨qZ,zq⟩:=zG zs k
  refine ij ri 8 ET zq<|jl 0 (ES _ _ zq)<|jn fun Mq=>jd 6 [0,0]<|jp (vs:=[.agg ⟨[zI qZ.past,zI qZ.w0,zI qZ.w1,zI qZ.w2,zI qZ.w3,zI qZ.gone,zI qZ.new,zI qZ.af]⟩]) [] [] (fun aA hs hZ=>(ajb (x:=qZ)))<|jn fun b32=>ku (sz:=1) (ps:=((zs.take k).map fun x=>x.af)) (qs:=[qZ.af]) (enc:=cJ) (w:= .slice (some ⟨b32,0,none⟩) 1 1) [2] [0] [(b32,.cells ⟨([qZ.af].map cJ).flatten⟩ 3 (0,0))] (hI.2) (fun s _ hZ=>bX [qZ.af] (hZ _ (.head _)) (by intro p hp;rfl)) (fun p _=>an rfl) (by simp only[List.length_map,List.length_take,List.length_cons,List.length_nil];omega) (fun v33 L33 vu=>?_)
  obtain⟨ZE,Zx,adK⟩:=vu.form
  subst adK
  refine zD 3<|ja ((k:Int)+1) (by omega)<|zD 2<|bO bM (⟨k+1,(.slice ZE ((((zs.take k).map fun x=>x.af)++[qZ.af])).length Zx),L33⟩) ⟨by dsimp only;omega,by rw[gA zq,List.map_append];exact vu⟩ (by dsimp only;omega) [0,3,4,5] (Sub.refl _)
 refine zD 5<|jp (vs:=[vS]) [0] LS (fun aA hs hZ=>UW (hI.2.ma hZ) ⟨by simp only[List.length_map,List.length_take];omega,by simp only[List.length_map,List.length_take];omega⟩) ?_
 refine jd 4 [1]<|Kw qC.a.a (.tuple ⟨[.agg ⟨[zI (iD ((zs.take k).map fun x=>x.af)),zI (jE ((zs.take k).map fun x=>x.af))]⟩,zI 0]⟩) [1] [3] [] (bV.trans oB) ⟨zs,_,_,_,hz,rfl,rfl,.inr ⟨qn.1,by rw[show k=zs.length by omega,List.take_length],by rw[show k=zs.length by omega,List.take_length],rfl⟩⟩
theorem ab9{rows:List bK}{ro:Nat→Option Obj}(hK:gh ro l K)(hV:fH K)(hR:rows.length≤2)(hB:iK ro l K rows):B4 zT 21 [.agg ⟨l⟩] ro [] (fun r Y=>∃zs a b e,zs.Perm (eW K (dg K) (di K.gone K.new K.af) rows)∧Y=[]∧r= .tuple ⟨[.agg ⟨[zI a,zI b]⟩,zI e]⟩∧((zs=[]∧a=0∧b=0∧e=9)∨(zs≠[]∧a=iD (zs.map fun x=>x.af)∧b=jE (zs.map fun x=>x.af)∧e=0))):=by
 obtain⟨v0,v1,v3,v4,v5,v6,v7,vb,fa,fc,hv,rfl,_⟩:=id hK
 refine zo au [] [] bn fun fr=>zD 2<|jn fun b1=>jn fun b2=>jd 5 [1]<|Kx (vs:=[.agg ⟨[v0,v1,.slice fa 0 fc,v3,v4,v5,v6,v7,zI K.gone,zI K.new,zI K.af,vb]⟩,.func (.func 53) ⟨[]⟩ ⟨[]⟩]) [] (fun _ _ h=>h) (ab2 hK hV hR hB) ?_
 rintro _ _ ⟨zs,a5,c5,e5,hz,rfl,rfl,he⟩
 refine jg 0 []<|jd 6 [0]<|Kw qC (.tuple ⟨[.agg ⟨[zI a5,zI c5]⟩,zI e5]⟩) [0] [2] [] (Sub.refl _) ⟨zs,_,_,_,hz,rfl,rfl,he⟩
theorem apR{a:Int}{ro:Nat→Option Obj}:dz zT 80 [zI a,zI b] ro (.bool (decide (a=b))):=by
 refine bA au [] [] bn<|zD 12<|aE q0 (.bool (decide (a=b))) [] [] [] (Sub.refl _) ⟨_,_,rfl,rfl,rfl,rfl⟩
theorem aD1{a:Int}{s:Bool}{ro:Nat→Option Obj}:dz zT 17 [zI a,zI b,.bool s] ro (.agg ⟨[zI a,zI b,.bool s]⟩):=by
 refine bA au [] [] bn<|zD 2<|jn fun b6=>jd 10 [0]<|aE q0 (.agg ⟨[zI a,zI b,.bool s]⟩) [0] [] [] (Sub.refl _) ⟨_,_,rfl,rfl,rfl,rfl⟩
theorem jT{w:ByteArray}{a c:Int}{ro:Nat→Option Obj}:dz zT 79 [.string w,zI a,zI b,zI c] ro (.agg ⟨[.string w,zI a,zI b,zI c,.bool false]⟩):=by
 refine bA au [] [] bn<|zD 2<|jn fun b8=>jd 11 [0]<|aE q0 (.agg ⟨[.string w,zI a,zI b,zI c,.bool false]⟩) [0] [] [] (Sub.refl _) ⟨_,_,rfl,rfl,rfl,rfl⟩
theorem aD2{w:ByteArray}{a:Int}{ro:Nat→Option Obj}:dz zT 78 [.string w,zI a] ro (.agg ⟨[.string w,zI (-1),zI a,(zS)]⟩):=by
 refine bA au [] [] bn<|zD 2<|jn fun b4=>jd 9 [0]<|aE q0 (.agg ⟨[.string w,zI (-1),zI a,zS]⟩) [0] [] [] (Sub.refl _) ⟨_,_,rfl,rfl,rfl,rfl⟩
theorem cIs{w:ByteArray}{a:Int}{va:Option Addr}{vn vc:Nat}{ro:Nat→Option Obj}:dz zT 77 [.string w,zI a,(.slice va vn vc)] ro (.agg ⟨[.string w,zI a,zI (-1),(.slice va vn vc)]⟩):=by
 refine bA au [] [] bn<|zD 2<|jn fun b6=>jd 10 [0]<|aE q0 (.agg ⟨[.string w,zI a,zI (-1),(.slice va vn vc)]⟩) [0] [] [] (Sub.refl _) ⟨_,_,rfl,rfl,rfl,rfl⟩
end Go.L
