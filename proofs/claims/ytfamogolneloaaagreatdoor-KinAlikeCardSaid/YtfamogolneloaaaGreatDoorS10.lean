/- Part 10 of the proof. -/
import Derived.Test.YtfamogolneloaaaGreatDoorS9
set_option maxRecDepth 100000
set_option linter.all false
namespace Go.L
open Go Go.Conc Go.Proofs
variable {K:aE} {ys xs:List Int} {l z z1:List Value} {k i j bD sz r dep by1 fc:Nat} {x n f y b:Int} {κ α:Type} {p:Nat→Int} {hd:List cz} {fs:List dc} {ag:Bool}
theorem aw3{vS vT:Value}{fa:Option Addr}{S:List (List ah)}{ways:List (List aF)}{y:an}{x:TrD}{ro:Nat→Option Obj}(hS:cZ ro vS S)(hO:fw S)(hT:nv ro vT ways)(hW:yH ways)(hy:y∈bK S)(hLx:di S ways=[x]):eV zT 85 [.agg ⟨[vS,vT,.slice fa 0 fc]⟩,.agg ⟨[zI y.h,zI y.n,zI y.l]⟩] ro [] (fun r Y=>∃a n c,r= .tuple ⟨[.slice a n c,zI 0]⟩∧∀kK,Knows kK Y→bH kK (.slice a n c) 3 cL [x.g y]):=by
 have yx:=hS
 obtain⟨jE,hs,fY⟩:=hS
 obtain⟨nA,W6,W0,mE,rfl,W5,PK,PJ⟩:=hs
 obtain⟨j5,ht,fN⟩:=id hT
 obtain⟨eG,AN,AK,dR,rfl,AM,s9,s8⟩:=ht
 have Ju:=fY.len
 have Fz:=fN.len
 have Jq:=hO.two
 have Bd:=hW.one
 have SH:∀(i:Nat) (p:eW),([]:List eW)[i]?=some p→cF ⟨ro,[]⟩ 0 (0+i*6) 6 (oV p):=fun _ _ h=>pQ h
 have hhl:=uB hO
 have hph:=ZY hy
 have yy:(di S ways).length=1:=by rw[hLx];rfl
 refine bG av [] [] bh<|zD 2<|jn fun b2=>jn fun b3=>jd 6 [1]<|jcG (vs:=[.agg ⟨[.slice nA jE.length mE,.slice eG j5.length dR,.slice fa 0 fc]⟩]) [] (aiA yx hO hT hW) ?_
 rintro _ aC _ bB ⟨Dz,vl,ts,Lt,Z,rfl,IU,rfl,hL,htl,hA⟩
 obtain⟨uS,uT,uH,ua,uc,gb,_,_,hh⟩:=IU
 obtain⟨cK,sr,sq,cA,rfl,tN,py,px⟩:=hh
 obtain⟨Mp,I8,yh⟩:=hL.form
 subst yh
 refine jg 0 [.l Lt,.l Z]<|zD 22<|jl (b:=Dz) (off:=0) (m:=4) (vs:=[uS,uT,.slice ua 0 uc,.slice cK ((bK S).length) cA]) 3 ⟨_,_,_,.inl gb,rfl⟩<|jd 1 [2]<|jp (vs:=[.slice cK ((bK S).length) cA,.agg ⟨[zI y.h,zI y.n,zI y.l]⟩]) [] [] (fun aC hs hZ=>KW ((show bH _ _ _ _ _ from ⟨cK,sr,sq,cA,rfl,tN,py,px⟩).up hs) (by omega))<|zD 2<|js 27 (!(decide (bP (pP y.h y.n y.l) (bK S) 0≥0))) (fun h2=>?_) (fun h2=>?_)
 ·
  exfalso;simp_all
 refine zD 9<|zJ 30 ((ts.length:Int)=0) (fun h3=>?_) fun h3=>?_
 ·
  exfalso;omega
 refine zD 5<|jf [0,1] (Lt++Z) (fun ro6 fA OF=>?_)
 have hLs:=hL.kJ (Knows.left OF)
 have hAs:=hA _ (Knows.right OF)
 obtain⟨mH,MM,ML,mG,SS,PM,Kl,Kk⟩:=hLs
 simp only[Value.slice.injEq] at SS
 obtain⟨rfl,_,rfl⟩:=SS
 refine zD 9<|oL<|ek [1,1,1,1,1,1,0,1,0,0] [] (fun(zz:Nat×Value×Cells)=>[(3,zP b3),(4,zS),(5,zI 0),(9,zz.2.1),(31,.slice Mp ts.length I8),(32,zI (ts.length:Int)),(33,zI (zz.1:Int))]) (fun(zz:Nat×Value×Cells)=>[.l zz.2.2,.b b3 (.cells ⟨[zI y.h,zI y.n,zI y.l]⟩ 164 (0,0)),.b b2 (.cells ⟨[.slice nA jE.length mE,.slice eG j5.length dR,.slice fa 0 fc]⟩ 31 (0,0))]) (fun(zz:Nat×Value×Cells)=>zz.1≤ts.length∧az zz.2.1 3 164 cL ([x.g y].take zz.1) zz.2.2) (fun(zz:Nat×Value×Cells)=>ts.length-zz.1) (⟨0,zS,[]⟩) ⟨by dsimp only;omega,az.nil _ _ _⟩ [0,1,2] ?_
 rintro⟨k,vO,LO⟩ hI K1 bM rest
 dsimp only at hI
 refine zD 5<|zJ 34 ((k:Int) <(ts.length:Int)) (fun h7=>?_) fun h7=>?_
 ·
  refine zD 6 ?_
  obtain⟨x35,Uv⟩:=zG ts k
  refine iM I8 3 Kl Uv<|jl 0 (Kk _ _ Uv)<|jn fun S8=>jd 2 [0] ?_
  obtain⟨q35,aDC,_,bg3,bg8,F35,aSH,aVf,aSU,aRy⟩:=hAs.get Uv
  obtain⟨hqe,hk0⟩:=GB (by rw[hLx] at aDC;exact aDC)
  replace hqe:=hqe.symm
  subst hqe
  refine jd 5 [0,2]<|jlu (kv:=pF) (F:=F35) (r:=x35.r) (K:=164) y (zS) false [] [] Ea (fun s he _=>⟨_,_,he _ _ (.inl aSH),aVf⟩) ?_
  obtain⟨w41,aRp,aSF⟩:=Xy (k:=y) (F:=F35) (aSU y hy)
  have hww:bH _ w41 3 cL [x.g y]:=aRy _ aSF
  obtain⟨TU,qwb,qwo,MH,rfl,qwk,qwh,qwl⟩:=hww
  refine jw 41 (.slice TU ([x.g y].length) MH) (show Qx (zS) false y F35=_ from by simp only[Qx,aRp];rfl) ?_
  refine jT (sz:=3) (ps:=([x.g y].take k)) (qs:=[x.g y]) (enc:=cL) (w:= .slice TU ([x.g y].length) MH) [1] [] [] (hI.2) (fun s he _=>⟨TU,qwb,qwo,MH,rfl,qwh,fun i p hp=>(qwl i p hp).ext he⟩) (fun p _=>ar rfl) (by simp only[List.length_take,List.length_cons,List.length_nil];omega) (fun v42 L42 agj=>?_)
  obtain⟨aM1,aMD,aTu⟩:=agj.form
  subst aTu
  refine zD 3<|ja ((k:Int)+1) (by omega)<|zD 2<|bA bM (⟨k+1,(.slice aM1 ((([x.g y].take k)++[x.g y])).length aMD),L42⟩) ⟨by dsimp only;omega,by have:=agj;rw[hk0] at this ⊢;exact this⟩ (by dsimp only;omega) [0,2,3] (Sub.refl _)
 refine zD 5<|SP (vs:=[vO]) [] [0] LO (fun aC hs hZ=>Yp (hI.2.kJ hZ) (by simp only[List.length_take,List.length_cons,List.length_nil];omega)) ?_
 rintro v45 L45 aDO
 obtain⟨arP,arF,avS⟩:=aDO.form
 subst avS
 refine zD 4<|aH q0.a.a (.tuple ⟨[(.slice arP (([x.g y].take k)).length arF),zI 0]⟩) [] [0] L45 (bB.trans fA) ⟨_,_,rfl,rfl,_,_,_,rfl,fun kK hk=>by have:=aDO.kJ hk;have e: [x.g y].take k=[x.g y]:=List.take_of_length_le (by simp only[List.length_cons,List.length_nil];omega);simpa only[e] using this⟩
def TZ(S:List (List ah))(ways:List (List aF))(w:List Int)(x:aj):List an:=match ways,w with
 |l::_,i::_=>(match l[i.toNat]? with
  |some c=>[y5 S c ⟨x.st,x.no,0⟩]
  |none=>[])
 |_,_=>[⟨x.st,x.no,0⟩]
def WW(K:aE):List (List Int):=(di K.str K.ways).map (·.ways)
theorem V0{l:List aF}{w:List Int}(h:K.ways=[l])(hw:w∈WW K):∃(i:Nat) (c:aF),l[i]?=some c∧w=[(i:Int)]:=by
 simp only[WW,h,di,List.map_map,List.mem_map,List.mem_range,Function.comp,ar3] at hw
 obtain⟨i,hi,rfl⟩:=hw
 exact⟨i,l[i],List.getElem?_eq_getElem hi,rfl⟩
theorem ko.wp(h:ko K):yH K.ways:=⟨h.ways.1,fun l hl=>⟨⟨(h.ways.2 l hl).1.1,by have:=(h.ways.2 l hl).1.2;omega⟩,(h.ways.2 l hl).2⟩⟩
theorem Xg(h:ko K):K.ways=[]∨∃l,K.ways=[l]:=by
 have:=h.ways.1
 match hw:K.ways,this with
 | [],_=>exact .inl rfl
 | [l],_=>exact .inr ⟨l,rfl⟩
theorem acn(h:ko K):VZ K (WW K):=by
 rcases Xg h with e| ⟨l,e⟩
 ·exact⟨by simp[WW,e,di],fun w hw=>by simp[WW,e,di] at hw;simp[hw,e],fun w hw k l n hl=>by simp[e] at hl⟩
 have hl:=(h.ways.2 l (by simp[e])).1
 refine⟨by simp[WW,e,di];omega,fun w hw=>?_,fun w hw k l' n hk hn=>?_⟩
 ·obtain⟨i,c,_,rfl⟩:=V0 e hw;simp[e]
 obtain⟨i,c,hi,rfl⟩:=V0 e hw
 rw[e] at hk
 obtain⟨rfl,rfl⟩:=GB hk
 obtain⟨rfl,_⟩:=GB hn
 have:=(List.getElem?_eq_some_iff.1 hi).1
 omega
theorem acR{ro:Nat→Option Obj}(hK:fU ro l K)(hO:ko K):q6 ro l (WW K):=by
 obtain⟨vS,vT,vc,vh,vr,vb,va,vf,fa,fc,hv,rfl,hS,hT,_⟩:=hK
 intro aC hs
 exact anX (hS.up hs) hO.qx (hT.up hs) hO.wp
theorem aaa{S:List (List ah)}{x:aj}(h:aoJ S hd x):(⟨x.st,x.no,0⟩:an)∈bK S:=by
 obtain⟨l,h1,h2⟩:=h.2
 have:=Hi h1 h2
 simp only[mU] at this
 rwa[show ((x.st.toNat:Nat):Int)=x.st by have:=h.1.2.2.1;omega] at this
theorem aof{l:List aF}{c:aF}(h:l[i]?=some c):(l.take ((i:Int).toNat+1)).drop (i:Int).toNat=[c]:=by
 rw[Int.toNat_natCast,fg h,List.drop_append_of_le_length (by have:=(List.getElem?_eq_some_iff.1 h).1;rw[List.length_take];omega),List.drop_eq_nil_of_le (by rw[List.length_take];omega)];rfl
theorem ak5{ro:Nat→Option Obj}(hK:fU ro l K)(hO:ko K):xX ro l K (WW K) (TZ K.str K.ways):=by
 obtain⟨vS,vT,vc,vh,vr,vb,va,vf,fa,fc,hv,rfl,hS,hT,_⟩:=hK
 intro w hw x hx
 have hy:=aaa (hO.before.2 x hx)
 have fin:∀(t:TrD),yH (BA K.ways w)→di K.str (BA K.ways w)=[t]→TZ K.str K.ways w x=[t.g ⟨x.st,x.no,0⟩]→(TZ K.str K.ways w x).length≤1000∧∀aC,Sub ro aC→∀v vS' vT' vU r,[vS,vT,.slice fa 0 fc,vc,vh,vr,vb,va,zI K.gone,zI K.new,zI K.af,vf]=vS'::vT'::vU::r→nv aC v (BA K.ways w)→
  eV zT 85 [.agg ⟨[vS',v,vU]⟩,.agg ⟨[zI x.st,zI x.no,zI 0]⟩] aC [] (fun r Y=>∃a n c,r= .tuple ⟨[.slice a n c,zI 0]⟩∧∀kK,Knows kK Y→bH kK (.slice a n c) 3 cL (TZ K.str K.ways w x)):=by
  intro t h1 h2 h3
  rw[h3]
  refine⟨by simp,fun aC hs v vS' vT' vU r he hv=>?_⟩
  simp only[List.cons.injEq] at he
  obtain⟨rfl,_,rfl,_⟩:=he
  exact aw3 (hS.up hs) hO.qx hv h1 hy h2
 rcases Xg hO with e| ⟨l,e⟩
 ·refine fin ⟨[],id⟩ ?_ ?_ ?_
  ·rw[e];exact⟨by simp[BA],by simp[BA]⟩
  ·rw[e];simp[BA,di]
  rw[e];rfl
 obtain⟨i,c,hi,rfl⟩:=V0 e hw
 have hc:BA K.ways [(i:Int)]=[[c]]:=by rw[e];simp only[BA,List.zipWith_cons_cons,List.zipWith_nil_right,aof hi]
 refine fin ⟨[0],y5 K.str c⟩ ?_ ?_ ?_
 ·rw[hc]
  refine⟨by simp,fun l' hl=>?_⟩
  rw[List.mem_singleton] at hl;subst hl
  exact⟨by simp,fun c' tB=>by rw[List.mem_singleton] at tB;subst tB;exact(hO.ways.2 l (by simp[e])).2 _ (List.mem_of_getElem? hi)⟩
 ·rw[hc];rfl
 rw[e];simp only[TZ,Int.toNat_natCast,hi]
def dq(K:aE):List bE:=(WW K).map (kN K (TZ K.str K.ways))
theorem mQ(h:ko K):(dq K).length≤2:=by
 rw[dq,List.length_map];exact(acn h).n.2
theorem xk{ro:Nat→Option Obj}(hK:fU ro l K)(hO:ko K)(hV:eZ K):ir ro l K (dq K):=
 aox hK hO hV (acn hO) (acR hK hO) (ak5 hK hO)
def dt(K:aE):Nat:=(cJ K (aR K) (bZ K.gone K.new K.af) (dq K)).length
theorem HK:∀(l:List Int) (a:Int),l.foldl min a≤a∧∀x∈l,l.foldl min a≤x
 | [],a=>⟨Int.le_refl _,fun _ h=>(by cases h)⟩
 |y::l,a=>by
  obtain⟨h1,h2⟩:=HK l (min a y)
  refine⟨by simp only[List.foldl_cons];omega,fun x hx=>?_⟩
  rcases List.mem_cons.1 hx with rfl|hx
  ·simp only[List.foldl_cons];omega
  exact h2 x hx
theorem M7{l:List Int}(h:x∈l):vg l≤x:=by
 cases l with
 |nil=>cases h
 |cons y l=>
  rcases List.mem_cons.1 h with rfl|h
  ·exact(HK l _).1
  exact(HK l _).2 x h
theorem amI{ro:Nat→Option Obj}(hK:fU ro l K)(hO:ko K)(hV:eZ K):B1 zT 36 [.agg ⟨l⟩] ro [] (fun r Y=>∃zs m e,zs.Perm (cJ K (aR K) (fun _=>true) (dq K))∧Y=[]∧r= .tuple ⟨[zI m,zI e]⟩∧((zs=[]∧m=0∧e=9)∨(zs≠[]∧m=vg (zs.map F8)∧e=0))):=
 fun fr=>Fn.mono (at1 hK hV (mQ hO) (xk hK hO hV) fr) fun en s' ⟨v,Y,h1,h2,zs,h3,h4,h5⟩=>⟨v,Y,h1,h2,by
  rcases h5 with ⟨h5,h6⟩| ⟨h5,h6⟩
  ·exact⟨zs,0,9,h3,h4,h6,.inl ⟨h5,rfl,rfl⟩⟩
  exact⟨zs,_,0,h3,h4,h6,.inr ⟨h5,rfl,rfl⟩⟩⟩
theorem afd{ro:Nat→Option Obj}(hK:fU ro l K)(hO:ko K)(hV:eZ K):B1 zT 15 [.agg ⟨l⟩] ro [] (fun r Y=>r= .tuple ⟨[zI (dt K:Int),zI 0]⟩∧Y=[]):=afe hK hV (mQ hO) (xk hK hO hV)
def HZ:List Int→List Int→Bool
 | [],[]=>true
 |x::l,y::m=>decide (x=y)&&HZ l m
 |_,_=>false
theorem ai4:∀ {l m:List Int},¬l.length=m.length→HZ l m=false
 | [],[],h=>absurd rfl h
 | [],_::_,_=>rfl
 |_::_,[],_=>rfl
 |x::l,y::m,h=>by rw[HZ,ai4 (l:=l) (m:=m) (by simpa using h),Bool.and_false]
theorem ai5(hx:xs[k]?=some x) (hy:ys[k]?=some y):HZ (xs.drop k) (ys.drop k)=(decide (x=y)&&HZ (xs.drop (k+1)) (ys.drop (k+1))):=by rw[fI hx,fI hy];rfl
theorem an5(hx:¬k <xs.length)(h:xs.length=ys.length):HZ (xs.drop k) (ys.drop k)=true:=by rw[eO hx,eO (by omega)];rfl
def E6:List (List Int)→List (List Int)→Bool
 | [],[]=>true
 |x::l,y::m=>HZ x y&&E6 l m
 |_,_=>false
theorem Yx:∀ {l m:List (List Int)},¬l.length=m.length→E6 l m=false
 | [],[],h=>absurd rfl h
 | [],_::_,_=>rfl
 |_::_,[],_=>rfl
 |x::l,y::m,h=>by rw[E6,Yx (l:=l) (m:=m) (by simpa using h),Bool.and_false]
theorem Yy{xs ys:List (List Int)}{x y:List Int}(hx:xs[k]?=some x) (hy:ys[k]?=some y):E6 (xs.drop k) (ys.drop k)=(HZ x y&&E6 (xs.drop (k+1)) (ys.drop (k+1))):=by rw[fI hx,fI hy];rfl
theorem ai3{xs ys:List (List Int)}(hx:¬k <xs.length)(h:xs.length=ys.length):E6 (xs.drop k) (ys.drop k)=true:=by rw[eO hx,eO (by omega)];rfl
def yE:List Int→List Int→Int
 | [],[]=>0
 | [],_::_=> -1
 |_::_,[]=>1
 |x::xs,y::ys=>if rq x y=0 then yE xs ys else rq x y
theorem Sb(hx:xs[k]?=some x) (hy:ys[k]?=some y):yE (xs.drop k) (ys.drop k)=if rq x y=0 then yE (xs.drop (k+1)) (ys.drop (k+1)) else rq x y:=by rw[fI hx,fI hy];rfl
theorem abg(hx:xs[k]?=some x) (hy:¬k <ys.length):yE (xs.drop k) (ys.drop k)=1:=by rw[fI hx,eO hy];rfl
theorem LQ(hx:¬k <xs.length):yE (xs.drop k) (ys.drop k)=if k <ys.length then-1 else 0:=by
 rw[eO hx]
 split
 ·rename_i h
  rw[List.drop_eq_getElem_cons h];rfl
 rename_i h
 rw[eO h];rfl
def mv(f:Int):Nat→List Int
 |0=>[]
 |k+1=>mv f k++(bif hasB f k then [(k:Int)] else [])
theorem amn(h:hasB f (k:Int)=true):mv f (k+1)=mv f k++[(k:Int)]:=by rw[mv,h];rfl
theorem amo(h:hasB f (k:Int)=false):mv f (k+1)=mv f k:=by rw[mv,h];exact List.append_nil _
theorem KS(f:Int)(n:Nat):(mv f n).length≤n:=by
 induction n with
 |zero=>exact Nat.le_refl _
 |succ n ih=>rw[mv,List.length_append];cases hasB f (n:Int)<;>simp<;>omega
def yX(f:Int):Int:=([0,1,1,2,1,2,2,3,1,2,2,3,2,3,3,4]:List Int).getD f.toNat 0
theorem W8(h:0≤f∧f <16):0≤yX f∧yX f≤8:=by
 obtain⟨n,rfl⟩:=Int.eq_ofNat_of_zero_le h.1
 have h2:n <16:=by omega
 revert h2
 exact(by decide:∀n:Nat,n <16→0≤yX (n:Int)∧yX (n:Int)≤8) n
def R9(x y:Int):Int:=if yX x-yX y=0 then yE (mv x 4) (mv y 4) else yX x-yX y
theorem RZ{v w:Value}{ro:Nat→Option Obj}(hv:bH ro v 1 cq xs)(hw:bH ro w 1 cq ys)(hx:xs.length≤1000)(hy:ys.length≤1000):dz zT 12 [v,w] ro (.bool (HZ xs ys)):=by
 obtain⟨MI,qvb,qvo,BU,rfl,qvk,PH,PG⟩:=hv
 obtain⟨TU,qwb,qwo,MH,rfl,qwk,qwh,qwl⟩:=hw
 refine bG av [] [] bh<|zD 13<|js 10 (!decide ((xs.length:Int)=(ys.length:Int))) (fun h1=>?_) (fun h1=>?_)
 ·
  replace h1:=of_decide_eq_false (by simpa using h1)
  refine zD 6<|aH q0 (.bool false) [] [] [] (Sub.refl _) ⟨_,_,rfl,rfl,by rw[ai4 (by omega)],rfl⟩
 replace h1:=of_decide_eq_true (by simpa using h1)
 refine zD 8<|ek [1,1,0,1,0,0] [] (fun(zz:Nat)=>[(0,.slice MI xs.length BU),(1,.slice TU ys.length MH),(5,zI (zz:Int))]) (fun(zz:Nat)=>[]) (fun(zz:Nat)=>zz≤xs.length∧HZ xs ys=HZ (xs.drop zz) (ys.drop zz)) (fun(zz:Nat)=>xs.length-zz) 0 ⟨by omega,rfl⟩ [] ?_
 rintro k hI K1 bM rest
 refine zD 8<|zJ 14 ((k:Int) <(xs.length:Int)) (fun h2=>?_) fun h2=>?_
 ·
  refine zD 8 ?_
  obtain⟨Fi,ye⟩:=zG xs k
  refine iM BU 1 PH ye<|jl 0 (PG _ _ ye)<|zD 2 ?_
  obtain⟨vx,tv⟩:=zG ys k
  refine iM MH 1 qwh tv<|jl 0 (qwl _ _ tv)<|zD 2<|js 25 (!decide (Fi=vx)) (fun h3=>?_) (fun h3=>?_)
  ·
   replace h3:=of_decide_eq_false (by simpa using h3)
   refine zD 6<|aH q0 (.bool false) [] [] [] (Sub.refl _) ⟨_,_,rfl,rfl,by rw[hI.2,ai5 ye tv,decide_eq_false (by omega),Bool.false_and],rfl⟩
  replace h3:=of_decide_eq_true (by simpa using h3)
  refine zD 4<|ja ((k:Int)+1) (by omega)<|zD 2<|bA bM (k+1) ⟨by omega,by rw[hI.2,ai5 ye tv,decide_eq_true (by omega),Bool.true_and]⟩ (by omega) [] (Sub.refl _)
 refine zD 7<|aH q0 (.bool true) [] [] [] (Sub.refl _) ⟨_,_,rfl,rfl,by rw[hI.2,an5 (by omega) (by omega)],rfl⟩
theorem aQ2{v w:Value}{ro:Nat→Option Obj}(hv:bH ro v 1 cq xs)(hw:bH ro w 1 cq ys)(hx:xs.length≤1000)(hy:ys.length≤1000):dz zT 116 [v,w] ro (zI (yE xs ys)):=by
 obtain⟨MI,qvb,qvo,BU,rfl,qvk,PH,PG⟩:=hv
 obtain⟨TU,qwb,qwo,MH,rfl,qwk,qwh,qwl⟩:=hw
 refine bG av [] [] bh<|zD 12<|ek [1,0,1,0,0] [] (fun(zz:Nat)=>[(0,.slice MI xs.length BU),(1,.slice TU ys.length MH),(9,.slice MI xs.length BU),(10,zI (xs.length:Int)),(11,zI (zz:Int))]) (fun(zz:Nat)=>[]) (fun(zz:Nat)=>(zz≤xs.length∧zz≤ys.length)∧yE xs ys=yE (xs.drop zz) (ys.drop zz)) (fun(zz:Nat)=>xs.length-zz) 0 ⟨by omega,rfl⟩ [] ?_
 rintro k hI K1 bM rest
 refine zD 5<|zJ 12 ((k:Int) <(xs.length:Int)) (fun h1=>?_) fun h1=>?_
 ·
  refine zD 7 ?_
  obtain⟨eF,dK⟩:=zG xs k
  refine iM BU 1 PH dK<|jl 0 (PG _ _ dK)<|zD 11<|zJ 19 ((k:Int)≥(ys.length:Int)) (fun h2=>?_) fun h2=>?_
  ·
   refine zD 6<|aH q0 (zI 1) [] [] [] (Sub.refl _) ⟨_,_,rfl,rfl,by rw[hI.2,abg dK (by omega)],rfl⟩
  refine zD 6 ?_
  obtain⟨sI,ux⟩:=zG ys k
  refine iM MH 1 qwh ux<|jl 0 (qwl _ _ ux)<|zD 6<|jp (vs:=[zI eF,zI sI]) [] [] (fun aC hs hZ=>aw9)<|zD 7<|js 28 (!decide ((rq eF sI)=0)) (fun h3=>?_) (fun h3=>?_)
  ·
   replace h3:=of_decide_eq_false (by simpa using h3)
   refine zD 7<|aH q0 (zI (rq eF sI)) [] [] [] (Sub.refl _) ⟨_,_,rfl,rfl,by rw[hI.2,Sb dK ux,if_neg (by omega)],rfl⟩
  replace h3:=of_decide_eq_true (by simpa using h3)
  refine zD 3<|ja ((k:Int)+1) (by omega)<|zD 2<|bA bM (k+1) ⟨by omega,by rw[hI.2,Sb dK ux,if_pos (by omega)]⟩ (by omega) [] (Sub.refl _)
 refine zD 11<|zJ 35 ((xs.length:Int) <(ys.length:Int)) (fun h4=>?_) fun h4=>?_
 ·
  refine zD 6<|aH q0 (zI (-1)) [] [] [] (Sub.refl _) ⟨_,_,rfl,rfl,by rw[hI.2,LQ (by omega),if_pos (by omega)],rfl⟩
 refine zD 7<|aH q0 (zI 0) [] [] [] (Sub.refl _) ⟨_,_,rfl,rfl,by rw[hI.2,LQ (by omega),if_neg (by omega)],rfl⟩
theorem aiO{ro:Nat→Option Obj}:eV zT 81 [.int .u8 f] ro [] (fun r Y=>∃L,az r 1 3 cq (mv f 4) L∧Y=L):=by
 refine bG av [] [] bh<|zD 14<|oL<|ek [1,1,0,1,0,0] [] (fun(zz:Nat×Value×Cells)=>[(0,.int .u8 f),(2,zS),(3,zz.2.1),(5,zI (zz.1:Int))]) (fun(zz:Nat×Value×Cells)=>[.l zz.2.2]) (fun(zz:Nat×Value×Cells)=>zz.1≤4∧az zz.2.1 1 3 cq (mv f zz.1) zz.2.2) (fun(zz:Nat×Value×Cells)=>4-zz.1) (⟨0,zS,[]⟩) ⟨by dsimp only;omega,az.nil _ _ _⟩ [0] ?_
 rintro⟨k,v,L⟩ hI K1 bM rest
 dsimp only at hI
 have hll:=KS f k
 refine zD 5<|zJ 6 ((k:Int) <4) (fun h1=>?_) fun h1=>?_
 ·
  refine zD 13<|jp (vs:=[.int .u8 f,zI (k:Int)]) [] [] (fun aC hs hZ=>(at4 (by omega)))<|zD 1<|js 10 (hasB f (k:Int)) (fun h2=>?_) (fun h2=>?_)
  ·
   refine zD 4<|jn fun Ar=>jT (sz:=1) (ps:=(mv f k)) (qs:=[(k:Int)]) (enc:=cq) (w:= .slice (some ⟨Ar,0,none⟩) 1 1) [1] [0] [(Ar,.cells ⟨([(k:Int)].map cq).flatten⟩ 3 (0,0))] (hI.2) (fun s _ hZ=>bN [(k:Int)] (hZ _ (.head _)) (by intro p hp;rfl)) (fun p _=>ar rfl) (by simp<;>omega) (fun v14 L14 uA=>?_)
   obtain⟨Mp,I8,yh⟩:=uA.form
   subst yh
   refine zD 3<|ja ((k:Int)+1) (by omega)<|zD 2<|bA bM (⟨k+1,(.slice Mp (((mv f k)++[(k:Int)])).length I8),L14⟩) ⟨by dsimp only;omega,by dsimp only;rw[amn (by assumption)];exact uA⟩ (by dsimp only;omega) [0] (Sub.refl _)
  refine zD 3<|ja ((k:Int)+1) (by omega)<|zD 2<|bA bM (⟨k+1,v,L⟩) ⟨by dsimp only;omega,by dsimp only;rw[amo (by assumption)];exact hI.2⟩ (by dsimp only;omega) [0] (Sub.refl _)
 refine zD 8<|aH q0 (v) [] [0] L (Sub.refl _) ⟨_,_,rfl,rfl,_,(by rw[←show k=4 by omega];exact hI.2),rfl⟩
theorem atX{ro:Nat→Option Obj}:dz zT 115 [.int .u8 0] ro (zI 0):=by
 refine bG av [] [] bh<|zD 12<|aH q0 (zI 0) [] [] [] (Sub.refl _) ⟨_,_,rfl,rfl,rfl,rfl⟩
theorem atW{ro:Nat→Option Obj}:dz zT 115 [.int .u8 1] ro (zI 1):=by
 refine bG av [] [] bh<|zD 12<|aH q0 (zI 1) [] [] [] (Sub.refl _) ⟨_,_,rfl,rfl,rfl,rfl⟩
theorem atV{ro:Nat→Option Obj}:dz zT 115 [.int .u8 2] ro (zI 1):=by
 refine bG av [] [] bh<|zD 12<|aH q0 (zI 1) [] [] [] (Sub.refl _) ⟨_,_,rfl,rfl,rfl,rfl⟩
theorem atU{ro:Nat→Option Obj}:dz zT 115 [.int .u8 3] ro (zI 2):=by
 refine bG av [] [] bh<|zD 12<|aH q0 (zI 2) [] [] [] (Sub.refl _) ⟨_,_,rfl,rfl,rfl,rfl⟩
theorem atT{ro:Nat→Option Obj}:dz zT 115 [.int .u8 4] ro (zI 1):=by
 refine bG av [] [] bh<|zD 12<|aH q0 (zI 1) [] [] [] (Sub.refl _) ⟨_,_,rfl,rfl,rfl,rfl⟩
theorem atS{ro:Nat→Option Obj}:dz zT 115 [.int .u8 5] ro (zI 2):=by
 refine bG av [] [] bh<|zD 12<|aH q0 (zI 2) [] [] [] (Sub.refl _) ⟨_,_,rfl,rfl,rfl,rfl⟩
theorem atQ{ro:Nat→Option Obj}:dz zT 115 [.int .u8 6] ro (zI 2):=by
 refine bG av [] [] bh<|zD 12<|aH q0 (zI 2) [] [] [] (Sub.refl _) ⟨_,_,rfl,rfl,rfl,rfl⟩
theorem atP{ro:Nat→Option Obj}:dz zT 115 [.int .u8 7] ro (zI 3):=by
 refine bG av [] [] bh<|zD 12<|aH q0 (zI 3) [] [] [] (Sub.refl _) ⟨_,_,rfl,rfl,rfl,rfl⟩
theorem atO{ro:Nat→Option Obj}:dz zT 115 [.int .u8 8] ro (zI 1):=by
 refine bG av [] [] bh<|zD 12<|aH q0 (zI 1) [] [] [] (Sub.refl _) ⟨_,_,rfl,rfl,rfl,rfl⟩
theorem atN{ro:Nat→Option Obj}:dz zT 115 [.int .u8 9] ro (zI 2):=by
 refine bG av [] [] bh<|zD 12<|aH q0 (zI 2) [] [] [] (Sub.refl _) ⟨_,_,rfl,rfl,rfl,rfl⟩
theorem amE{ro:Nat→Option Obj}:dz zT 115 [.int .u8 10] ro (zI 2):=by
 refine bG av [] [] bh<|zD 12<|aH q0 (zI 2) [] [] [] (Sub.refl _) ⟨_,_,rfl,rfl,rfl,rfl⟩
theorem amD{ro:Nat→Option Obj}:dz zT 115 [.int .u8 11] ro (zI 3):=by
 refine bG av [] [] bh<|zD 12<|aH q0 (zI 3) [] [] [] (Sub.refl _) ⟨_,_,rfl,rfl,rfl,rfl⟩
theorem amC{ro:Nat→Option Obj}:dz zT 115 [.int .u8 12] ro (zI 2):=by
 refine bG av [] [] bh<|zD 12<|aH q0 (zI 2) [] [] [] (Sub.refl _) ⟨_,_,rfl,rfl,rfl,rfl⟩
theorem amB{ro:Nat→Option Obj}:dz zT 115 [.int .u8 13] ro (zI 3):=by
 refine bG av [] [] bh<|zD 12<|aH q0 (zI 3) [] [] [] (Sub.refl _) ⟨_,_,rfl,rfl,rfl,rfl⟩
theorem amA{ro:Nat→Option Obj}:dz zT 115 [.int .u8 14] ro (zI 3):=by
 refine bG av [] [] bh<|zD 12<|aH q0 (zI 3) [] [] [] (Sub.refl _) ⟨_,_,rfl,rfl,rfl,rfl⟩
theorem amz{ro:Nat→Option Obj}:dz zT 115 [.int .u8 15] ro (zI 4):=by
 refine bG av [] [] bh<|zD 12<|aH q0 (zI 4) [] [] [] (Sub.refl _) ⟨_,_,rfl,rfl,rfl,rfl⟩
theorem ap0{ro:Nat→Option Obj}(h:0≤f∧f <16):dz zT 115 [.int .u8 f] ro (zI (yX f)):=by
 obtain rfl|rfl|rfl|rfl|rfl|rfl|rfl|rfl|rfl|rfl|rfl|rfl|rfl|rfl|rfl|rfl:=(by omega:f=0∨f=1∨f=2∨f=3∨f=4∨f=5∨f=6∨f=7∨f=8∨f=9∨f=10∨f=11∨f=12∨f=13∨f=14∨f=15)
 ·exact atX
 ·exact atW
 ·exact atV
 ·exact atU
 ·exact atT
 ·exact atS
 ·exact atQ
 ·exact atP
 ·exact atO
 ·exact atN
 ·exact amE
 ·exact amD
 ·exact amC
 ·exact amB
 ·exact amA
 exact amz
def LL(ro:Nat→Option Obj)(v:Value)(W:List (List Int)):Prop:=∃ws,bH ro v 1 gT ws∧dD (fun w l=>bH ro w 1 cq l) ws W
theorem axj{v w:Value}{ws us:List Value}{W U:List (List Int)}{ro:Nat→Option Obj}(hv:bH ro v 1 gT ws)(hw:bH ro w 1 gT us)(ha:dD (fun w l=>bH ro w 1 cq l) ws W)(hb:dD (fun w l=>bH ro w 1 cq l) us U)(hx:W.length≤1000)(hy:U.length≤1000)(hW:∀l∈W,l.length≤1000)(hU:∀l∈U,l.length≤1000):dz zT 41 [v,w] ro (.bool (E6 W U)):=by
 obtain⟨MI,qvb,qvo,BU,rfl,qvk,PH,PG⟩:=hv
 obtain⟨TU,qwb,qwo,MH,rfl,qwk,qwh,qwl⟩:=hw
 have hla:=ha.len
 have hlb:=hb.len
 refine bG av [] [] bh<|zD 13<|js 10 (!decide ((ws.length:Int)=(us.length:Int))) (fun h1=>?_) (fun h1=>?_)
 ·
  replace h1:=of_decide_eq_false (by simpa using h1)
  refine zD 6<|aH q0 (.bool false) [] [] [] (Sub.refl _) ⟨_,_,rfl,rfl,by rw[Yx (by omega)],rfl⟩
 replace h1:=of_decide_eq_true (by simpa using h1)
 refine zD 8<|ek [1,1,0,1,0,0] [] (fun(zz:Nat)=>[(0,.slice MI ws.length BU),(1,.slice TU us.length MH),(5,zI (zz:Int))]) (fun(zz:Nat)=>[]) (fun(zz:Nat)=>zz≤W.length∧E6 W U=E6 (W.drop zz) (U.drop zz)) (fun(zz:Nat)=>W.length-zz) 0 ⟨by omega,rfl⟩ [] ?_
 rintro k hI K1 bM rest
 refine zD 8<|zJ 14 ((k:Int) <(ws.length:Int)) (fun h2=>?_) fun h2=>?_
 ·
  refine zD 8 ?_
  obtain⟨Fi,ye⟩:=zG ws k
  refine iM BU 1 PH ye ?_
  obtain⟨l20,avn,h20⟩:=ha.get ye
  obtain avf:=hW _ (List.mem_of_getElem? avn)
  obtain⟨aBD,aPF,aPB,aBC,rfl,aPD,aPE,aPC⟩:=h20
  refine jl 0 (PG _ _ ye)<|zD 2 ?_
  obtain⟨vx,tv⟩:=zG us k
  refine iM MH 1 qwh tv ?_
  obtain⟨Uj,UP,h24⟩:=hb.get tv
  obtain aD9:=hU _ (List.mem_of_getElem? UP)
  obtain⟨asY,aBw,aBu,adW,rfl,aBv,alL,alK⟩:=h24
  refine jl 0 (qwl _ _ tv)<|jp (vs:=[.slice aBD l20.length aBC,.slice asY Uj.length adW]) [] [] (fun aC hs hZ=>RZ ((show bH _ _ _ _ _ from ⟨aBD,aPF,aPB,aBC,rfl,aPD,aPE,aPC⟩).up hs) ((show bH _ _ _ _ _ from ⟨asY,aBw,aBu,adW,rfl,aBv,alL,alK⟩).up hs) avf aD9)<|zD 2<|js 26 (!(HZ l20 Uj)) (fun h3=>?_) (fun h3=>?_)
  ·
   try simp only[zB] at h3
   refine zD 6<|aH q0 (.bool false) [] [] [] (Sub.refl _) ⟨_,_,rfl,rfl,by rw[hI.2,Yy avn UP];simp_all,rfl⟩
  try simp only[zB] at h3
  refine zD 4<|ja ((k:Int)+1) (by omega)<|zD 2<|bA bM (k+1) ⟨by omega,by rw[hI.2,Yy avn UP];simp_all⟩ (by omega) [] (Sub.refl _)
 refine zD 7<|aH q0 (.bool true) [] [] [] (Sub.refl _) ⟨_,_,rfl,rfl,by rw[hI.2,ai3 (by omega) (by omega)],rfl⟩
theorem Qy:(mv f 4).length≤1000:=Nat.le_trans (KS f 4) (by decide)
def EN:Nat→List Int→List Int
 |0,ys=>ys
 |j+1,ys=>if R9 (ys.getD (j+1) 0) (ys.getD j 0) <0 then EN j ((ys.set (j+1) (ys.getD j 0)).set j (ys.getD (j+1) 0)) else ys
def Ge:Nat→Nat→List Int→List Int
 |0,_,ys=>ys
 |n+1,i,ys=>Ge n (i+1) (EN i ys)
def DT(xs:List Int):List Int:=Ge (xs.length-1) 1 xs
theorem aat{j:Int}(h:¬j>0):EN j.toNat ys=ys:=by rw[show j.toNat=0 by omega];rfl
theorem anV(h:ys[i]?=some x):ys.getD i 0=x:=by rw[List.getD_eq_getElem?_getD,h];rfl
theorem aau{j:Int}(hj:j>0)(hx:ys[j.toNat]?=some x) (hy:ys[(j-1).toNat]?=some y) (h:¬R9 x y <0):EN j.toNat ys=ys:=by
 have e:j.toNat=(j-1).toNat+1:=by omega
 rw[e] at hx ⊢
 rw[EN,anV hx,anV hy,if_neg h]
theorem XQ{j x' y':Int}(hj:j>0)(hx:ys[j.toNat]?=some x) (hy:ys[(j-1).toNat]?=some y) (ma:ys[j.toNat]?=some x') (hy':ys[(j-1).toNat]?=some y') (h:R9 x y <0):EN j.toNat ys=EN (j-1).toNat ((ys.set j.toNat y').set (j-1).toNat x'):=by
 rw[hx] at ma;rw[hy] at hy';cases ma;cases hy'
 have e:j.toNat=(j-1).toNat+1:=by omega
 rw[e] at hx ⊢
 rw[EN,anV hx,anV hy,if_pos h]
def Oo(v:Value)(xs:List Int)(Y:Cells):Prop:=∃ys,ys=DT xs∧az v 1 120 S7 ys Y
theorem Tu{n:Nat}{i:Int}(h:DT xs=Ge (n-i.toNat) i.toNat ys)(hi:0≤i∧i <n):DT xs=Ge (n-(i+1).toNat) (i+1).toNat (EN i.toNat ys):=by
 rw[h,show n-i.toNat=(n-(i+1).toNat)+1 by omega,show (i+1).toNat=i.toNat+1 by omega];rfl
theorem Zv{n:Nat}{i:Int}(h:DT xs=Ge (n-i.toNat) i.toNat ys)(hi:¬i <n):ys=DT xs:=by
 rw[h,show n-i.toNat=0 by omega];rfl
theorem aQu{ro:Nat→Option Obj}(hx:0≤x∧x <16)(hy:0≤y∧y <16):dz zT 114 [.int .u8 x,.int .u8 y] ro (zI (R9 x y)):=by
 have hpx:=W8 hx
 have hpy:=W8 hy
 refine bG av [] [] bh<|zD 8<|jp (vs:=[.int .u8 x]) [] [] (fun aC hs hZ=>(ap0 hx))<|zD 1<|jp (vs:=[.int .u8 y]) [] [] (fun aC hs hZ=>(ap0 hy))<|ja ((yX x)-(yX y)) (by omega)<|zD 7<|js 12 (!decide (((yX x)-(yX y))=0)) (fun h1=>?_) (fun h1=>?_)
 ·
  replace h1:=of_decide_eq_false (by simpa using h1)
  refine zD 7<|aH q0 (zI ((yX x)-(yX y))) [] [] [] (Sub.refl _) ⟨_,_,rfl,rfl,by rw[R9,if_neg (by omega)],rfl⟩
 replace h1:=of_decide_eq_true (by simpa using h1)
 refine zD 5<|jc (vs:=[.int .u8 x]) [] (aiO) ?_
 rintro v15 L15 ⟨_,agB,rfl⟩
 refine zD 1<|jc (vs:=[.int .u8 y]) [] (aiO) ?_
 rintro v17 L17 ⟨_,C3,rfl⟩
 refine jp (vs:=[v15,v17]) [1,0] (L15++L17) (fun aC hs hZ=>aQ2 (agB.kJ hZ.left) (C3.kJ hZ.right) Qy Qy)<|zD 3<|aH q0 (zI (yE (mv x 4) (mv y 4))) [] [] [] (Sub.refl _) ⟨_,_,rfl,rfl,by rw[R9,if_pos (by omega)],rfl⟩
theorem aQt{v:Value}{L:Cells}{ro:Nat→Option Obj}(ho:az v 1 120 S7 xs L)(hN:xs.length≤12)(hM:∀m∈xs,0≤m∧m <16):eV zT 171 [v,zI 0,zI (xs.length:Int),.func (.func 114) ⟨[]⟩ ⟨[]⟩] ro L (fun r Y=>Oo v xs Y):=by
 refine bG av [.l L] [] bh<|zD 7<|ek [1,0,0] [] (fun(zz:Int×(List Int)×Cells)=>[(0,v),(1,zI 0),(2,zI (xs.length:Int)),(3,.func (.func 114) ⟨[]⟩ ⟨[]⟩),(8,zI zz.1)]) (fun(zz:Int×(List Int)×Cells)=>[.l zz.2.2]) (fun(zz:Int×(List Int)×Cells)=>(1≤zz.1)∧az v 1 120 S7 zz.2.1 zz.2.2∧zz.2.1.Perm xs∧DT xs=Ge (xs.length-zz.1.toNat) zz.1.toNat zz.2.1) (fun(zz:Int×(List Int)×Cells)=>((xs.length:Int)-zz.1).toNat) (⟨1,xs,L⟩) ⟨by dsimp only;omega,ho,.refl _,rfl⟩ [0] ?_
 rintro⟨i,ys,L⟩ hI K1 bM rest
 dsimp only at hI
 have XT:=hI.2.2.1.length_eq
 have hym:∀m∈ys,0≤m∧m <16:=fun m hm=>hM m (hI.2.2.1.mem_iff.1 hm)
 refine zD 7<|zJ 14 (i <(xs.length:Int)) (fun h1=>?_) fun h1=>?_
 ·
  refine zD 10<|ek [1,0,0,1,0,0,1,0,0] [K1] (fun(zz:Int×(List Int)×Cells)=>[(0,v),(1,zI 0),(2,zI (xs.length:Int)),(3,.func (.func 114) ⟨[]⟩ ⟨[]⟩),(8,zI i),(9,zI zz.1)]) (fun(zz:Int×(List Int)×Cells)=>[.l zz.2.2]) (fun(zz:Int×(List Int)×Cells)=>(0≤zz.1∧zz.1≤i)∧az v 1 120 S7 zz.2.1 zz.2.2∧zz.2.1.Perm xs∧DT xs=Ge (xs.length-(i+1).toNat) (i+1).toNat (EN zz.1.toNat zz.2.1)) (fun(zz:Int×(List Int)×Cells)=>zz.1.toNat) (⟨i,ys,L⟩) ⟨by dsimp only;omega,hI.2.1,hI.2.2.1,Tu hI.2.2.2 (by omega)⟩ [0] ?_
  rintro⟨j,ys,L⟩ hJ K2 lI rest
  dsimp only at hJ
  have XT:=hJ.2.2.1.length_eq
  have hym:∀m∈ys,0≤m∧m <16:=fun m hm=>hM m (hJ.2.2.1.mem_iff.1 hm)
  refine zD 7<|js 3 (decide (j>0)) (fun h2=>?_) (fun h2=>?_)
  ·
   have mM:=h2
   replace mM:=of_decide_eq_true mM
   refine zD 3 ?_
   obtain⟨yJ,lH⟩:=zG ys (j.toNat) (by first|omega| (simp only[List.length_set];omega))
   refine pW j 1 hJ.2.1 lH (Int.toNat_of_nonneg (show 0≤j∧j <((ys).length:Int) from (by first|omega| (simp only[List.length_set];omega))).1).symm (fun dA ahi=>?_)
   refine mY 0 [0] L (fun s _ hZ=>bU hJ.2.1 ahi hZ lH)<|zD 2<|ja (j-1) (by omega) ?_
   obtain⟨gi,jv⟩:=zG ys ((j-1).toNat) (by first|omega| (simp only[List.length_set];omega))
   refine pW (j-1) 1 hJ.2.1 jv (Int.toNat_of_nonneg (show 0≤(j-1)∧(j-1) <((ys).length:Int) from (by first|omega| (simp only[List.length_set];omega))).1).symm (fun b30 NA=>?_)
   refine mY 0 [0] L (fun s _ hZ=>bU hJ.2.1 NA hZ jv)<|aM 14 fun rZ r8 p8=>jp (vs:=[.int .u8 yJ,.int .u8 gi]) [] [] (fun aC hs hZ=>(aQu (hym _ (List.mem_of_getElem? lH)) (hym _ (List.mem_of_getElem? jv))))<|bI p8 [0]<|zD 3<|zJ 34 ((R9 yJ gi) <0) (fun h4=>?_) fun h4=>?_
   ·
    refine zD 9<|ja (j-1) (by omega)<|zD 2<|ja (j-1) (by omega) ?_
    obtain⟨x3,EU⟩:=zG ys ((j-1).toNat) (by first|omega| (simp only[List.length_set];omega))
    refine pW (j-1) 1 hJ.2.1 EU (Int.toNat_of_nonneg (show 0≤(j-1)∧(j-1) <((ys).length:Int) from (by first|omega| (simp only[List.length_set];omega))).1).symm (fun b45 ahh=>?_)
    refine mY 0 [0] L (fun s _ hZ=>bU hJ.2.1 ahh hZ EU)<|zD 2 ?_
    obtain⟨I0,ET⟩:=zG ys (j.toNat) (by first|omega| (simp only[List.length_set];omega))
    refine pW j 1 hJ.2.1 ET (Int.toNat_of_nonneg (show 0≤j∧j <((ys).length:Int) from (by first|omega| (simp only[List.length_set];omega))).1).symm (fun b49 ahg=>?_)
    refine mY 0 [0] L (fun s _ hZ=>bU hJ.2.1 ahg hZ ET) ?_
    obtain⟨x51,ES⟩:=zG ys (j.toNat) (by first|omega| (simp only[List.length_set];omega))
    refine pW j 1 hJ.2.1 ES (Int.toNat_of_nonneg (show 0≤j∧j <((ys).length:Int) from (by first|omega| (simp only[List.length_set];omega))).1).symm (fun b51 ahf=>?_)
    refine aM 15 fun sL sR rn=>QG 0 0 [.int .u8 x3] x3 hJ.2.1 ahf ES rfl rfl (Nat.le_of_ble_eq_true rfl) fun L6 ho7=>gY rn [] ?_
    obtain⟨x52,C1⟩:=zG ((ys.set j.toNat x3)) ((j-1).toNat) (by first|omega| (simp only[List.length_set];omega))
    refine pW (j-1) 1 ho7 C1 (Int.toNat_of_nonneg (show 0≤(j-1)∧(j-1) <(((ys.set j.toNat x3)).length:Int) from (by first|omega| (simp only[List.length_set];omega))).1).symm (fun b52 ahe=>?_)
    refine aM 17 fun B2 Ca C8=>QG 0 0 [.int .u8 I0] I0 ho7 ahe C1 rfl rfl (Nat.le_of_ble_eq_true rfl) fun L9 agC=>eo C8<|zD 3<|ja (j-1) (by omega)<|zD 2<|bA lI (⟨(j-1),((ys.set j.toNat x3).set ((j-1).toNat) I0),L9⟩) ⟨by dsimp only;omega,agC,(nX ET EU).trans hJ.2.2.1,by dsimp only;rw[hJ.2.2.2,XQ (by omega) lH jv ET EU (by assumption)]⟩ (by dsimp only;omega) [0] (Sub.refl _)
   refine zD 4<|ja (i+1) (by omega)<|zD 2<|bA bM (⟨(i+1),ys,L⟩) ⟨by dsimp only;omega,hJ.2.1,hJ.2.2.1,by dsimp only;rw[hJ.2.2.2,aau (by omega) lH jv (by assumption)]⟩ (by dsimp only;omega) [0] (Sub.refl _)
  have mM:=h2
  replace mM:=of_decide_eq_false mM
  refine zD 18<|ja (i+1) (by omega)<|zD 2<|bA bM (⟨(i+1),ys,L⟩) ⟨by dsimp only;omega,hJ.2.1,hJ.2.2.1,by dsimp only;rw[hJ.2.2.2,aat (by omega)]⟩ (by dsimp only;omega) [0] (Sub.refl _)
 refine zD 2<|aH q0 (.tuple ⟨[]⟩) [] [0] L (Sub.refl _) ⟨_,_,rfl,rfl,ys,Zv hI.2.2.2 (by omega),hI.2.1⟩
theorem aoC(h:K.facts.length≤3):IntKind.u8.wrap (aR K+1)=((2^K.facts.length:Nat):Int):=by
 unfold aR
 generalize K.facts.length=n at h
 obtain rfl|rfl|rfl|rfl:n=0∨n=1∨n=2∨n=3:=by omega
 all_goals decide
theorem alO{n:Nat}(h:n≤3):2^n≤8:=by
 obtain rfl|rfl|rfl|rfl:n=0∨n=1∨n=2∨n=3:=by omega
 all_goals decide
theorem azW{n:Nat}(h:n≤255):Value.int .u8 (IntKind.u8.wrap (n:Int))= .int .u8 (n:Int):=by
 rw[sN .u8 rfl _ (by omega) (by simp[IntKind.bits];omega)]
def pS(n:Nat):List Int:=DT (cD (2^n))
theorem ZN{n:Nat}(h:n≤8):∀m∈cD n,0≤m∧m <16:=fun m hm=>by have:=nV hm;omega
theorem aQs{v:Value}{L:Cells}{lim:Int}{ro:Nat→Option Obj}(ho:az v 1 120 S7 xs L)(hN:xs.length≤12)(hM:∀m∈xs,0≤m∧m <16):eV zT 151 [v,zI 0,zI (xs.length:Int),zI lim,.func (.func 114) ⟨[]⟩ ⟨[]⟩] ro L (fun r Y=>Oo v xs Y):=by
 refine bG av [.l L] [] bh<|zD 9<|ek [1,1,0,0] [] (fun(zz:Nat)=>[(0,v),(1,zI 0),(2,zI (xs.length:Int)),(3,zI lim),(4,.func (.func 114) ⟨[]⟩ ⟨[]⟩),(10,.bool true),(11,.bool true)]) (fun(zz:Nat)=>[.l L]) (fun(zz:Nat)=>True) (fun(zz:Nat)=>zz) 0 trivial [0] ?_
 rintro z hI K1 bM rest
 refine zD 5<|ja ((xs.length:Int)-0) (by omega)<|zD 8<|zJ 25 (((xs.length:Int)-0)≤12) (fun h1=>?_) fun h1=>?_
 ·
  refine zD 7<|jc (vs:=[v,zI 0,zI (xs.length:Int),.func (.func 114) ⟨[]⟩ ⟨[]⟩]) [0] (aQt ho hN hM) ?_
  rintro aAH Y30 ⟨aMa,auX,wI⟩
  refine zD 2<|aH q0 (.tuple ⟨[]⟩) [] [0] Y30 (Sub.refl _) ⟨_,_,rfl,rfl,_,auX,wI⟩
 exfalso;omega
theorem aCg{v:Value}{L:Cells}{ro:Nat→Option Obj}(ho:az v 1 120 S7 xs L)(hN:xs.length≤12)(hM:∀m∈xs,0≤m∧m <16):eV zT 113 [v,.func (.func 114) ⟨[]⟩ ⟨[]⟩] ro L (fun r Y=>Oo v xs Y):=by
 refine bG av [.l L] [] bh<|zD 3<|A5 ho<|zD 6<|je (zU (xs.length:Int)) (ach (by omega))<|jp (vs:=[zU (xs.length:Int)]) [] [] (fun aC hs hZ=>(aw8 (by omega)))<|zD 1<|jc (vs:=[v,zI 0,zI (xs.length:Int),zI (aam xs.length),.func (.func 114) ⟨[]⟩ ⟨[]⟩]) [0] (aQs ho hN hM) ?_
 rintro aAI Y13 ⟨aMc,aaE,UK⟩
 refine zD 1<|aH q0 (.tuple ⟨[]⟩) [] [0] Y13 (Sub.refl _) ⟨_,_,rfl,rfl,_,aaE,UK⟩
theorem aHS{f:Nat}{rows:List bE}{ro:Nat→Option Obj}(hF:pM ro f K rows)(hV:eZ K)(hn3:K.facts.length≤3):eV zT 80 [zP f] ro [] (fun r Y=>∃L,az r 1 120 S7 (pS K.facts.length) L∧Y=L):=by
 have hp8:=alO hn3
 refine bG av [] [] bh<|zD 12<|jp (vs:=[zP f]) [] [] (fun aC hs hZ=>QC hV (hF.up hs))<|je (.int .u8 ((2^K.facts.length:Nat):Int)) (congrArg (Value.int .u8) (aoC hn3))<|zD 3<|oL<|ek [1,1,0,1,0,0] [] (fun(zz:Nat×Value×Cells)=>[(2,zS),(3,zz.2.1),(7,.int .u8 ((2^K.facts.length:Nat):Int)),(8,.int .u8 (zz.1:Int))]) (fun(zz:Nat×Value×Cells)=>[.l zz.2.2]) (fun(zz:Nat×Value×Cells)=>zz.1≤2^K.facts.length∧az zz.2.1 1 120 S7 (cD zz.1) zz.2.2) (fun(zz:Nat×Value×Cells)=>2^K.facts.length-zz.1) (⟨0,zS,[]⟩) ⟨Nat.zero_le _,az.nil _ _ _⟩ [0] ?_
 rintro⟨k,v,L⟩ hI K1 bM rest
 dsimp only at hI
 have hrl:=iv k
 refine zD 5<|zJ 9 ((k:Int) <((2^K.facts.length:Nat):Int)) (fun h1=>?_) fun h1=>?_
 ·
  refine zD 12<|jn fun Ar=>jT (sz:=1) (ps:=(cD k)) (qs:=[(k:Int)]) (enc:=S7) (w:= .slice (some ⟨Ar,0,none⟩) 1 1) [1] [0] [(Ar,.cells ⟨([(k:Int)].map S7).flatten⟩ 120 (0,0))] (hI.2) (fun s _ hZ=>bN [(k:Int)] (hZ _ (.head _)) (by intro p hp;rfl)) (fun p _=>ar rfl) (by simp<;>omega) (fun v14 L14 uA=>?_)
  obtain⟨Mp,I8,yh⟩:=uA.form
  subst yh
  refine zD 3<|je (.int .u8 ((k:Int)+1)) (azW (n:=k+1) (by omega))<|zD 2<|bA bM (⟨k+1,(.slice Mp (((cD k)++[(k:Int)])).length I8),L14⟩) ⟨by dsimp only;omega,by dsimp only;rw[vY];exact uA⟩ (by dsimp only;omega) [0] (Sub.refl _)
 refine zD 5<|jc (vs:=[v,.func (.func 114) ⟨[]⟩ ⟨[]⟩]) [0] (aCg hI.2 (by rw[iv];omega) (ZN (by omega))) ?_
 rintro bcO Y17 ⟨bbZ,aR8,C3⟩
 refine zD 7<|aH q0 (v) [] [0] Y17 (Sub.refl _) ⟨_,_,rfl,rfl,_,by rw[pS,show 2^K.facts.length=k by omega,←aR8];exact C3,rfl⟩
def JH(K:aE)(rows:List bE)(p:Nat→Int):Nat→Bool
 |0=>false
 |i+1=>JH K rows p i||bZ K.gone K.new K.af (cu K ((rows[i]?).getD ⟨fun _ _=>false⟩) i p)
theorem YZ{rows:List bE}{r:bE}(h:rows[i]?=some r):JH K rows p (i+1)=(JH K rows p i||bZ K.gone K.new K.af (cu K r i p)):=by rw[JH,h];rfl
theorem aoB{rows:List bE}{n:Nat}(h:JH K rows p i=true)(hn:i≤n):JH K rows p n=true:=by
 induction n with
 |zero=>rwa[show i=0 by omega] at h
 |succ n ih=>
  by_cases e:i=n+1
  ·rwa[e] at h
  rw[JH,ih (by omega),Bool.true_or]
def abk(K:aE)(rows:List bE)(on:Int):Bool:=(aN K on).any fun p=>JH K rows p rows.length
theorem ajO{f:α→Bool}{l:List α}{x:α}(h:l[k]?=some x) (h1:(l.take k).any f=false) (h2:f x=false):(l.take (k+1)).any f=false:=by
 rw[jL h,List.any_append,h1,List.any_cons,h2];rfl
theorem aVV{f:Nat}{rows:List bE}{on:Int}{ro:Nat→Option Obj}(hF:pM ro f K rows)(hV:eZ K)(hR:rows.length≤1000):eV zT 57 [zP f,.int .u8 on] ro [] (fun r Y=>r= .bool (abk K rows on)∧Y=[]):=by
 obtain⟨c0,c1,c2,vc,vh,vr,vb,va,vf,vt,hv,hf,p7,oP,hr,C7,Hr,EZ,bW⟩:=id hF
 obtain⟨hc,hh,dk⟩:=id p7
 obtain⟨dj,AP,AO,de,rfl,DW,yU,yT⟩:=hc
 obtain⟨cK,sr,sq,cA,rfl,tN,py,px⟩:=hh
 obtain⟨mH,MM,ML,mG,rfl,PM,Kl,Kk⟩:=hr
 obtain⟨kO,Jf,Jd,j9,rfl,Je,EH,EG⟩:=C7
 obtain⟨kP,Ji,Jg,kg,rfl,Jh,EJ,EI⟩:=Hr
 obtain⟨mI,TX,TV,lE,rfl,TW,MO,MN⟩:=EZ
 obtain⟨nW,EE,ED,nE,rfl,PI,MK,MJ⟩:=bW
 have SW:=hV.rules.1
 have Ai:=hV.before.1
 have Ed:=hV.after.1
 have hnf:=hV.facts.1
 refine amQ av [] [] bh<|zD 2<|jn fun b2=>zD 5<|jn fun b5=>jd 9 [0,1]<|jc (vs:=[zP f,.int .u8 on]) [] (KU (on:=on) hF hV) ?_
 rintro _ _ ⟨q1,q2,q3,q4,rfl,rfl⟩
 refine jg 0 [.b q1 (.cells ⟨[zP f]⟩ 104 (0,0)),.b q2 (.cells ⟨[.func (.func 127) ⟨[]⟩ ⟨[zP q1,zP q4]⟩]⟩ 221 (0,0)),.b q3 (.cells ⟨[.bool (dw K on 0 0),.bool (dw K on 0 1),.bool (dw K on 0 2),.bool (dw K on 0 3),.bool (dw K on 1 0),.bool (dw K on 1 1),.bool (dw K on 1 2),.bool (dw K on 1 3),.bool (dw K on 2 0),.bool (dw K on 2 1),.bool (dw K on 2 2),.bool (dw K on 2 3),.bool (dw K on 3 0),.bool (dw K on 3 1),.bool (dw K on 3 2),.bool (dw K on 3 3)]⟩ 159 (0,0)),.b q4 (.cells ⟨[.int .u8 on]⟩ 120 (0,0))]<|jf [0,1,2,3,5] ((q1,.cells ⟨[zP f]⟩ 104 (0,0))::((q2,.cells ⟨[.func (.func 127) ⟨[]⟩ ⟨[zP q1,zP q4]⟩]⟩ 221 (0,0))::((q3,.cells ⟨[.bool (dw K on 0 0),.bool (dw K on 0 1),.bool (dw K on 0 2),.bool (dw K on 0 3),.bool (dw K on 1 0),.bool (dw K on 1 1),.bool (dw K on 1 2),.bool (dw K on 1 3),.bool (dw K on 2 0),.bool (dw K on 2 1),.bool (dw K on 2 2),.bool (dw K on 2 3),.bool (dw K on 3 0),.bool (dw K on 3 1),.bool (dw K on 3 2),.bool (dw K on 3 3)]⟩ 159 (0,0))::((q4,.cells ⟨[.int .u8 on]⟩ 120 (0,0))::[(b2,.cells ⟨[zP f]⟩ 104 (0,0))])))) fun yn bB iN=>zD 2<|jrf [] (XJ (on:=on) (hF.up bB) hV (iN _ (.head _)) (iN _ (.tail _ (.head _))) (iN _ (.tail _ (.tail _ (.head _)))) (iN _ (.tail _ (.tail _ (.tail _ (.head _)))))) (by rintro _ _ _ _ ⟨_,_,rfl,_⟩;rfl) (fun(zz:Bool)=>[.b b5 (.cells ⟨[.bool zz]⟩ 4 (0,0))]) (fun kk=>(fun(zz:Bool)=>zz=false∧(((aN K on).take kk).any fun p=>JH K rows p rows.length)=false)) (fun jump=>(fun(zz:Bool)=>jump= .exit 0∧zz=true∧abk K rows on=true)) false ⟨rfl,rfl⟩ [0] ?_ ?_ ?_
 ·
  rintro bl4 bd4 kk4 vs4 LL4 bo ro4 hk4 avO hI fA
  obtain⟨p4,hp4,rfl,rfl⟩:=avO
  have hpb:=(gx hV on).2 p4 (List.mem_of_getElem? hp4)
  refine zD 1<|jn fun b6=>jd 2 [0]<|aCJ<|zD 3<|jl (b:=b2) (off:=0) (m:=1) (vs:=[zP f]) 0 ⟨_,_,_,.inl (fA _ _ (iN _ (.tail _ (.tail _ (.tail _ (.tail _ (.head _))))))),rfl⟩<|zD 2<|jl (b:=f) (off:=0) (m:=13) (vs:=[c0,c1,c2,.slice dj K.cs.length de,.slice cK hv.length cA,.slice mH K.rules.length mG,.slice kO K.before.length j9,.slice kP K.after.length kg,zI K.gone,zI K.new,zI K.af,.slice mI K.facts.length lE,.slice nW rows.length nE]) 12 ⟨_,_,_,.inl (fA _ _ (bB _ _ hf)),rfl⟩<|zD 4<|aQQ [1] [1,0,1,1,0,1,0,3,0,1,0,0] [] (fun(zz:Nat×Bool)=>[(2,zP b2),(4,.bool false),(5,zP b5),(6,zP b6),(16,zI (rows.length:Int)),(17,zI (zz.1:Int))]) (fun(zz:Nat×Bool)=>[.b b5 (.cells ⟨[.bool zz.2]⟩ 4 (0,0)),.b b6 (.cells ⟨[zI (p4 0),zI (p4 1),zI (p4 2),zI (p4 3)]⟩ 113 (0,0))]) (fun(zz:Nat×Bool)=>zz.1≤rows.length∧zz.2=false∧JH K rows p4 zz.1=false) (fun(zz:Nat×Bool)=>rows.length-zz.1) (⟨0,bo⟩) ⟨Nat.zero_le _,hI.1,rfl⟩ [2,0,1] ?_
  rintro⟨i,bo⟩ hJ K1 bM rest
  dsimp only at hJ
  refine zD 5<|zJ 18 ((i:Int) <(rows.length:Int)) (fun h5=>?_) fun h5=>?_
  ·
   refine zD 5 ?_
   obtain⟨r_,C2⟩:∃r_,rows[i]?=some r_:=⟨_,List.getElem?_eq_getElem (by omega)⟩
   refine zD 6<|jl (b:=b2) (off:=0) (m:=1) (vs:=[zP f]) 0 ⟨_,_,_,.inl (fA _ _ (iN _ (.tail _ (.tail _ (.tail _ (.tail _ (.head _))))))),rfl⟩<|jl (b:=b2) (off:=0) (m:=1) (vs:=[zP f]) 0 ⟨_,_,_,.inl (fA _ _ (iN _ (.tail _ (.tail _ (.tail _ (.tail _ (.head _))))))),rfl⟩<|jd 2 [1]<|jp (vs:=[zP f,zI (i:Int),.agg ⟨[zI (p4 0),zI (p4 1),zI (p4 2),zI (p4 3)]⟩]) [] [] (fun aC hs hZ=>ap1 (hF.up (Sub.trans (bB.trans fA) hs)) hV C2 hpb)<|jp (vs:=[zP f,.agg ⟨[zI ((cu K r_ i p4).past),zI ((cu K r_ i p4).w0),zI ((cu K r_ i p4).w1),zI ((cu K r_ i p4).w2),zI ((cu K r_ i p4).w3),zI ((cu K r_ i p4).gone),zI ((cu K r_ i p4).new),zI ((cu K r_ i p4).af)]⟩]) [] [] (fun aC hs hZ=>afm (x:=(cu K r_ i p4)) (hs _ _ (fA _ _ (bB _ _ hf))))<|aM 6 fun B3 Cb zp=>jd 1 [0]<|eo zp<|jd 5 [0]<|js 26 (bZ K.gone K.new K.af (cu K r_ i p4)) (fun h7=>?_) (fun h7=>?_)
   ·
    refine zD 2<|jys ZQ (Sub.refl _) (.exit 0) (bZ K.gone K.new K.af (cu K r_ i p4)) ⟨rfl,by assumption,List.any_eq_true.2 ⟨p4,List.mem_of_getElem? hp4,aoB (i:=i+1) (by rw[YZ C2];simp[*]) (by omega)⟩⟩ [2,0]
   refine zD 3<|ja ((i:Int)+1) (by omega)<|zD 2<|bA bM (⟨i+1,(bZ K.gone K.new K.af (cu K r_ i p4))⟩) ⟨by dsimp only;omega,by assumption,by dsimp only;rw[YZ C2,hJ.2.2,Bool.false_or];assumption⟩ (by dsimp only;omega) [0,1,2] (Sub.refl _)
  refine zD 2<|jyn ZQ (Sub.refl _) bo ⟨hJ.2.1,ajO hp4 hI.2 (by have:=hJ.2.2;rwa[show i=rows.length by omega] at this)⟩ [2,0]
 ·
  rintro bd4 bo Z4 hI hZ4
  subst hZ4
  refine jd 6 [2]<|jrM qm0.a.m (.bool bo) [0] [] [] [] bB ⟨by have:=hI.2;rw[List.take_of_length_le (Nat.le_refl _)] at this;rw[hI.1,abk,this],rfl⟩
 rintro bd4 bo Z4 jump hS hZ4
 obtain⟨rfl,hS⟩:=hS
 subst hZ4
 refine jd 6 [2]<|jrM qm0.a.m (.bool bo) [0] [] [] [] bB ⟨by rw[hS.1,hS.2],rfl⟩
def iAn(k:IntKind)(a b:Int):Int:=k.wrap (BitVec.ofInt k.bits a&&& ~~~ BitVec.ofInt k.bits b).toNat
theorem atv:pS 0=[0]:=by kernel_rfl
theorem atu:pS 1=[0,1]:=by kernel_rfl
theorem att:pS 2=[0,1,2,3]:=by kernel_rfl
theorem atr:pS 3=[0,1,2,4,3,5,6,7]:=by kernel_rfl
theorem aeM{n:Nat}(h:n≤3):(pS n).length≤8∧∀m∈pS n,0≤m∧m <16:=by
 obtain rfl|rfl|rfl|rfl:n=0∨n=1∨n=2∨n=3:=by omega
 ·rw[atv];decide
 ·rw[atu];decide
 ·rw[att];decide
 rw[atr];decide
def Mg(K:aE)(rows:List bE):Option Int:=(pS K.facts.length).find? fun m=>abk K rows (iAn .u8 (aR K) m)
theorem Yv{p:α→Bool}{l:List α}{x:α}(hx:l[k]?=some x):(l.drop k).find? p=bif p x then some x else (l.drop (k+1)).find? p:=by rw[fI hx,List.find?_cons];cases p x<;>rfl
theorem aiI{p:α→Bool}{l:List α}(hx:¬k <l.length):(l.drop k).find? p=none:=by rw[eO hx];rfl
theorem atG{rows:List bE}{ro:Nat→Option Obj}(hK:fU ro l K)(hV:eZ K)(hR:rows.length≤2)(hB:ir ro l K rows)(hn3:K.facts.length≤3):eV zT 37 [.agg ⟨l⟩] ro [] (fun r Y=>∃v e,r= .tuple ⟨[v,zI e]⟩∧((∃m,Mg K rows=some m∧az v 1 3 cq (mv m 4) Y∧e=0)∨(Mg K rows=none∧v= zS∧e=11∧Y=[]))):=by
 obtain⟨v0,v1,v3,v4,v5,v6,v7,vb,fa,fc,hv,rfl,_⟩:=hK
 have Q1:=aeM hn3
 have UO:=Q1.1
 refine bG av [] [] bh<|zD 2<|jn fun b1=>jd 6 [0]<|jc (vs:=[.agg ⟨[v0,v1,.slice fa 0 fc,v3,v4,v5,v6,v7,zI K.gone,zI K.new,zI K.af,vb]⟩]) [] (hB _ (Sub.refl _)) ?_
 rintro _ Y10 ⟨f10,rfl,awM⟩
 refine zD 5<|jf [0] Y10 (fun yn bB iN=>?_)
 have Db:=awM _ bB iN
 refine zD 13<|jc (vs:=[zP f10]) [] (aHS Db hV hn3) ?_
 rintro v17 L17 ⟨_,C3,rfl⟩
 refine A5 C3<|zD 3<|ek [1,1,1,0,1,0,0] [] (fun(zz:Nat)=>[(4,zP f10),(17,v17),(18,zI ((pS K.facts.length).length:Int)),(19,zI (zz:Int))]) (fun(zz:Nat)=>[.l L17,.b b1 (.cells ⟨[v0,v1,.slice fa 0 fc,v3,v4,v5,v6,v7,zI K.gone,zI K.new,zI K.af,vb]⟩ 40 (0,0))]) (fun(zz:Nat)=>zz≤(pS K.facts.length).length∧Mg K rows=((pS K.facts.length).drop zz).find? (fun m=>abk K rows (iAn .u8 (aR K) m))) (fun(zz:Nat)=>(pS K.facts.length).length-zz) 0 ⟨Nat.zero_le _,rfl⟩ [0,1] ?_
 rintro k hI K1 bM rest
 refine zD 5<|zJ 20 ((k:Int) <((pS K.facts.length).length:Int)) (fun h4=>?_) fun h4=>?_
 ·
  refine zD 6 ?_
  obtain⟨yK,qG⟩:=zG ((pS K.facts.length)) k (by first|omega| (simp only[List.length_set,List.length_append,List.length_cons,List.length_nil];omega))
  refine QE 1 C3 qG fun b21 aUm=>mY 0 [0] L17 (fun s _ hZ=>bU C3 aUm hZ qG)<|zD 6<|jp (vs:=[zP f10]) [] [] (fun aC hs hZ=>QC hV (Db.up hs))<|zD 1<|je (.int .u8 (iAn .u8 (aR K) yK)) rfl<|jc (vs:=[zP f10,.int .u8 (iAn .u8 (aR K) yK)]) [] (aVV Db hV (by omega)) ?_
  rintro _ _ ⟨rfl,rfl⟩
  refine jg 0 []<|zD 1<|js 28 (abk K rows (iAn .u8 (aR K) yK)) (fun h5=>?_) (fun h5=>?_)
  ·
   refine zD 4<|jc (vs:=[.int .u8 yK]) [] (aiO) ?_
   rintro v30 L30 ⟨_,wI,rfl⟩
   refine zD 4<|aH q0.a (.tuple ⟨[v30,zI 0]⟩) [] [0] L30 bB ⟨_,_,rfl,rfl,_,_,rfl,.inl ⟨_,by rw[hI.2,Yv qG];simp only[*,cond_true],wI,rfl⟩⟩
  refine zD 3<|ja ((k:Int)+1) (by omega)<|zD 2<|bA bM (k+1) ⟨by omega,by rw[hI.2,Yv qG];simp only[*,cond_false]⟩ (by omega) [0,1] (Sub.refl _)
 refine zD 8<|aH q0.a (.tuple ⟨[zS,zI 11]⟩) [] [] [] bB ⟨_,_,rfl,rfl,_,_,rfl,.inr ⟨by rw[hI.2,aiI (by omega)],rfl,rfl,rfl⟩⟩
theorem Nh{f:Nat}{rows:List bE}{ro:Nat→Option Obj}(hF:pM ro f K rows)(hV:eZ K)(hR:rows.length≤2):B1 zT 45 [zP f] ro [] (fun r Y=>∃zs v e,r= .tuple ⟨[v,zI e]⟩∧zs.Perm (cJ K (aR K) (bZ K.gone K.new K.af) rows)∧az v 8 115 cy zs Y∧((zs=[]∧e=9)∨(zs≠[]∧e=0))):=by
 refine za av [] [] bh fun fr=>zD 9<|jp (vs:=[zP f]) [] [] (fun aC hs hZ=>QC hV (hF.up hs))<|KZ (vs:=[zP f,.int .u8 (aR K)]) [] (fun _ _ h=>h) (XI hV hF hR) ?_
 rintro v8 Y8 ⟨zs,hz,ho8⟩
 refine zD 6<|A5 ho8<|zD 2<|zJ 11 ((zs.length:Int)=0) (fun h1=>?_) fun h1=>?_
 ·
  refine zD 7<|II qC (.tuple ⟨[zS,zI 9]⟩) [1] [] (Sub.refl _) ⟨zs,_,_,rfl,hz,by rw[show zs=[] from List.eq_nil_of_length_eq_zero (by omega)];exact az.nil _ _ _,.inl ⟨List.eq_nil_of_length_eq_zero (by omega),rfl⟩⟩
 refine zD 9<|II qC (.tuple ⟨[v8,zI 0]⟩) [0,1] Y8 (Sub.refl _) ⟨zs,_,_,rfl,hz,ho8,.inr ⟨fun e=>by subst e;simp at*,rfl⟩⟩
theorem XK{rows:List bE}{ro:Nat→Option Obj}(hK:fU ro l K)(hV:eZ K)(hR:rows.length≤2)(hB:ir ro l K rows):ax4 zT 82 [.agg ⟨l⟩] ro [] (fun r aC Y=>∃f zs v e,r= .tuple ⟨[pV f,v,zI e]⟩∧pM aC f K rows∧zs.Perm (cJ K (aR K) (bZ K.gone K.new K.af) rows)∧az v 8 115 cy zs Y∧((zs=[]∧e=9)∨(zs≠[]∧e=0))):=by
 obtain⟨v0,v1,v3,v4,v5,v6,v7,vb,fa,fc,hv,rfl,_⟩:=hK
 refine aCG (hm:=av) [] [] bh fun fr=>zD 2<|jn fun b1=>jd 7 [0]<|jc (vs:=[.agg ⟨[v0,v1,.slice fa 0 fc,v3,v4,v5,v6,v7,zI K.gone,zI K.new,zI K.af,vb]⟩]) [] (hB _ (Sub.refl _)) ?_
 rintro _ Y10 ⟨f10,rfl,awM⟩
 refine zD 5<|jf [0] Y10 (fun yn bB iN=>?_)
 have Db:=awM _ bB iN
 refine zD 12<|KZ (vs:=[zP f10]) [] (fun _ _ h=>h) (Nh Db hV hR) ?_
 rintro _ Y18 ⟨zs,v18,e18,rfl,hz,aaH,he⟩
 refine zD 16<|aQJ qC.a (.tuple ⟨[zP f10,v18,zI e18]⟩) [0,2] Y18 bB ⟨f10,zs,v18,e18,rfl,Db,hz,aaH,he⟩
theorem amF{x:ai}{ro:Nat→Option Obj}:dz zT 76 [.agg ⟨[zI x.past,zI x.w0,zI x.w1,zI x.w2,zI x.w3,zI x.gone,zI x.new,zI x.af]⟩] ro (zI x.af):=by
 refine bG av [] [] bh<|zD 2<|jn fun b1=>jd 9 [0]<|aH q0 (zI x.af) [] [] [] (Sub.refl _) ⟨_,_,rfl,rfl,rfl,rfl⟩
theorem aff{rows:List bE}{ro:Nat→Option Obj}(hK:fU ro l K)(hV:eZ K)(hR:rows.length≤2)(hB:ir ro l K rows):B1 zT 75 [.agg ⟨l⟩,.func (.func 76) ⟨[]⟩ ⟨[]⟩] ro [] (fun r Y=>∃zs a b e,zs.Perm (cJ K (aR K) (bZ K.gone K.new K.af) rows)∧Y=[]∧r= .tuple ⟨[.agg ⟨[zI a,zI b]⟩,zI e]⟩∧((zs=[]∧a=0∧b=0∧e=9)∨(zs≠[]∧a=vg (zs.map fun x=>x.af)∧b=CQ (zs.map fun x=>x.af)∧e=0))):=by
 obtain⟨v0,v1,v3,v4,v5,v6,v7,vb,fa,fc,hv,rfl,_⟩:=id hK
 refine za av [] [] bh fun fr=>zD 2<|jn fun b2=>jn fun b4=>jd 5 [1]<|amT (vs:=[.agg ⟨[v0,v1,.slice fa 0 fc,v3,v4,v5,v6,v7,zI K.gone,zI K.new,zI K.af,vb]⟩]) [] (fun _ _ h=>h) (XK hK hV hR hB) ?_
 rintro _ aC Y14 bB ⟨f14,zs,v14,N1,rfl,Db,hz,UJ,he⟩
 have Jr:∀x∈zs,(-4≤x.gone∧x.gone≤4)∧(-4≤x.new∧x.new≤4)∧(0≤x.af∧x.af≤4):=fun x hx=>by obtain⟨i,r,p,_,_,rfl,_⟩:=eS (hz.mem_iff.1 hx);exact kU hV r i p
 have Up:zs.length≤1250:=by rw[hz.length_eq];exact lL hV _ _ hR
 refine zD 7<|jf [0] Y14 (fun ro4 nJ X9=>?_)
 have U1:=UJ.kJ X9
 obtain⟨mT,Cv,Ct,lX,rfl,Cu,yW,yV⟩:=U1
 refine zD 7<|js 19 (!decide (N1=0)) (fun h5=>?_) (fun h5=>?_)
 ·
  replace h5:=of_decide_eq_false (by simpa using h5)
  have pe:zs=[]∧N1=9:=by rcases he with h| ⟨_,h⟩;exact h;omega
  refine jd 9 [0]<|auc qC.a.a (.tuple ⟨[.agg ⟨[zI 0,zI 0]⟩,zI N1]⟩) [0] [2] [] (bB.trans nJ) ⟨zs,_,_,_,hz,rfl,rfl,.inl ⟨pe.1,rfl,rfl,pe.2⟩⟩
 replace h5:=of_decide_eq_true (by simpa using h5)
 have pe:zs≠[]∧N1=0:=by rcases he with ⟨_,h⟩|h;omega;exact h
 have hzp:0 <zs.length:=List.length_pos_iff.2 pe.1
 refine zD 14<|oL<|ek [1,1,1,1,0,1,0,0] [] (fun(zz:Nat×Value×Cells)=>[(1,.func (.func 76) ⟨[]⟩ ⟨[]⟩),(4,zP b4),(5,zI 0),(9,zz.2.1),(22,.slice mT zs.length lX),(23,zI (zs.length:Int)),(24,zI (zz.1:Int))]) (fun(zz:Nat×Value×Cells)=>[.l zz.2.2,.b b4 (.cells ⟨[zI 0,zI 0]⟩ 93 (0,0)),.b b2 (.cells ⟨[v0,v1,.slice fa 0 fc,v3,v4,v5,v6,v7,zI K.gone,zI K.new,zI K.af,vb]⟩ 40 (0,0)),.l fr]) (fun(zz:Nat×Value×Cells)=>zz.1≤zs.length∧az zz.2.1 1 3 cq ((zs.take zz.1).map fun x=>x.af) zz.2.2) (fun(zz:Nat×Value×Cells)=>zs.length-zz.1) (⟨0,zS,[]⟩) ⟨by dsimp only;omega,az.nil _ _ _⟩ [0,1,2,3] ?_
 rintro⟨k,vS,LS⟩ hI K1 bM rest
 dsimp only at hI
 refine zD 5<|zJ 25 ((k:Int) <(zs.length:Int)) (fun h6=>?_) fun h6=>?_
 ·
  refine zD 6 ?_
  obtain⟨Tb,aaz⟩:=zG zs k
  refine iM lX 8 yW aaz<|jl 0 (yV _ _ aaz)<|jn fun S8=>jd 6 [0,0]<|jp (vs:=[.agg ⟨[zI Tb.past,zI Tb.w0,zI Tb.w1,zI Tb.w2,zI Tb.w3,zI Tb.gone,zI Tb.new,zI Tb.af]⟩]) [] [] (fun aC hs hZ=>(amF (x:=Tb)))<|jn fun b32=>jT (sz:=1) (ps:=((zs.take k).map fun x=>x.af)) (qs:=[Tb.af]) (enc:=cq) (w:= .slice (some ⟨b32,0,none⟩) 1 1) [2] [0] [(b32,.cells ⟨([Tb.af].map cq).flatten⟩ 3 (0,0))] (hI.2) (fun s _ hZ=>bN [Tb.af] (hZ _ (.head _)) (by intro p hp;rfl)) (fun p _=>ar rfl) (by simp only[List.length_map,List.length_take,List.length_cons,List.length_nil];omega) (fun v33 L33 Hf=>?_)
  obtain⟨Zm,OZ,avW⟩:=Hf.form
  subst avW
  refine zD 3<|ja ((k:Int)+1) (by omega)<|zD 2<|bA bM (⟨k+1,(.slice Zm ((((zs.take k).map fun x=>x.af)++[Tb.af])).length OZ),L33⟩) ⟨by dsimp only;omega,by rw[jL aaz,List.map_append];exact Hf⟩ (by dsimp only;omega) [0,3,4,5] (Sub.refl _)
 refine zD 5<|jp (vs:=[vS]) [0] LS (fun aC hs hZ=>apZ (hI.2.kJ hZ) ⟨by simp only[List.length_map,List.length_take];omega,by simp only[List.length_map,List.length_take];omega⟩) ?_
 refine jd 4 [1]<|auc qC.a.a (.tuple ⟨[.agg ⟨[zI (vg ((zs.take k).map fun x=>x.af)),zI (CQ ((zs.take k).map fun x=>x.af))]⟩,zI 0]⟩) [1] [3] [] (bB.trans nJ) ⟨zs,_,_,_,hz,rfl,rfl,.inr ⟨pe.1,by rw[show k=zs.length by omega,List.take_length],by rw[show k=zs.length by omega,List.take_length],rfl⟩⟩
theorem at0{rows:List bE}{ro:Nat→Option Obj}(hK:fU ro l K)(hV:eZ K)(hR:rows.length≤2)(hB:ir ro l K rows):B1 zT 35 [.agg ⟨l⟩] ro [] (fun r Y=>∃zs a b e,zs.Perm (cJ K (aR K) (bZ K.gone K.new K.af) rows)∧Y=[]∧r= .tuple ⟨[.agg ⟨[zI a,zI b]⟩,zI e]⟩∧((zs=[]∧a=0∧b=0∧e=9)∨(zs≠[]∧a=vg (zs.map fun x=>x.af)∧b=CQ (zs.map fun x=>x.af)∧e=0))):=by
 obtain⟨v0,v1,v3,v4,v5,v6,v7,vb,fa,fc,hv,rfl,_⟩:=id hK
 refine za av [] [] bh fun fr=>zD 2<|jn fun b1=>jn fun b2=>jd 5 [1]<|KZ (vs:=[.agg ⟨[v0,v1,.slice fa 0 fc,v3,v4,v5,v6,v7,zI K.gone,zI K.new,zI K.af,vb]⟩,.func (.func 76) ⟨[]⟩ ⟨[]⟩]) [] (fun _ _ h=>h) (aff hK hV hR hB) ?_
 rintro _ _ ⟨zs,a5,c5,e5,hz,rfl,rfl,he⟩
 refine jg 0 []<|jd 6 [0]<|auc qC (.tuple ⟨[.agg ⟨[zI a5,zI c5]⟩,zI e5]⟩) [0] [2] [] (Sub.refl _) ⟨zs,_,_,_,hz,rfl,rfl,he⟩
theorem atZ{a:Int}{ro:Nat→Option Obj}:dz zT 65 [zI a,zI b] ro (.bool (decide (a=b))):=by
 refine bG av [] [] bh<|zD 12<|aH q0 (.bool (decide (a=b))) [] [] [] (Sub.refl _) ⟨_,_,rfl,rfl,rfl,rfl⟩
theorem aIc{a:Int}{s:Bool}{ro:Nat→Option Obj}:dz zT 39 [zI a,zI b,.bool s] ro (.agg ⟨[zI a,zI b,.bool s]⟩):=by
 refine bG av [] [] bh<|zD 2<|jn fun b6=>jd 10 [0]<|aH q0 (.agg ⟨[zI a,zI b,.bool s]⟩) [0] [] [] (Sub.refl _) ⟨_,_,rfl,rfl,rfl,rfl⟩
theorem kG{w:ByteArray}{a c:Int}{ro:Nat→Option Obj}:dz zT 74 [.string w,zI a,zI b,zI c] ro (.agg ⟨[.string w,zI a,zI b,zI c,.bool false]⟩):=by
 refine bG av [] [] bh<|zD 2<|jn fun b8=>jd 11 [0]<|aH q0 (.agg ⟨[.string w,zI a,zI b,zI c,.bool false]⟩) [0] [] [] (Sub.refl _) ⟨_,_,rfl,rfl,rfl,rfl⟩
theorem aId{w:ByteArray}{a:Int}{ro:Nat→Option Obj}:dz zT 73 [.string w,zI a] ro (.agg ⟨[.string w,zI (-1),zI a,(zS)]⟩):=by
 refine bG av [] [] bh<|zD 2<|jn fun b4=>jd 9 [0]<|aH q0 (.agg ⟨[.string w,zI (-1),zI a,zS]⟩) [0] [] [] (Sub.refl _) ⟨_,_,rfl,rfl,rfl,rfl⟩
theorem cIs{w:ByteArray}{a:Int}{va:Option Addr}{vn vc:Nat}{ro:Nat→Option Obj}:dz zT 72 [.string w,zI a,(.slice va vn vc)] ro (.agg ⟨[.string w,zI a,zI (-1),(.slice va vn vc)]⟩):=by
 refine bG av [] [] bh<|zD 2<|jn fun b6=>jd 10 [0]<|aH q0 (.agg ⟨[.string w,zI a,zI (-1),(.slice va vn vc)]⟩) [0] [] [] (Sub.refl _) ⟨_,_,rfl,rfl,rfl,rfl⟩
def VH:List bQ:=[⟨(bs [102,111,111,100]),-1⟩,⟨(bs [98,114,101,97,100]),0⟩,⟨(bs [99,108,111,116,104]),-1⟩,⟨(bs [104,97,116,115]),2⟩]
def Ds:List cz:=[⟨(bs [98,97,107,101,114]),1,-1,[]⟩,⟨(bs [98,111,110,110,101,116,115]),-1,3,[]⟩,⟨(bs [99,111,110,102,101,99,116,105,111,110,101,114]),0,-1,[0]⟩,⟨(bs [104,97,116,116,101,114]),3,-1,[]⟩,⟨(bs [109,101,114,99,101,114]),2,-1,[3]⟩,⟨(bs [109,105,108,108,105,110,101,114]),-1,1,[]⟩]
def N8:List aj:=[⟨(bs [115,109,105,116,104]),0,1,0,false⟩,⟨(bs [97,110,110,97]),0,2,3,false⟩,⟨(bs [115,109,121,116,104]),1,1,2,false⟩]
def N9:List aj:=[⟨(bs [115,109,121,116,104]),0,2,0,false⟩,⟨(bs [115,109,105,116,104]),1,1,-1,false⟩,⟨(bs [98,101,110]),0,1,4,false⟩]
abbrev aV(n:Int):aE where
 ways:=[[⟨1,0,0,0,0,0,0⟩,⟨2,0,0,0,0,0,0⟩]]
 cs:=VH
 hd:=Ds
 rules:=[⟨(bs [121]),(bs [105])⟩]
 before:=N8
 after:=N9
 gone:=1
 new:=1
 af:=n
 facts:=[]
 str:=[[⟨1,0⟩,⟨2,0⟩],[⟨1,0⟩]]
abbrev dM(dA gh b9 fJ dg dE dC:Nat)(n:Int):List Value:=[.slice (some ⟨dA,0,none⟩) 2 2,.slice (some ⟨gh,0,none⟩) 1 1,zS,.slice (some ⟨b9,0,none⟩) 4 4,.slice (some ⟨fJ,0,none⟩) 6 6,.slice (some ⟨dg,0,none⟩) 1 1,.slice (some ⟨dE,0,none⟩) 3 3,.slice (some ⟨dC,0,none⟩) 3 3,zI 1,zI 1,zI n,zS]
abbrev dQ(dA nD mh gh pf b9 fJ iD mB dg dE dC:Nat):Cells:=[(dA,.cells ⟨[.slice (some ⟨nD,0,none⟩) 2 2,.slice (some ⟨mh,0,none⟩) 1 1]⟩ 74 (0,0)),(nD,.cells ⟨[zI 1,zI 0,zI 2,zI 0]⟩ 73 (0,0)),(mh,.cells ⟨[zI 1,zI 0]⟩ 73 (0,0)),(gh,.cells ⟨[.slice (some ⟨pf,0,none⟩) 2 2]⟩ 81 (0,0)),(pf,.cells ⟨[zI 1,zI 0,zI 0,zI 0,zI 0,zI 0,zI 0,zI 2,zI 0,zI 0,zI 0,zI 0,zI 0,zI 0]⟩ 77 (0,0)),(b9,.cells ⟨[.string (bs [102,111,111,100]),zI (-1),.string (bs [98,114,101,97,100]),zI 0,.string (bs [99,108,111,116,104]),zI (-1),.string (bs [104,97,116,115]),zI 2]⟩ 140 (0,0)),(fJ,.cells ⟨[.string (bs [98,97,107,101,114]),zI 1,zI (-1),zS,.string (bs [98,111,110,110,101,116,115]),zI (-1),zI 3,zS,.string (bs [99,111,110,102,101,99,116,105,111,110,101,114]),zI 0,zI (-1),.slice (some ⟨iD,0,none⟩) 1 1,.string (bs [104,97,116,116,101,114]),zI 3,zI (-1),zS,.string (bs [109,101,114,99,101,114]),zI 2,zI (-1),.slice (some ⟨mB,0,none⟩) 1 1,.string (bs [109,105,108,108,105,110,101,114]),zI (-1),zI 1,zS]⟩ 143 (0,0)),(iD,.cells ⟨[zI 0]⟩ 3 (0,0)),(mB,.cells ⟨[zI 3]⟩ 3 (0,0)),(dg,.cells ⟨[.string (bs [121]),.string (bs [105])]⟩ 84 (0,0)),(dE,.cells ⟨[.string (bs [115,109,105,116,104]),zI 0,zI 1,zI 0,.bool false,.string (bs [97,110,110,97]),zI 0,zI 2,zI 3,.bool false,.string (bs [115,109,121,116,104]),zI 1,zI 1,zI 2,.bool false]⟩ 44 (0,0)),(dC,.cells ⟨[.string (bs [115,109,121,116,104]),zI 0,zI 2,zI 0,.bool false,.string (bs [115,109,105,116,104]),zI 1,zI 1,zI (-1),.bool false,.string (bs [98,101,110]),zI 0,zI 1,zI 4,.bool false]⟩ 44 (0,0))]
abbrev ajp(iD mB:Nat):List bC:=[⟨(bs [98,97,107,101,114]),1,-1,zS⟩,⟨(bs [98,111,110,110,101,116,115]),-1,3,zS⟩,⟨(bs [99,111,110,102,101,99,116,105,111,110,101,114]),0,-1,.slice (some ⟨iD,0,none⟩) 1 1⟩,⟨(bs [104,97,116,116,101,114]),3,-1,zS⟩,⟨(bs [109,101,114,99,101,114]),2,-1,.slice (some ⟨mB,0,none⟩) 1 1⟩,⟨(bs [109,105,108,108,105,110,101,114]),-1,1,zS⟩]
theorem dW{ro:Nat→Option Obj}{dA nD mh gh pf b9 fJ iD mB dg dE dC:Nat}(hk:Knows ro (dQ dA nD mh gh pf b9 fJ iD mB dg dE dC)):fU ro (dM dA gh b9 fJ dg dE dC n) (aV n):=
 ⟨_,_,_,_,_,_,_,_,none,0,ajp iD mB,rfl,
  ⟨[.slice (some ⟨nD,0,none⟩) 2 2,.slice (some ⟨mh,0,none⟩) 1 1],bF (enc:=gT) (T:=74) [.slice (some ⟨nD,0,none⟩) 2 2,.slice (some ⟨mh,0,none⟩) 1 1] (hk _ (.head _)) (fun _ _=>rfl),
   .cons (bF (enc:=cW) (T:=73) [⟨1,0⟩,⟨2,0⟩] (hk _ (.tail _ (.head _))) (fun _ _=>rfl)) (.cons (bF (enc:=cW) (T:=73) [⟨1,0⟩] (hk _ (.tail _ (.tail _ (.head _)))) (fun _ _=>rfl)) .nil)⟩,
  ⟨[.slice (some ⟨pf,0,none⟩) 2 2],bF (enc:=gT) (T:=81) [.slice (some ⟨pf,0,none⟩) 2 2] (hk _ (.tail _ (.tail _ (.tail _ (.head _))))) (fun _ _=>rfl),
   .cons (bF (enc:=k9) (T:=77) [⟨1,0,0,0,0,0,0⟩,⟨2,0,0,0,0,0,0⟩] (hk _ (.tail _ (.tail _ (.tail _ (.tail _ (.head _)))))) (fun _ _=>rfl)) .nil⟩,
  ⟨bF (enc:=pK) (T:=140) VH (hk _ (.tail _ (.tail _ (.tail _ (.tail _ (.tail _ (.head _))))))) (fun _ _=>rfl),bF (enc:=mz) (T:=143) (ajp iD mB) (hk _ (.tail _ (.tail _ (.tail _ (.tail _ (.tail _ (.tail _ (.head _)))))))) (fun _ _=>rfl),
   .cons ⟨rfl,rfl,rfl,bH.nil _ _ _ _ _⟩ (.cons ⟨rfl,rfl,rfl,bH.nil _ _ _ _ _⟩ (.cons ⟨rfl,rfl,rfl,bF (enc:=cq) (T:=3) [0] (hk _ (.tail _ (.tail _ (.tail _ (.tail _ (.tail _ (.tail _ (.tail _ (.head _))))))))) (fun _ _=>rfl)⟩ (.cons ⟨rfl,rfl,rfl,bH.nil _ _ _ _ _⟩ (.cons ⟨rfl,rfl,rfl,bF (enc:=cq) (T:=3) [3] (hk _ (.tail _ (.tail _ (.tail _ (.tail _ (.tail _ (.tail _ (.tail _ (.tail _ (.head _)))))))))) (fun _ _=>rfl)⟩ (.cons ⟨rfl,rfl,rfl,bH.nil _ _ _ _ _⟩ .nil)))))⟩,
  .cons ⟨rfl,rfl,rfl⟩ (.cons ⟨rfl,rfl,rfl⟩ (.cons ⟨rfl,rfl,rfl⟩ (.cons ⟨rfl,rfl,rfl⟩ (.cons ⟨rfl,rfl,rfl⟩ (.cons ⟨rfl,rfl,rfl⟩ .nil))))),
  bF (enc:=iV) (T:=84) [⟨(bs [121]),(bs [105])⟩] (hk _ (.tail _ (.tail _ (.tail _ (.tail _ (.tail _ (.tail _ (.tail _ (.tail _ (.tail _ (.head _))))))))))) (fun _ _=>rfl),bF (enc:=cU) (T:=44) N8 (hk _ (.tail _ (.tail _ (.tail _ (.tail _ (.tail _ (.tail _ (.tail _ (.tail _ (.tail _ (.tail _ (.head _)))))))))))) (fun _ _=>rfl),bF (enc:=cU) (T:=44) N9 (hk _ (.tail _ (.tail _ (.tail _ (.tail _ (.tail _ (.tail _ (.tail _ (.tail _ (.tail _ (.tail _ (.tail _ (.head _))))))))))))) (fun _ _=>rfl),bH.nil _ _ _ _ _⟩
theorem dX(dA gh b9 fJ dg dE dC:Nat)(n:Int):V7 (aV n) (dM dA gh b9 fJ dg dE dC n):=
 ⟨_,_,_,_,_,_,_,_,none,0,rfl,AG rfl rfl rfl rfl rfl rfl rfl rfl⟩
theorem LW{ro:Nat→Option Obj}:eV zT 34 [zI n] ro [] (fun r Y=>∃l,r= .agg ⟨l⟩∧(∀aK,Knows aK Y→fU aK l (aV n))∧V7 (aV n) l):=by
 refine bG av [] [] bh<|zD 2<|jn fun b2=>zD 7<|jn fun b9=>jp (vs:=[.string (bs [98,97,107,101,114]),zI 1,zS]) [] [] (fun aC hs hZ=>cIs)<|jp (vs:=[.string (bs [98,111,110,110,101,116,115]),zI 3]) [] [] (fun aC hs hZ=>aId)<|jn fun iD=>jp (vs:=[.string (bs [99,111,110,102,101,99,116,105,111,110,101,114]),zI 0,.slice (some ⟨iD,0,none⟩) 1 1]) [] [] (fun aC hs hZ=>cIs)<|jp (vs:=[.string (bs [104,97,116,116,101,114]),zI 3,zS]) [] [] (fun aC hs hZ=>cIs)<|jn fun mB=>jp (vs:=[.string (bs [109,101,114,99,101,114]),zI 2,.slice (some ⟨mB,0,none⟩) 1 1]) [] [] (fun aC hs hZ=>cIs)<|jp (vs:=[.string (bs [109,105,108,108,105,110,101,114]),zI 1]) [] [] (fun aC hs hZ=>aId)<|jn fun fJ=>zD 1<|jn fun b3=>jd 6 [0]<|jn fun nD=>zD 1<|jn fun mh=>jn fun dA=>zD 3<|jn fun pf=>zD 1<|jn fun gh=>zD 1<|jn fun b4=>jd 8 [0,0,6]<|mX [3,4] ⟨fun z1 t2 p8=>?_,fun z4 t5 hL6=>?_,trivial⟩
 ·
  refine jn fun dg=>bI p8 [1,2,3,4,5,6,7,8,9,10,11,12]<|jp (vs:=[.string (bs [115,109,105,116,104]),zI 0,zI 1,zI 0]) [] [] (fun aC hs hZ=>kG)<|jp (vs:=[.string (bs [97,110,110,97]),zI 0,zI 2,zI 3]) [] [] (fun aC hs hZ=>kG)<|jp (vs:=[.string (bs [115,109,121,116,104]),zI 1,zI 1,zI 2]) [] [] (fun aC hs hZ=>kG)<|mX [7,8] ⟨fun z7 t8 hL9=>?_,fun z10 t11 C9=>?_,trivial⟩
  ·
   refine jn fun dE=>bI hL9 [1,2,3,4,5,6,7,8,9,10,11,12,13]<|jp (vs:=[.string (bs [115,109,121,116,104]),zI 0,zI 2,zI 0]) [] [] (fun aC hs hZ=>kG)<|jp (vs:=[.string (bs [115,109,105,116,104]),zI 1,zI 1,zI (-1)]) [] [] (fun aC hs hZ=>kG)<|jp (vs:=[.string (bs [98,101,110]),zI 0,zI 1,zI 4]) [] [] (fun aC hs hZ=>kG)<|aM 11 fun ao1 apl NI=>jn fun dC=>bI NI [1,2,3,4,5,6,7,8,9,10,11,12,13,14]<|zD 1<|aM 14 fun azx aAg awG=>jd 1 [14]<|eo awG<|zD 2<|aH q0 (.agg ⟨dM dA gh b9 fJ dg dE dC n⟩) [14] [6,8,7,4,5,13,10,12,11,2,1,0] (dQ dA nD mh gh pf b9 fJ iD mB dg dE dC) (Sub.refl _) ⟨_,_,rfl,rfl,_,rfl,fun _ hk=>dW hk,dX _ _ _ _ _ _ _ _⟩
  refine jp (vs:=[.string (bs [115,109,121,116,104]),zI 0,zI 2,zI 0]) [] [] (fun aC hs hZ=>kG)<|bI C9 [0,1,2,3,4,5,6,7,8,9,10,11,12]<|mX [7,9] ⟨fun z15 t16 NH=>?_,fun z18 t19 Vb=>?_,trivial⟩
  ·
   refine jn fun dE=>bI NH [1,2,3,4,5,6,7,8,9,10,11,12,13]<|jp (vs:=[.string (bs [115,109,105,116,104]),zI 1,zI 1,zI (-1)]) [] [] (fun aC hs hZ=>kG)<|jp (vs:=[.string (bs [98,101,110]),zI 0,zI 1,zI 4]) [] [] (fun aC hs hZ=>kG)<|aM 11 fun azt aAc Rn=>jn fun dC=>bI Rn [1,2,3,4,5,6,7,8,9,10,11,12,13,14]<|zD 1<|aM 14 fun azs aAb ahF=>jd 1 [14]<|eo ahF<|zD 2<|aH q0 (.agg ⟨dM dA gh b9 fJ dg dE dC n⟩) [14] [6,8,7,4,5,13,10,12,11,2,1,0] (dQ dA nD mh gh pf b9 fJ iD mB dg dE dC) (Sub.refl _) ⟨_,_,rfl,rfl,_,rfl,fun _ hk=>dW hk,dX _ _ _ _ _ _ _ _⟩
  refine jp (vs:=[.string (bs [115,109,105,116,104]),zI 1,zI 1,zI (-1)]) [] [] (fun aC hs hZ=>kG)<|bI Vb [0,1,2,3,4,5,6,7,8,9,10,11,12]<|mX [7,10] ⟨fun z23 t24 NG=>?_,fun z26 t27 Ht=>?_,trivial⟩
  ·
   refine jn fun dE=>bI NG [1,2,3,4,5,6,7,8,9,10,11,12,13]<|jp (vs:=[.string (bs [98,101,110]),zI 0,zI 1,zI 4]) [] [] (fun aC hs hZ=>kG)<|aM 11 fun ON Pb Hs=>jn fun dC=>bI Hs [1,2,3,4,5,6,7,8,9,10,11,12,13,14]<|zD 1<|aM 14 fun Wb Wo ND=>jd 1 [14]<|eo ND<|zD 2<|aH q0 (.agg ⟨dM dA gh b9 fJ dg dE dC n⟩) [14] [6,8,7,4,5,13,10,12,11,2,1,0] (dQ dA nD mh gh pf b9 fJ iD mB dg dE dC) (Sub.refl _) ⟨_,_,rfl,rfl,_,rfl,fun _ hk=>dW hk,dX _ _ _ _ _ _ _ _⟩
  refine jp (vs:=[.string (bs [98,101,110]),zI 0,zI 1,zI 4]) [] [] (fun aC hs hZ=>kG)<|bI Ht [0,1,2,3,4,5,6,7,8,9,10,11,12]<|mX [7,11] ⟨fun z31 t32 awE=>?_,fun z34 t35 NC=>?_,trivial⟩
  ·
   refine jn fun dE=>bI awE [1,2,3,4,5,6,7,8,9,10,11,12,13]<|aM 11 fun ab8 ac0 Va=>jn fun dC=>bI Va [1,2,3,4,5,6,7,8,9,10,11,12,13,14]<|zD 1<|aM 14 fun azp az8 awD=>jd 1 [14]<|eo awD<|zD 2<|aH q0 (.agg ⟨dM dA gh b9 fJ dg dE dC n⟩) [14] [6,8,7,4,5,13,10,12,11,2,1,0] (dQ dA nD mh gh pf b9 fJ iD mB dg dE dC) (Sub.refl _) ⟨_,_,rfl,rfl,_,rfl,fun _ hk=>dW hk,dX _ _ _ _ _ _ _ _⟩
  refine jn fun dC=>bI NC [1,2,3,4,5,6,7,8,9,10,11,12,13]<|aM 7 fun azo az7 awC=>jn fun dE=>bI awC [1,2,3,4,5,6,7,8,9,10,11,12,13,14]<|zD 1<|aM 14 fun azn az6 awB=>jd 1 [14]<|eo awB<|zD 2<|aH q0 (.agg ⟨dM dA gh b9 fJ dg dE dC n⟩) [14] [6,8,7,4,5,13,10,12,11,2,0,1] (dQ dA nD mh gh pf b9 fJ iD mB dg dE dC) (Sub.refl _) ⟨_,_,rfl,rfl,_,rfl,fun _ hk=>dW hk,dX _ _ _ _ _ _ _ _⟩
 refine jp (vs:=[.string (bs [115,109,105,116,104]),zI 0,zI 1,zI 0]) [] [] (fun aC hs hZ=>kG)<|bI hL6 [0,1,2,3,4,5,6,7,8,9,10,11]<|mX [3,5] ⟨fun z41 t42 aU3=>?_,fun z44 t45 aU2=>?_,trivial⟩
 ·
  refine jn fun dg=>bI aU3 [1,2,3,4,5,6,7,8,9,10,11,12]<|jp (vs:=[.string (bs [97,110,110,97]),zI 0,zI 2,zI 3]) [] [] (fun aC hs hZ=>kG)<|jp (vs:=[.string (bs [115,109,121,116,104]),zI 1,zI 1,zI 2]) [] [] (fun aC hs hZ=>kG)<|mX [7,8] ⟨fun z47 t48 awy=>?_,fun z50 t51 U9=>?_,trivial⟩
  ·
   refine jn fun dE=>bI awy [1,2,3,4,5,6,7,8,9,10,11,12,13]<|jp (vs:=[.string (bs [115,109,121,116,104]),zI 0,zI 2,zI 0]) [] [] (fun aC hs hZ=>kG)<|jp (vs:=[.string (bs [115,109,105,116,104]),zI 1,zI 1,zI (-1)]) [] [] (fun aC hs hZ=>kG)<|jp (vs:=[.string (bs [98,101,110]),zI 0,zI 1,zI 4]) [] [] (fun aC hs hZ=>kG)<|aM 11 fun ab7 acZ U8=>jn fun dC=>bI U8 [1,2,3,4,5,6,7,8,9,10,11,12,13,14]<|zD 1<|aM 14 fun ab6 acY U7=>jd 1 [14]<|eo U7<|zD 2<|aH q0 (.agg ⟨dM dA gh b9 fJ dg dE dC n⟩) [14] [6,8,7,4,5,13,10,12,11,2,1,0] (dQ dA nD mh gh pf b9 fJ iD mB dg dE dC) (Sub.refl _) ⟨_,_,rfl,rfl,_,rfl,fun _ hk=>dW hk,dX _ _ _ _ _ _ _ _⟩
  refine jp (vs:=[.string (bs [115,109,121,116,104]),zI 0,zI 2,zI 0]) [] [] (fun aC hs hZ=>kG)<|bI U9 [0,1,2,3,4,5,6,7,8,9,10,11,12]<|mX [7,9] ⟨fun z55 t56 U6=>?_,fun z58 t59 ahw=>?_,trivial⟩
  ·
   refine jn fun dE=>bI U6 [1,2,3,4,5,6,7,8,9,10,11,12,13]<|jp (vs:=[.string (bs [115,109,105,116,104]),zI 1,zI 1,zI (-1)]) [] [] (fun aC hs hZ=>kG)<|jp (vs:=[.string (bs [98,101,110]),zI 0,zI 1,zI 4]) [] [] (fun aC hs hZ=>kG)<|aM 11 fun aoS apc ahv=>jn fun dC=>bI ahv [1,2,3,4,5,6,7,8,9,10,11,12,13,14]<|zD 1<|aM 14 fun aoR apb ahu=>jd 1 [14]<|eo ahu<|zD 2<|aH q0 (.agg ⟨dM dA gh b9 fJ dg dE dC n⟩) [14] [6,8,7,4,5,13,10,12,11,2,1,0] (dQ dA nD mh gh pf b9 fJ iD mB dg dE dC) (Sub.refl _) ⟨_,_,rfl,rfl,_,rfl,fun _ hk=>dW hk,dX _ _ _ _ _ _ _ _⟩
  refine jp (vs:=[.string (bs [115,109,105,116,104]),zI 1,zI 1,zI (-1)]) [] [] (fun aC hs hZ=>kG)<|bI ahw [0,1,2,3,4,5,6,7,8,9,10,11,12]<|mX [7,10] ⟨fun z63 t64 aht=>?_,fun z66 t67 aUZ=>?_,trivial⟩
  ·
   refine jn fun dE=>bI aht [1,2,3,4,5,6,7,8,9,10,11,12,13]<|jp (vs:=[.string (bs [98,101,110]),zI 0,zI 1,zI 4]) [] [] (fun aC hs hZ=>kG)<|aM 11 fun aXw aX7 aUY=>jn fun dC=>bI aUY [1,2,3,4,5,6,7,8,9,10,11,12,13,14]<|zD 1<|aM 14 fun aXv aX6 aUX=>jd 1 [14]<|eo aUX<|zD 2<|aH q0 (.agg ⟨dM dA gh b9 fJ dg dE dC n⟩) [14] [6,8,7,4,5,13,10,12,11,2,1,0] (dQ dA nD mh gh pf b9 fJ iD mB dg dE dC) (Sub.refl _) ⟨_,_,rfl,rfl,_,rfl,fun _ hk=>dW hk,dX _ _ _ _ _ _ _ _⟩
  refine jp (vs:=[.string (bs [98,101,110]),zI 0,zI 1,zI 4]) [] [] (fun aC hs hZ=>kG)<|bI aUZ [0,1,2,3,4,5,6,7,8,9,10,11,12]<|mX [7,11] ⟨fun z71 t72 aUW=>?_,fun z74 t75 aUV=>?_,trivial⟩
  ·
   refine jn fun dE=>bI aUW [1,2,3,4,5,6,7,8,9,10,11,12,13]<|aM 11 fun aXu aX5 aUU=>jn fun dC=>bI aUU [1,2,3,4,5,6,7,8,9,10,11,12,13,14]<|zD 1<|aM 14 fun aXt aX4 aUT=>jd 1 [14]<|eo aUT<|zD 2<|aH q0 (.agg ⟨dM dA gh b9 fJ dg dE dC n⟩) [14] [6,8,7,4,5,13,10,12,11,2,1,0] (dQ dA nD mh gh pf b9 fJ iD mB dg dE dC) (Sub.refl _) ⟨_,_,rfl,rfl,_,rfl,fun _ hk=>dW hk,dX _ _ _ _ _ _ _ _⟩
  refine jn fun dC=>bI aUV [1,2,3,4,5,6,7,8,9,10,11,12,13]<|aM 7 fun aXs aX3 aUS=>jn fun dE=>bI aUS [1,2,3,4,5,6,7,8,9,10,11,12,13,14]<|zD 1<|aM 14 fun aXr aX2 aUR=>jd 1 [14]<|eo aUR<|zD 2<|aH q0 (.agg ⟨dM dA gh b9 fJ dg dE dC n⟩) [14] [6,8,7,4,5,13,10,12,11,2,0,1] (dQ dA nD mh gh pf b9 fJ iD mB dg dE dC) (Sub.refl _) ⟨_,_,rfl,rfl,_,rfl,fun _ hk=>dW hk,dX _ _ _ _ _ _ _ _⟩
 refine jp (vs:=[.string (bs [97,110,110,97]),zI 0,zI 2,zI 3]) [] [] (fun aC hs hZ=>kG)<|bI aU2 [0,1,2,3,4,5,6,7,8,9,10,11]<|mX [3,6] ⟨fun z81 t82 aUQ=>?_,fun z84 t85 aUP=>?_,trivial⟩
 ·
  refine jn fun dg=>bI aUQ [1,2,3,4,5,6,7,8,9,10,11,12]<|jp (vs:=[.string (bs [115,109,121,116,104]),zI 1,zI 1,zI 2]) [] [] (fun aC hs hZ=>kG)<|mX [7,8] ⟨fun z87 t88 aUO=>?_,fun z90 t91 aUN=>?_,trivial⟩
  ·
   refine jn fun dE=>bI aUO [1,2,3,4,5,6,7,8,9,10,11,12,13]<|jp (vs:=[.string (bs [115,109,121,116,104]),zI 0,zI 2,zI 0]) [] [] (fun aC hs hZ=>kG)<|jp (vs:=[.string (bs [115,109,105,116,104]),zI 1,zI 1,zI (-1)]) [] [] (fun aC hs hZ=>kG)<|jp (vs:=[.string (bs [98,101,110]),zI 0,zI 1,zI 4]) [] [] (fun aC hs hZ=>kG)<|aM 11 fun aXq aX1 aUM=>jn fun dC=>bI aUM [1,2,3,4,5,6,7,8,9,10,11,12,13,14]<|zD 1<|aM 14 fun aXp aX0 aUL=>jd 1 [14]<|eo aUL<|zD 2<|aH q0 (.agg ⟨dM dA gh b9 fJ dg dE dC n⟩) [14] [6,8,7,4,5,13,10,12,11,2,1,0] (dQ dA nD mh gh pf b9 fJ iD mB dg dE dC) (Sub.refl _) ⟨_,_,rfl,rfl,_,rfl,fun _ hk=>dW hk,dX _ _ _ _ _ _ _ _⟩
  refine jp (vs:=[.string (bs [115,109,121,116,104]),zI 0,zI 2,zI 0]) [] [] (fun aC hs hZ=>kG)<|bI aUN [0,1,2,3,4,5,6,7,8,9,10,11,12]<|mX [7,9] ⟨fun z95 t96 aUK=>?_,fun z98 t99 aHi=>?_,trivial⟩
  ·
   refine jn fun dE=>bI aUK [1,2,3,4,5,6,7,8,9,10,11,12,13]<|jp (vs:=[.string (bs [115,109,105,116,104]),zI 1,zI 1,zI (-1)]) [] [] (fun aC hs hZ=>kG)<|jp (vs:=[.string (bs [98,101,110]),zI 0,zI 1,zI 4]) [] [] (fun aC hs hZ=>kG)<|aM 11 fun aL5 aOt aHh=>jn fun dC=>bI aHh [1,2,3,4,5,6,7,8,9,10,11,12,13,14]<|zD 1<|aM 14 fun aL4 aOs aHg=>jd 1 [14]<|eo aHg<|zD 2<|aH q0 (.agg ⟨dM dA gh b9 fJ dg dE dC n⟩) [14] [6,8,7,4,5,13,10,12,11,2,1,0] (dQ dA nD mh gh pf b9 fJ iD mB dg dE dC) (Sub.refl _) ⟨_,_,rfl,rfl,_,rfl,fun _ hk=>dW hk,dX _ _ _ _ _ _ _ _⟩
  refine jp (vs:=[.string (bs [115,109,105,116,104]),zI 1,zI 1,zI (-1)]) [] [] (fun aC hs hZ=>kG)<|bI aHi [0,1,2,3,4,5,6,7,8,9,10,11,12]<|mX [7,10] ⟨fun bbW t104 aHf=>?_,fun bbV t107 aHe=>?_,trivial⟩
  ·
   refine jn fun dE=>bI aHf [1,2,3,4,5,6,7,8,9,10,11,12,13]<|jp (vs:=[.string (bs [98,101,110]),zI 0,zI 1,zI 4]) [] [] (fun aC hs hZ=>kG)<|aM 11 fun aL3 aOr aHd=>jn fun dC=>bI aHd [1,2,3,4,5,6,7,8,9,10,11,12,13,14]<|zD 1<|aM 14 fun aL2 aOq aHc=>jd 1 [14]<|eo aHc<|zD 2<|aH q0 (.agg ⟨dM dA gh b9 fJ dg dE dC n⟩) [14] [6,8,7,4,5,13,10,12,11,2,1,0] (dQ dA nD mh gh pf b9 fJ iD mB dg dE dC) (Sub.refl _) ⟨_,_,rfl,rfl,_,rfl,fun _ hk=>dW hk,dX _ _ _ _ _ _ _ _⟩
  refine jp (vs:=[.string (bs [98,101,110]),zI 0,zI 1,zI 4]) [] [] (fun aC hs hZ=>kG)<|bI aHe [0,1,2,3,4,5,6,7,8,9,10,11,12]<|mX [7,11] ⟨fun bbT t112 aHb=>?_,fun bbS t115 aHa=>?_,trivial⟩
  ·
   refine jn fun dE=>bI aHb [1,2,3,4,5,6,7,8,9,10,11,12,13]<|aM 11 fun aL1 aOp aG9=>jn fun dC=>bI aG9 [1,2,3,4,5,6,7,8,9,10,11,12,13,14]<|zD 1<|aM 14 fun aL0 aOo aG8=>jd 1 [14]<|eo aG8<|zD 2<|aH q0 (.agg ⟨dM dA gh b9 fJ dg dE dC n⟩) [14] [6,8,7,4,5,13,10,12,11,2,1,0] (dQ dA nD mh gh pf b9 fJ iD mB dg dE dC) (Sub.refl _) ⟨_,_,rfl,rfl,_,rfl,fun _ hk=>dW hk,dX _ _ _ _ _ _ _ _⟩
  refine jn fun dC=>bI aHa [1,2,3,4,5,6,7,8,9,10,11,12,13]<|aM 7 fun aLZ aOn aG7=>jn fun dE=>bI aG7 [1,2,3,4,5,6,7,8,9,10,11,12,13,14]<|zD 1<|aM 14 fun aLY aOm aG6=>jd 1 [14]<|eo aG6<|zD 2<|aH q0 (.agg ⟨dM dA gh b9 fJ dg dE dC n⟩) [14] [6,8,7,4,5,13,10,12,11,2,0,1] (dQ dA nD mh gh pf b9 fJ iD mB dg dE dC) (Sub.refl _) ⟨_,_,rfl,rfl,_,rfl,fun _ hk=>dW hk,dX _ _ _ _ _ _ _ _⟩
 refine jp (vs:=[.string (bs [115,109,121,116,104]),zI 1,zI 1,zI 2]) [] [] (fun aC hs hZ=>kG)<|bI aUP [0,1,2,3,4,5,6,7,8,9,10,11]<|mX [3,7,8] ⟨fun bbQ t122 aG5=>?_,fun bbP t125 aG4=>?_,fun bbO t128 aG3=>?_,trivial⟩
 ·
  refine jn fun dg=>bI aG5 [1,2,3,4,5,6,7,8,9,10,11,12]<|mX [7,8] ⟨fun bbM t131 aG2=>?_,fun bbL t134 aG1=>?_,trivial⟩
  ·
   refine jn fun dE=>bI aG2 [1,2,3,4,5,6,7,8,9,10,11,12,13]<|jp (vs:=[.string (bs [115,109,121,116,104]),zI 0,zI 2,zI 0]) [] [] (fun aC hs hZ=>kG)<|jp (vs:=[.string (bs [115,109,105,116,104]),zI 1,zI 1,zI (-1)]) [] [] (fun aC hs hZ=>kG)<|jp (vs:=[.string (bs [98,101,110]),zI 0,zI 1,zI 4]) [] [] (fun aC hs hZ=>kG)<|aM 11 fun aLX aOl aG0=>jn fun dC=>bI aG0 [1,2,3,4,5,6,7,8,9,10,11,12,13,14]<|zD 1<|aM 14 fun aLW aOk aGZ=>jd 1 [14]<|eo aGZ<|zD 2<|aH q0 (.agg ⟨dM dA gh b9 fJ dg dE dC n⟩) [14] [6,8,7,4,5,13,10,12,11,2,1,0] (dQ dA nD mh gh pf b9 fJ iD mB dg dE dC) (Sub.refl _) ⟨_,_,rfl,rfl,_,rfl,fun _ hk=>dW hk,dX _ _ _ _ _ _ _ _⟩
  refine jp (vs:=[.string (bs [115,109,121,116,104]),zI 0,zI 2,zI 0]) [] [] (fun aC hs hZ=>kG)<|bI aG1 [0,1,2,3,4,5,6,7,8,9,10,11,12]<|mX [7,9] ⟨fun bbK t139 aGY=>?_,fun bbJ t142 aGX=>?_,trivial⟩
  ·
   refine jn fun dE=>bI aGY [1,2,3,4,5,6,7,8,9,10,11,12,13]<|jp (vs:=[.string (bs [115,109,105,116,104]),zI 1,zI 1,zI (-1)]) [] [] (fun aC hs hZ=>kG)<|jp (vs:=[.string (bs [98,101,110]),zI 0,zI 1,zI 4]) [] [] (fun aC hs hZ=>kG)<|aM 11 fun aLV aOj aGW=>jn fun dC=>bI aGW [1,2,3,4,5,6,7,8,9,10,11,12,13,14]<|zD 1<|aM 14 fun aLU aOi aGV=>jd 1 [14]<|eo aGV<|zD 2<|aH q0 (.agg ⟨dM dA gh b9 fJ dg dE dC n⟩) [14] [6,8,7,4,5,13,10,12,11,2,1,0] (dQ dA nD mh gh pf b9 fJ iD mB dg dE dC) (Sub.refl _) ⟨_,_,rfl,rfl,_,rfl,fun _ hk=>dW hk,dX _ _ _ _ _ _ _ _⟩
  refine jp (vs:=[.string (bs [115,109,105,116,104]),zI 1,zI 1,zI (-1)]) [] [] (fun aC hs hZ=>kG)<|bI aGX [0,1,2,3,4,5,6,7,8,9,10,11,12]<|mX [7,10] ⟨fun bbI t147 aGU=>?_,fun bbH t150 aGT=>?_,trivial⟩
  ·
   refine jn fun dE=>bI aGU [1,2,3,4,5,6,7,8,9,10,11,12,13]<|jp (vs:=[.string (bs [98,101,110]),zI 0,zI 1,zI 4]) [] [] (fun aC hs hZ=>kG)<|aM 11 fun aLT aOh aGS=>jn fun dC=>bI aGS [1,2,3,4,5,6,7,8,9,10,11,12,13,14]<|zD 1<|aM 14 fun aLS aOg aGR=>jd 1 [14]<|eo aGR<|zD 2<|aH q0 (.agg ⟨dM dA gh b9 fJ dg dE dC n⟩) [14] [6,8,7,4,5,13,10,12,11,2,1,0] (dQ dA nD mh gh pf b9 fJ iD mB dg dE dC) (Sub.refl _) ⟨_,_,rfl,rfl,_,rfl,fun _ hk=>dW hk,dX _ _ _ _ _ _ _ _⟩
  refine jp (vs:=[.string (bs [98,101,110]),zI 0,zI 1,zI 4]) [] [] (fun aC hs hZ=>kG)<|bI aGT [0,1,2,3,4,5,6,7,8,9,10,11,12]<|mX [7,11] ⟨fun bbF t155 aGQ=>?_,fun bbE t158 aGP=>?_,trivial⟩
  ·
   refine jn fun dE=>bI aGQ [1,2,3,4,5,6,7,8,9,10,11,12,13]<|aM 11 fun aLR aOf aGO=>jn fun dC=>bI aGO [1,2,3,4,5,6,7,8,9,10,11,12,13,14]<|zD 1<|aM 14 fun aLQ aOe aGN=>jd 1 [14]<|eo aGN<|zD 2<|aH q0 (.agg ⟨dM dA gh b9 fJ dg dE dC n⟩) [14] [6,8,7,4,5,13,10,12,11,2,1,0] (dQ dA nD mh gh pf b9 fJ iD mB dg dE dC) (Sub.refl _) ⟨_,_,rfl,rfl,_,rfl,fun _ hk=>dW hk,dX _ _ _ _ _ _ _ _⟩
  refine jn fun dC=>bI aGP [1,2,3,4,5,6,7,8,9,10,11,12,13]<|aM 7 fun aLP aOd aGM=>jn fun dE=>bI aGM [1,2,3,4,5,6,7,8,9,10,11,12,13,14]<|zD 1<|aM 14 fun aLO aOc aGL=>jd 1 [14]<|eo aGL<|zD 2<|aH q0 (.agg ⟨dM dA gh b9 fJ dg dE dC n⟩) [14] [6,8,7,4,5,13,10,12,11,2,0,1] (dQ dA nD mh gh pf b9 fJ iD mB dg dE dC) (Sub.refl _) ⟨_,_,rfl,rfl,_,rfl,fun _ hk=>dW hk,dX _ _ _ _ _ _ _ _⟩
 ·
  refine jn fun dE=>bI aG4 [1,2,3,4,5,6,7,8,9,10,11,12]<|mX [3,8] ⟨fun bbC t165 aGK=>?_,fun bbB t168 aGJ=>?_,trivial⟩
  ·
   refine jn fun dg=>bI aGK [1,2,3,4,5,6,7,8,9,10,11,12,13]<|jp (vs:=[.string (bs [115,109,121,116,104]),zI 0,zI 2,zI 0]) [] [] (fun aC hs hZ=>kG)<|jp (vs:=[.string (bs [115,109,105,116,104]),zI 1,zI 1,zI (-1)]) [] [] (fun aC hs hZ=>kG)<|jp (vs:=[.string (bs [98,101,110]),zI 0,zI 1,zI 4]) [] [] (fun aC hs hZ=>kG)<|aM 11 fun aLN aOb aGI=>jn fun dC=>bI aGI [1,2,3,4,5,6,7,8,9,10,11,12,13,14]<|zD 1<|aM 14 fun aLM aOa aGH=>jd 1 [14]<|eo aGH<|zD 2<|aH q0 (.agg ⟨dM dA gh b9 fJ dg dE dC n⟩) [14] [6,8,7,4,5,13,10,12,11,1,2,0] (dQ dA nD mh gh pf b9 fJ iD mB dg dE dC) (Sub.refl _) ⟨_,_,rfl,rfl,_,rfl,fun _ hk=>dW hk,dX _ _ _ _ _ _ _ _⟩
  refine jp (vs:=[.string (bs [115,109,121,116,104]),zI 0,zI 2,zI 0]) [] [] (fun aC hs hZ=>kG)<|bI aGJ [0,1,2,3,4,5,6,7,8,9,10,11,12]<|mX [3,9] ⟨fun bbA t173 aGG=>?_,fun bbz t176 aGF=>?_,trivial⟩
  ·
   refine jn fun dg=>bI aGG [1,2,3,4,5,6,7,8,9,10,11,12,13]<|jp (vs:=[.string (bs [115,109,105,116,104]),zI 1,zI 1,zI (-1)]) [] [] (fun aC hs hZ=>kG)<|jp (vs:=[.string (bs [98,101,110]),zI 0,zI 1,zI 4]) [] [] (fun aC hs hZ=>kG)<|aM 11 fun aLL aN9 aGE=>jn fun dC=>bI aGE [1,2,3,4,5,6,7,8,9,10,11,12,13,14]<|zD 1<|aM 14 fun aLK aN8 aGD=>jd 1 [14]<|eo aGD<|zD 2<|aH q0 (.agg ⟨dM dA gh b9 fJ dg dE dC n⟩) [14] [6,8,7,4,5,13,10,12,11,1,2,0] (dQ dA nD mh gh pf b9 fJ iD mB dg dE dC) (Sub.refl _) ⟨_,_,rfl,rfl,_,rfl,fun _ hk=>dW hk,dX _ _ _ _ _ _ _ _⟩
  refine jp (vs:=[.string (bs [115,109,105,116,104]),zI 1,zI 1,zI (-1)]) [] [] (fun aC hs hZ=>kG)<|bI aGF [0,1,2,3,4,5,6,7,8,9,10,11,12]<|mX [3,10] ⟨fun bbx t181 aGC=>?_,fun bbw t184 aGB=>?_,trivial⟩
  ·
   refine jn fun dg=>bI aGC [1,2,3,4,5,6,7,8,9,10,11,12,13]<|jp (vs:=[.string (bs [98,101,110]),zI 0,zI 1,zI 4]) [] [] (fun aC hs hZ=>kG)<|aM 11 fun aLJ aN7 aGA=>jn fun dC=>bI aGA [1,2,3,4,5,6,7,8,9,10,11,12,13,14]<|zD 1<|aM 14 fun aLI aN6 aGz=>jd 1 [14]<|eo aGz<|zD 2<|aH q0 (.agg ⟨dM dA gh b9 fJ dg dE dC n⟩) [14] [6,8,7,4,5,13,10,12,11,1,2,0] (dQ dA nD mh gh pf b9 fJ iD mB dg dE dC) (Sub.refl _) ⟨_,_,rfl,rfl,_,rfl,fun _ hk=>dW hk,dX _ _ _ _ _ _ _ _⟩
  refine jp (vs:=[.string (bs [98,101,110]),zI 0,zI 1,zI 4]) [] [] (fun aC hs hZ=>kG)<|bI aGB [0,1,2,3,4,5,6,7,8,9,10,11,12]<|mX [3,11] ⟨fun bbv t189 aGy=>?_,fun bbt t192 aGx=>?_,trivial⟩
  ·
   refine jn fun dg=>bI aGy [1,2,3,4,5,6,7,8,9,10,11,12,13]<|aM 11 fun aLH aN5 aGw=>jn fun dC=>bI aGw [1,2,3,4,5,6,7,8,9,10,11,12,13,14]<|zD 1<|aM 14 fun aLG aN4 aGv=>jd 1 [14]<|eo aGv<|zD 2<|aH q0 (.agg ⟨dM dA gh b9 fJ dg dE dC n⟩) [14] [6,8,7,4,5,13,10,12,11,1,2,0] (dQ dA nD mh gh pf b9 fJ iD mB dg dE dC) (Sub.refl _) ⟨_,_,rfl,rfl,_,rfl,fun _ hk=>dW hk,dX _ _ _ _ _ _ _ _⟩
  refine jn fun dC=>bI aGx [1,2,3,4,5,6,7,8,9,10,11,12,13]<|aM 3 fun aLF aN3 aGu=>jn fun dg=>bI aGu [1,2,3,4,5,6,7,8,9,10,11,12,13,14]<|zD 1<|aM 14 fun aLE aN2 aGt=>jd 1 [14]<|eo aGt<|zD 2<|aH q0 (.agg ⟨dM dA gh b9 fJ dg dE dC n⟩) [14] [6,8,7,4,5,13,10,12,11,0,2,1] (dQ dA nD mh gh pf b9 fJ iD mB dg dE dC) (Sub.refl _) ⟨_,_,rfl,rfl,_,rfl,fun _ hk=>dW hk,dX _ _ _ _ _ _ _ _⟩
 refine jp (vs:=[.string (bs [115,109,121,116,104]),zI 0,zI 2,zI 0]) [] [] (fun aC hs hZ=>kG)<|bI aG3 [0,1,2,3,4,5,6,7,8,9,10,11]<|mX [3,7,9] ⟨fun bbs t199 aGs=>?_,fun bbr t202 aGr=>?_,fun bbq t205 aGq=>?_,trivial⟩
 ·
  refine jn fun dg=>bI aGs [1,2,3,4,5,6,7,8,9,10,11,12]<|mX [7,9] ⟨fun bbp t208 aGp=>?_,fun bbo t211 aGo=>?_,trivial⟩
  ·
   refine jn fun dE=>bI aGp [1,2,3,4,5,6,7,8,9,10,11,12,13]<|jp (vs:=[.string (bs [115,109,105,116,104]),zI 1,zI 1,zI (-1)]) [] [] (fun aC hs hZ=>kG)<|jp (vs:=[.string (bs [98,101,110]),zI 0,zI 1,zI 4]) [] [] (fun aC hs hZ=>kG)<|aM 11 fun aLD aN1 aGn=>jn fun dC=>bI aGn [1,2,3,4,5,6,7,8,9,10,11,12,13,14]<|zD 1<|aM 14 fun aLC aN0 aGm=>jd 1 [14]<|eo aGm<|zD 2<|aH q0 (.agg ⟨dM dA gh b9 fJ dg dE dC n⟩) [14] [6,8,7,4,5,13,10,12,11,2,1,0] (dQ dA nD mh gh pf b9 fJ iD mB dg dE dC) (Sub.refl _) ⟨_,_,rfl,rfl,_,rfl,fun _ hk=>dW hk,dX _ _ _ _ _ _ _ _⟩
  refine jp (vs:=[.string (bs [115,109,105,116,104]),zI 1,zI 1,zI (-1)]) [] [] (fun aC hs hZ=>kG)<|bI aGo [0,1,2,3,4,5,6,7,8,9,10,11,12]<|mX [7,10] ⟨fun bbn t216 aGl=>?_,fun bbm t219 aGk=>?_,trivial⟩
  ·
   refine jn fun dE=>bI aGl [1,2,3,4,5,6,7,8,9,10,11,12,13]<|jp (vs:=[.string (bs [98,101,110]),zI 0,zI 1,zI 4]) [] [] (fun aC hs hZ=>kG)<|aM 11 fun aLB aNZ aGj=>jn fun dC=>bI aGj [1,2,3,4,5,6,7,8,9,10,11,12,13,14]<|zD 1<|aM 14 fun aLA aNY aGi=>jd 1 [14]<|eo aGi<|zD 2<|aH q0 (.agg ⟨dM dA gh b9 fJ dg dE dC n⟩) [14] [6,8,7,4,5,13,10,12,11,2,1,0] (dQ dA nD mh gh pf b9 fJ iD mB dg dE dC) (Sub.refl _) ⟨_,_,rfl,rfl,_,rfl,fun _ hk=>dW hk,dX _ _ _ _ _ _ _ _⟩
  refine jp (vs:=[.string (bs [98,101,110]),zI 0,zI 1,zI 4]) [] [] (fun aC hs hZ=>kG)<|bI aGk [0,1,2,3,4,5,6,7,8,9,10,11,12]<|mX [7,11] ⟨fun bbk t224 aGh=>?_,fun bbj t227 aGg=>?_,trivial⟩
  ·
   refine jn fun dE=>bI aGh [1,2,3,4,5,6,7,8,9,10,11,12,13]<|aM 11 fun aLz aNX aGf=>jn fun dC=>bI aGf [1,2,3,4,5,6,7,8,9,10,11,12,13,14]<|zD 1<|aM 14 fun aLy aNW aGe=>jd 1 [14]<|eo aGe<|zD 2<|aH q0 (.agg ⟨dM dA gh b9 fJ dg dE dC n⟩) [14] [6,8,7,4,5,13,10,12,11,2,1,0] (dQ dA nD mh gh pf b9 fJ iD mB dg dE dC) (Sub.refl _) ⟨_,_,rfl,rfl,_,rfl,fun _ hk=>dW hk,dX _ _ _ _ _ _ _ _⟩
  refine jn fun dC=>bI aGg [1,2,3,4,5,6,7,8,9,10,11,12,13]<|aM 7 fun aLx aNV aGd=>jn fun dE=>bI aGd [1,2,3,4,5,6,7,8,9,10,11,12,13,14]<|zD 1<|aM 14 fun aLw aNU aGc=>jd 1 [14]<|eo aGc<|zD 2<|aH q0 (.agg ⟨dM dA gh b9 fJ dg dE dC n⟩) [14] [6,8,7,4,5,13,10,12,11,2,0,1] (dQ dA nD mh gh pf b9 fJ iD mB dg dE dC) (Sub.refl _) ⟨_,_,rfl,rfl,_,rfl,fun _ hk=>dW hk,dX _ _ _ _ _ _ _ _⟩
 ·
  refine jn fun dE=>bI aGr [1,2,3,4,5,6,7,8,9,10,11,12]<|mX [3,9] ⟨fun bbh t234 aGb=>?_,fun bbg t237 aGa=>?_,trivial⟩
  ·
   refine jn fun dg=>bI aGb [1,2,3,4,5,6,7,8,9,10,11,12,13]<|jp (vs:=[.string (bs [115,109,105,116,104]),zI 1,zI 1,zI (-1)]) [] [] (fun aC hs hZ=>kG)<|jp (vs:=[.string (bs [98,101,110]),zI 0,zI 1,zI 4]) [] [] (fun aC hs hZ=>kG)<|aM 11 fun aLv aNT aF9=>jn fun dC=>bI aF9 [1,2,3,4,5,6,7,8,9,10,11,12,13,14]<|zD 1<|aM 14 fun aLu aNS aF8=>jd 1 [14]<|eo aF8<|zD 2<|aH q0 (.agg ⟨dM dA gh b9 fJ dg dE dC n⟩) [14] [6,8,7,4,5,13,10,12,11,1,2,0] (dQ dA nD mh gh pf b9 fJ iD mB dg dE dC) (Sub.refl _) ⟨_,_,rfl,rfl,_,rfl,fun _ hk=>dW hk,dX _ _ _ _ _ _ _ _⟩
  refine jp (vs:=[.string (bs [115,109,105,116,104]),zI 1,zI 1,zI (-1)]) [] [] (fun aC hs hZ=>kG)<|bI aGa [0,1,2,3,4,5,6,7,8,9,10,11,12]<|mX [3,10] ⟨fun bbf t242 aF7=>?_,fun bbe t245 aF6=>?_,trivial⟩
  ·
   refine jn fun dg=>bI aF7 [1,2,3,4,5,6,7,8,9,10,11,12,13]<|jp (vs:=[.string (bs [98,101,110]),zI 0,zI 1,zI 4]) [] [] (fun aC hs hZ=>kG)<|aM 11 fun aLt aNR aF5=>jn fun dC=>bI aF5 [1,2,3,4,5,6,7,8,9,10,11,12,13,14]<|zD 1<|aM 14 fun aLs aNQ aF4=>jd 1 [14]<|eo aF4<|zD 2<|aH q0 (.agg ⟨dM dA gh b9 fJ dg dE dC n⟩) [14] [6,8,7,4,5,13,10,12,11,1,2,0] (dQ dA nD mh gh pf b9 fJ iD mB dg dE dC) (Sub.refl _) ⟨_,_,rfl,rfl,_,rfl,fun _ hk=>dW hk,dX _ _ _ _ _ _ _ _⟩
  refine jp (vs:=[.string (bs [98,101,110]),zI 0,zI 1,zI 4]) [] [] (fun aC hs hZ=>kG)<|bI aF6 [0,1,2,3,4,5,6,7,8,9,10,11,12]<|mX [3,11] ⟨fun bbd t250 aF3=>?_,fun bbc t253 aF2=>?_,trivial⟩
  ·
   refine jn fun dg=>bI aF3 [1,2,3,4,5,6,7,8,9,10,11,12,13]<|aM 11 fun aLr aNP aF1=>jn fun dC=>bI aF1 [1,2,3,4,5,6,7,8,9,10,11,12,13,14]<|zD 1<|aM 14 fun aLq aNO aF0=>jd 1 [14]<|eo aF0<|zD 2<|aH q0 (.agg ⟨dM dA gh b9 fJ dg dE dC n⟩) [14] [6,8,7,4,5,13,10,12,11,1,2,0] (dQ dA nD mh gh pf b9 fJ iD mB dg dE dC) (Sub.refl _) ⟨_,_,rfl,rfl,_,rfl,fun _ hk=>dW hk,dX _ _ _ _ _ _ _ _⟩
  refine jn fun dC=>bI aF2 [1,2,3,4,5,6,7,8,9,10,11,12,13]<|aM 3 fun aLp aNN aFZ=>jn fun dg=>bI aFZ [1,2,3,4,5,6,7,8,9,10,11,12,13,14]<|zD 1<|aM 14 fun aLo aNM aFY=>jd 1 [14]<|eo aFY<|zD 2<|aH q0 (.agg ⟨dM dA gh b9 fJ dg dE dC n⟩) [14] [6,8,7,4,5,13,10,12,11,0,2,1] (dQ dA nD mh gh pf b9 fJ iD mB dg dE dC) (Sub.refl _) ⟨_,_,rfl,rfl,_,rfl,fun _ hk=>dW hk,dX _ _ _ _ _ _ _ _⟩
 refine jp (vs:=[.string (bs [115,109,105,116,104]),zI 1,zI 1,zI (-1)]) [] [] (fun aC hs hZ=>kG)<|bI aGq [0,1,2,3,4,5,6,7,8,9,10,11]<|mX [3,7,10] ⟨fun bbb t260 aFX=>?_,fun bba t263 aFW=>?_,fun ba9 t266 aFV=>?_,trivial⟩
 ·
  refine jn fun dg=>bI aFX [1,2,3,4,5,6,7,8,9,10,11,12]<|mX [7,10] ⟨fun ba8 t269 aFU=>?_,fun ba7 t272 aFT=>?_,trivial⟩
  ·
   refine jn fun dE=>bI aFU [1,2,3,4,5,6,7,8,9,10,11,12,13]<|jp (vs:=[.string (bs [98,101,110]),zI 0,zI 1,zI 4]) [] [] (fun aC hs hZ=>kG)<|aM 11 fun aLn aNL aFS=>jn fun dC=>bI aFS [1,2,3,4,5,6,7,8,9,10,11,12,13,14]<|zD 1<|aM 14 fun aLm aNK aFR=>jd 1 [14]<|eo aFR<|zD 2<|aH q0 (.agg ⟨dM dA gh b9 fJ dg dE dC n⟩) [14] [6,8,7,4,5,13,10,12,11,2,1,0] (dQ dA nD mh gh pf b9 fJ iD mB dg dE dC) (Sub.refl _) ⟨_,_,rfl,rfl,_,rfl,fun _ hk=>dW hk,dX _ _ _ _ _ _ _ _⟩
  refine jp (vs:=[.string (bs [98,101,110]),zI 0,zI 1,zI 4]) [] [] (fun aC hs hZ=>kG)<|bI aFT [0,1,2,3,4,5,6,7,8,9,10,11,12]<|mX [7,11] ⟨fun ba6 t277 aFQ=>?_,fun ba5 t280 aFP=>?_,trivial⟩
  ·
   refine jn fun dE=>bI aFQ [1,2,3,4,5,6,7,8,9,10,11,12,13]<|aM 11 fun aLl aNJ aFO=>jn fun dC=>bI aFO [1,2,3,4,5,6,7,8,9,10,11,12,13,14]<|zD 1<|aM 14 fun aLk aNI aFN=>jd 1 [14]<|eo aFN<|zD 2<|aH q0 (.agg ⟨dM dA gh b9 fJ dg dE dC n⟩) [14] [6,8,7,4,5,13,10,12,11,2,1,0] (dQ dA nD mh gh pf b9 fJ iD mB dg dE dC) (Sub.refl _) ⟨_,_,rfl,rfl,_,rfl,fun _ hk=>dW hk,dX _ _ _ _ _ _ _ _⟩
  refine jn fun dC=>bI aFP [1,2,3,4,5,6,7,8,9,10,11,12,13]<|aM 7 fun aLj aNH aFM=>jn fun dE=>bI aFM [1,2,3,4,5,6,7,8,9,10,11,12,13,14]<|zD 1<|aM 14 fun aLi aNG aFL=>jd 1 [14]<|eo aFL<|zD 2<|aH q0 (.agg ⟨dM dA gh b9 fJ dg dE dC n⟩) [14] [6,8,7,4,5,13,10,12,11,2,0,1] (dQ dA nD mh gh pf b9 fJ iD mB dg dE dC) (Sub.refl _) ⟨_,_,rfl,rfl,_,rfl,fun _ hk=>dW hk,dX _ _ _ _ _ _ _ _⟩
 ·
  refine jn fun dE=>bI aFW [1,2,3,4,5,6,7,8,9,10,11,12]<|mX [3,10] ⟨fun ba4 t287 aFK=>?_,fun ba3 t290 aFJ=>?_,trivial⟩
  ·
   refine jn fun dg=>bI aFK [1,2,3,4,5,6,7,8,9,10,11,12,13]<|jp (vs:=[.string (bs [98,101,110]),zI 0,zI 1,zI 4]) [] [] (fun aC hs hZ=>kG)<|aM 11 fun aLh aNF aFI=>jn fun dC=>bI aFI [1,2,3,4,5,6,7,8,9,10,11,12,13,14]<|zD 1<|aM 14 fun aLg aNE aFH=>jd 1 [14]<|eo aFH<|zD 2<|aH q0 (.agg ⟨dM dA gh b9 fJ dg dE dC n⟩) [14] [6,8,7,4,5,13,10,12,11,1,2,0] (dQ dA nD mh gh pf b9 fJ iD mB dg dE dC) (Sub.refl _) ⟨_,_,rfl,rfl,_,rfl,fun _ hk=>dW hk,dX _ _ _ _ _ _ _ _⟩
  refine jp (vs:=[.string (bs [98,101,110]),zI 0,zI 1,zI 4]) [] [] (fun aC hs hZ=>kG)<|bI aFJ [0,1,2,3,4,5,6,7,8,9,10,11,12]<|mX [3,11] ⟨fun ba2 t295 aFG=>?_,fun ba1 t298 aFF=>?_,trivial⟩
  ·
   refine jn fun dg=>bI aFG [1,2,3,4,5,6,7,8,9,10,11,12,13]<|aM 11 fun aLf aND aFE=>jn fun dC=>bI aFE [1,2,3,4,5,6,7,8,9,10,11,12,13,14]<|zD 1<|aM 14 fun aLe aNC aFD=>jd 1 [14]<|eo aFD<|zD 2<|aH q0 (.agg ⟨dM dA gh b9 fJ dg dE dC n⟩) [14] [6,8,7,4,5,13,10,12,11,1,2,0] (dQ dA nD mh gh pf b9 fJ iD mB dg dE dC) (Sub.refl _) ⟨_,_,rfl,rfl,_,rfl,fun _ hk=>dW hk,dX _ _ _ _ _ _ _ _⟩
  refine jn fun dC=>bI aFF [1,2,3,4,5,6,7,8,9,10,11,12,13]<|aM 3 fun aLd aNB aFC=>jn fun dg=>bI aFC [1,2,3,4,5,6,7,8,9,10,11,12,13,14]<|zD 1<|aM 14 fun aLc aNA aFB=>jd 1 [14]<|eo aFB<|zD 2<|aH q0 (.agg ⟨dM dA gh b9 fJ dg dE dC n⟩) [14] [6,8,7,4,5,13,10,12,11,0,2,1] (dQ dA nD mh gh pf b9 fJ iD mB dg dE dC) (Sub.refl _) ⟨_,_,rfl,rfl,_,rfl,fun _ hk=>dW hk,dX _ _ _ _ _ _ _ _⟩
 refine jp (vs:=[.string (bs [98,101,110]),zI 0,zI 1,zI 4]) [] [] (fun aC hs hZ=>kG)<|bI aFV [0,1,2,3,4,5,6,7,8,9,10,11]<|mX [3,7,11] ⟨fun ba0 t305 aFA=>?_,fun baZ t308 aFz=>?_,fun baY t311 aFy=>?_,trivial⟩
 ·
  refine jn fun dg=>bI aFA [1,2,3,4,5,6,7,8,9,10,11,12]<|mX [7,11] ⟨fun baX t314 aFx=>?_,fun baW t317 aFw=>?_,trivial⟩
  ·
   refine jn fun dE=>bI aFx [1,2,3,4,5,6,7,8,9,10,11,12,13]<|aM 11 fun aLb aNz aFv=>jn fun dC=>bI aFv [1,2,3,4,5,6,7,8,9,10,11,12,13,14]<|zD 1<|aM 14 fun aLa aNy aFu=>jd 1 [14]<|eo aFu<|zD 2<|aH q0 (.agg ⟨dM dA gh b9 fJ dg dE dC n⟩) [14] [6,8,7,4,5,13,10,12,11,2,1,0] (dQ dA nD mh gh pf b9 fJ iD mB dg dE dC) (Sub.refl _) ⟨_,_,rfl,rfl,_,rfl,fun _ hk=>dW hk,dX _ _ _ _ _ _ _ _⟩
  refine jn fun dC=>bI aFw [1,2,3,4,5,6,7,8,9,10,11,12,13]<|aM 7 fun aK9 aNx aFt=>jn fun dE=>bI aFt [1,2,3,4,5,6,7,8,9,10,11,12,13,14]<|zD 1<|aM 14 fun aK8 aNw aFs=>jd 1 [14]<|eo aFs<|zD 2<|aH q0 (.agg ⟨dM dA gh b9 fJ dg dE dC n⟩) [14] [6,8,7,4,5,13,10,12,11,2,0,1] (dQ dA nD mh gh pf b9 fJ iD mB dg dE dC) (Sub.refl _) ⟨_,_,rfl,rfl,_,rfl,fun _ hk=>dW hk,dX _ _ _ _ _ _ _ _⟩
 ·
  refine jn fun dE=>bI aFz [1,2,3,4,5,6,7,8,9,10,11,12]<|mX [3,11] ⟨fun baV t324 aFr=>?_,fun baU t327 aFq=>?_,trivial⟩
  ·
   refine jn fun dg=>bI aFr [1,2,3,4,5,6,7,8,9,10,11,12,13]<|aM 11 fun aK7 aNv aFp=>jn fun dC=>bI aFp [1,2,3,4,5,6,7,8,9,10,11,12,13,14]<|zD 1<|aM 14 fun aK6 aNu aFo=>jd 1 [14]<|eo aFo<|zD 2<|aH q0 (.agg ⟨dM dA gh b9 fJ dg dE dC n⟩) [14] [6,8,7,4,5,13,10,12,11,1,2,0] (dQ dA nD mh gh pf b9 fJ iD mB dg dE dC) (Sub.refl _) ⟨_,_,rfl,rfl,_,rfl,fun _ hk=>dW hk,dX _ _ _ _ _ _ _ _⟩
  refine jn fun dC=>bI aFq [1,2,3,4,5,6,7,8,9,10,11,12,13]<|aM 3 fun aK5 aNt aFn=>jn fun dg=>bI aFn [1,2,3,4,5,6,7,8,9,10,11,12,13,14]<|zD 1<|aM 14 fun aK4 aNs aFm=>jd 1 [14]<|eo aFm<|zD 2<|aH q0 (.agg ⟨dM dA gh b9 fJ dg dE dC n⟩) [14] [6,8,7,4,5,13,10,12,11,0,2,1] (dQ dA nD mh gh pf b9 fJ iD mB dg dE dC) (Sub.refl _) ⟨_,_,rfl,rfl,_,rfl,fun _ hk=>dW hk,dX _ _ _ _ _ _ _ _⟩
 refine jn fun dC=>bI aFy [1,2,3,4,5,6,7,8,9,10,11,12]<|mX [3,7] ⟨fun baT t334 aFl=>?_,fun baS t337 aFk=>?_,trivial⟩
 ·
  refine jn fun dg=>bI aFl [1,2,3,4,5,6,7,8,9,10,11,12,13]<|aM 7 fun aK3 aNr aFj=>jn fun dE=>bI aFj [1,2,3,4,5,6,7,8,9,10,11,12,13,14]<|zD 1<|aM 14 fun aK2 aNq aFi=>jd 1 [14]<|eo aFi<|zD 2<|aH q0 (.agg ⟨dM dA gh b9 fJ dg dE dC n⟩) [14] [6,8,7,4,5,13,10,12,11,1,0,2] (dQ dA nD mh gh pf b9 fJ iD mB dg dE dC) (Sub.refl _) ⟨_,_,rfl,rfl,_,rfl,fun _ hk=>dW hk,dX _ _ _ _ _ _ _ _⟩
 refine jn fun dE=>bI aFk [1,2,3,4,5,6,7,8,9,10,11,12,13]<|aM 3 fun aK1 aNp aFh=>jn fun dg=>bI aFh [1,2,3,4,5,6,7,8,9,10,11,12,13,14]<|zD 1<|aM 14 fun aK0 aNo aFg=>jd 1 [14]<|eo aFg<|zD 2<|aH q0 (.agg ⟨dM dA gh b9 fJ dg dE dC n⟩) [14] [6,8,7,4,5,13,10,12,11,0,1,2] (dQ dA nD mh gh pf b9 fJ iD mB dg dE dC) (Sub.refl _) ⟨_,_,rfl,rfl,_,rfl,fun _ hk=>dW hk,dX _ _ _ _ _ _ _ _⟩
instance (nc nh i:Nat)(x:cz):Decidable (gZ nc nh i x):=by unfold gZ;infer_instance
instance (w:ByteArray):Decidable (Script w):=by unfold Script;infer_instance
theorem VT{p:Nat→α→Prop}{l:List α}(h:∀i (hi:i <l.length),p i l[i]):∀(i:Nat) (x:α),l[i]?=some x→p i x:=fun i x hx=>by
 obtain⟨h1,rfl⟩:=List.getElem?_eq_some_iff.1 hx
 exact h i h1
theorem H7:∀(i:Nat) (x:cz),Ds[i]?=some x→gZ 4 6 i x:=VT (by decide)
theorem VG:∀(i:Nat) (x:cz),Ds[i]?=some x→Ay x.word=true:=VT (of_decide_eq_true (by kernel_rfl))
theorem ajo:∀(i:Nat) (x:bQ),VH[i]?=some x→Ay x.name=true∧ -1≤x.under∧x.under <i:=VT (of_decide_eq_true (by kernel_rfl))
def au1(hd:List cz)(i:Int):Bool:=decide (i= -1)||(decide (0≤i)&&match hd[i.toNat]? with
 |some x=>decide (0≤x.cls)
 |none=>false)
theorem fF{i:Int}(h:au1 hd i=true):mi hd i:=by
 simp only[au1,Bool.or_eq_true,Bool.and_eq_true,decide_eq_true_eq] at h
 rcases h with h| ⟨h1,h2⟩
 ·exact .inl h
 split at h2
 ·rename_i x hx;exact .inr ⟨h1,x,hx,of_decide_eq_true h2⟩
 cases h2
def PX(p:aj):Bool:=decide (((1≤p.name.size∧p.name.size≤6)∧Script p.name)∧(0≤p.st∧p.st≤1)∧p.bold=false)&&au1 Ds p.head
theorem MY{p:aj}(h:PX p=true):FJ Ds p:=by
 simp only[PX,Bool.and_eq_true,decide_eq_true_eq] at h
 exact⟨h.1.1,fF h.2,h.1.2⟩
theorem ad4{p:aj}(h:PX p=true):rS p.name∧mi Ds p.head:=by
 have:=MY h
 exact⟨⟨this.1.1,this.1.2⟩,this.2.1⟩
theorem YH:∀p∈N8,PX p=true:=by decide
theorem YI:∀p∈N9,PX p=true:=by decide
abbrev En(n:Int)(fs:List dc):aE:={aV n with facts:=fs}
theorem aqR(h:0≤n∧n≤4)(hf:fs.length≤3)(h1:∀x∈fs,(0≤x.a∧x.a <3)∧(0≤x.b∧x.b <3))(h2:fs.Pairwise fun x y=>¬(x.a=y.a∧x.b=y.b)):ko (En n fs) where
 qx:=⟨rfl,by simp,by simp[BN],by simp[alP]⟩
 ways:=⟨(by decide:(1:Nat)≤1),by simp[iY]⟩
 dH:=⟨(by decide:(0:Nat) <4∧4≤6),(by decide:(6:Nat)≤6),H7⟩
 rules:=(by decide:(1:Nat)≤4)
 before:=⟨(by decide:(3:Nat)≤4),fun p hp=>⟨MY (YH p hp),by
  simp only[N8,List.mem_cons,List.not_mem_nil,or_false] at hp
  rcases hp with rfl|rfl|rfl
  ·exact⟨_,rfl,by simp⟩
  ·exact⟨_,rfl,by simp⟩
  exact⟨_,rfl,by simp⟩⟩⟩
 after:=⟨(by decide:(3:Nat)≤4),fun p hp=>⟨MY (YI p hp),by
  simp only[N9,List.mem_cons,List.not_mem_nil,or_false] at hp
  rcases hp with rfl|rfl|rfl<;>decide⟩⟩
 uu:=⟨(by decide:(0:Int)≤1∧(1:Int)≤4),(by decide:(0:Int)≤1∧(1:Int)≤4),h⟩
 facts:=⟨by show fs.length≤4;omega,h1⟩
 apart:=h2
theorem aqQ(hf:fs.length≤3)(h1:∀x∈fs,(0≤x.a∧x.a <3)∧(0≤x.b∧x.b <3)):eZ (En n fs) where
 rules:=⟨(by decide:(1:Nat)≤4),by
  intro r hr
  rw[List.mem_singleton] at hr;subst hr
  have e:WL ⟨bs [121],bs [105]⟩=true:=by kernel_rfl
  simp only[WL,Bool.and_eq_true,Nat.ble_eq,Bool.not_eq_true'] at e
  exact⟨e.1,e.2.1,GP e.2.2.1,GP e.2.2.2.1,e.2.2.2.2⟩⟩
 before:=⟨(by decide:(3:Nat)≤4),fun p hp=>ad4 (YH p hp)⟩
 after:=⟨(by decide:(3:Nat)≤4),fun p hp=>ad4 (YI p hp)⟩
 dH:=⟨(by decide:(0:Nat) <4∧4≤6),(by decide:(6:Nat)≤6),ajo,by simp only[AE];decide,fun i x hx=>⟨VG i x hx,H7 i x hx⟩,by simp only[AE,Po];decide⟩
 facts:=⟨by show fs.length≤4;omega,h1⟩
theorem aIb{v0 v1 v3 v4 v5 v6 v7 vb:Value}{fa fb:Option Addr}{fn fd:Nat}{g0 g1 g2:Int}{ro:Nat→Option Obj}(hs:∀v∈[v0,v1,(.slice fa 0 fc),v3,v4,v5,v6,v7,zI g0,zI g1,zI g2,(.slice fb fn fd)],single v=true):dz zT 38 [.agg ⟨[v0,v1,(.slice fa 0 fc),v3,v4,v5,v6,v7,zI g0,zI g1,zI g2,vb]⟩,(.slice fb fn fd)] ro (.agg ⟨[v0,v1,(.slice fa 0 fc),v3,v4,v5,v6,v7,zI g0,zI g1,zI g2,(.slice fb fn fd)]⟩):=by
 refine bG av [] [] bh<|zD 2<|jn fun b2=>jn fun b4=>jd 10 [1,1]<|jsx 0 b4 0 zO [v0,v1,(.slice fa 0 fc),v3,v4,v5,v6,v7,zI g0,zI g1,zI g2,(.slice fb fn fd)] 40 hs rfl<|zD 2<|aH q0 (.agg ⟨[v0,v1,(.slice fa 0 fc),v3,v4,v5,v6,v7,zI g0,zI g1,zI g2,(.slice fb fn fd)]⟩) [0] [] [] (Sub.refl _) ⟨_,_,rfl,rfl,rfl,rfl⟩
def aj8[DecidableEq κ](r:Nat)(kv:κ→Value)(k:κ)(F:List (κ×Value))(b:Nat)(L:Cells):Prop:=
 ∃es ck i u,L=[(r,.map es ck)]∧tK kv F es ck∧sJ k F 0=some (i,u)∧(es.toList.map (·.born))[i]?=some b
theorem aj8.own[DecidableEq κ]{kv:κ→Value}{k:κ}{F:List (κ×Value)}{b:Nat}{L:Cells}(h:aj8 r kv k F b L):ki r kv F L:=by
 obtain⟨es,ck,_,_,h1,h2,_⟩:=h
 exact⟨es,ck,h1,h2⟩
def meV(P:Program)(n:Nat)(p:Oper)(e:Env):Option (TypeId×TypeId×Value×Value):=match p.op with
 | .mapEntry T x y=>match aZ P T with
  |some ⟨.map K E,_,_,_⟩=>match bp n e x with
   |some m=>match bp n e y with
    |some k=>some (K,E,m,k)
    |none=>none
   |none=>none
  |_=>none
 |_=>none
def esV(n:Nat)(p:Oper)(e:Env):Option (Value×Value×Value):=match p.op with
 | .entryStore _ x y z=>match bp n e x with
  |some m=>match bp n e y with
   |some b=>match bp n e z with
    |some v=>some (m,b,v)
    |none=>none
   |none=>none
  |none=>none
 |_=>none
theorem Br[DecidableEq κ]{k:κ}{v:Value}:∀ {F:List (κ×Value)} {i:Nat},sJ k F i=none→sJ k (F++[(k,v)]) i=some (i+F.length,v)
 | [],i,_=>by simp[sJ]
 |x::l,i,h=>by
  simp only[sJ] at h
  split at h
  ·cases h
  rename_i hk
  rw[List.cons_append,sJ,if_neg hk,Br h,List.length_cons,show i+1+l.length=i+(l.length+1) by omega]
theorem Xs{kv:κ→Value}{k:κ}{v:Value}:∀(es:List MapEntry) (F:List (κ×Value)) (i:Nat) {u:Value},F[i]?=some (k,u)→es.map (fun e=>(e.key,e.val))=F.map (fun x=>(kv x.1,x.2))→(es.modify i fun e=>{e with val:=v}).map (fun e=>(e.key,e.val))=(tV k v F i).map (fun x=>(kv x.1,x.2))
 | [],[],_,_,h,_=>by simp at h
 | [],_::_,_,_,_,h=>by simp at h
 |_::_,[],_,_,_,h=>by simp at h
 |e::es,x::F,0,_,h1,h=>by
  simp only[List.map_cons,List.cons.injEq,Prod.mk.injEq] at h
  simp at h1;subst h1
  simp[tV,h.2,h.1.1]
 |e::es,x::F,i+1,_,h1,h=>by
  simp only[List.map_cons,List.cons.injEq] at h
  simp at h1
  simp[tV,h.1,Xs es F i h1 h.2]
theorem Il{v:Value}:∀(es:List MapEntry) (i:Nat),(es.modify i fun e=>{e with val:=v}).map (·.born)=es.map (·.born)
 | [],i=>by simp
 |e::es,0=>by simp
 |e::es,i+1=>by simp[Il es i]
theorem BI{kx:Value}:∀(es:List MapEntry) (i:Nat),(es.modify i fun e=>{e with key:=kx}).map (·.born)=es.map (·.born)
 | [],i=>by simp
 |e::es,0=>by simp
 |e::es,i+1=>by simp[BI es i]
theorem Xt{kv:κ→Value}{k:κ}:∀(es:List MapEntry) (F:List (κ×Value)) (i:Nat) {u:Value},F[i]?=some (k,u)→es.map (fun e=>(e.key,e.val))=F.map (fun x=>(kv x.1,x.2))→(es.modify i fun e=>{e with key:=kv k}).map (fun e=>(e.key,e.val))=F.map (fun x=>(kv x.1,x.2))
 | [],[],_,_,h,_=>by simp at h
 | [],_::_,_,_,_,h=>by simp at h
 |_::_,[],_,_,_,h=>by simp at h
 |e::es,x::F,0,_,h1,h=>by
  simp only[List.map_cons,List.cons.injEq,Prod.mk.injEq] at h
  simp at h1;subst h1
  simp[h.2,h.1.2]
 |e::es,x::F,i+1,_,h1,h=>by
  simp only[List.map_cons,List.cons.injEq] at h
  simp at h1
  simp[h.1,Xt es F i h1 h.2]
theorem YL{es eI:Array MapEntry}{ck:Nat}(h:∀e∈es.toList,e.born <ck)(hb:eI.toList.map (·.born)=es.toList.map (·.born)):∀e∈eI.toList,e.born <ck:=fun e he=>by
 have:e.born∈eI.toList.map (·.born):=List.mem_map_of_mem he
 rw[hb] at this
 obtain⟨e2,h3,h4⟩:=List.mem_map.1 this
 rw[←h4];exact h e2 h3
section
variable {X:Cx} {o:Option JS}
theorem jSk{β:Type}{f:Oper→Env→Option β}{r:β}{Φ:Cells→Prop}(ps:List Nat)(B:Cells)(hv:fx X.n f o=some r)(hB:eA ps o=some B)
 (hy:∀p e,f p e=some r→(∀c,p.op≠ .defer c)∧∀(R:Cells) (Q:Next→St→Prop) (E:Halt→St→Prop),(∀L',Φ L'→Q .skip ⟨X.ro,L'++R⟩)→bR X.P (execOp (ev X.n e) p) ⟨X.ro,B++R⟩ Q E)
 (hj:∀L',Φ L'→J X (nH ps undef L' o)):J X o:=by
 obtain⟨ops,i,todo,k,e,w,kn,p,rfl,ho,hw,hc⟩:=dG hv
 intro bY
 have hp:=bL hB
 obtain⟨hd,ht⟩:=hy p e hc
 have:ab X.C X.fn X.aB ops (i::todo) (KQ X k) (A X.n e X.D) ⟨X.ro,B++den (dL ps 0 w)⟩:=by
  refine bV X.hC ho hw hd<|ht _ _ _ fun L' qF=>?_
  have:=hj L' qF
  rw[oC ho] at this
  have:=this bY
  simp only[JP,gI] at this
  show ab _ _ _ _ _ _ _ _
  rw[←aY] at this
  exact this
 have hle:(⟨X.ro,B++den (dL ps 0 w)⟩:St).le ⟨X.ro,den w⟩:=⟨[],by rw[List.append_nil];exact hp,fun b o hb=> .inl hb⟩
 exact this.more X.hC hle
theorem jme[DecidableEq κ]{kv:κ→Value}{F:List (κ×Value)}{K E:TypeId}{L:Cells}{d:TypeDesc}(i:Nat)(k:κ)(hk:SC X.P K kv)(te:TF X.P E d sz bD z ag)(hm:ki r kv F L)
 (hj:∀F1 b c L',(((∃u,sJ k F 0=some u)∧F1=F)∨(sJ k F 0=none∧F1=F++[(k,OM z ag)]))→aj8 r kv k F1 b L'→J X (nH [i] (.tuple ⟨[c,zI (b:Int)]⟩) L' o))
 (hv:fx X.n (meV X.P X.n) o=some (K,E,.map (some r),kv k):=by kernel_rfl)(hB:eA [i] o=some L:=by kernel_rfl):J X o:=by
 refine jS (Φ:=fun v L'=>∃F1 b c,(((∃u,sJ k F 0=some u)∧F1=F)∨(sJ k F 0=none∧F1=F++[(k,OM z ag)]))∧aj8 r kv k F1 b L'∧v= .tuple ⟨[c,zI (b:Int)]⟩) [i] _ hv hB (fun p e hf=>?_) (fun v L' qF=>?_)
 ·unfold meV at hf
  split at hf<;>try (cases hf;done)
  rename_i T x y aA
  split at hf<;>try (cases hf;done)
  rename_i K' E' _ _ _ ee
  split at hf<;>try (cases hf;done)
  rename_i m hx
  split at hf<;>try (cases hf;done)
  rename_i k' hy
  simp only[Option.some.injEq,Prod.mk.injEq] at hf
  obtain⟨rfl,rfl,rfl,rfl⟩:=hf
  obtain⟨bhg,tf⟩:=aw ee
  refine⟨by rw[aA];simp,fun R Q E hQ=>?_⟩
  obtain⟨es,ck,rfl,C4⟩:=hm
  simp only[execOp,aA,Instr.mapEntry,aa,a8 tf,aG hx,aG hy]
  refine cH (.inr (List.mem_append_left _ List.mem_cons_self)) rfl rfl ?_
  simp only[aa]
  refine hk.chk _ _ ?_
  simp only[aa]
  refine hk.find k _ F C4.1 ?_
  cases yg:sJ k F 0 with
  |some u=>
   obtain⟨j,u⟩:=u
   have S0:=qU yg
   simp only[Nat.sub_zero] at S0
   have h1:(es.toList.map (fun e=>(e.key,e.val)))[j]?=some (kv k,u):=by rw[C4.1];simp[S0.2]
   simp only[List.getElem?_map,Array.getElem?_toList] at h1
   cases he:es[j]? with
   |none=>rw[he] at h1;cases h1
   |some e1=>
    rw[he] at h1
    simp only[Option.map_some,Option.some.injEq,Prod.mk.injEq] at h1
    simp only[aa,Instr.keyThatStays,he,Option.map_some,Option.getD_some,h1.1,hk.stay,if_true,ae]
    refine eL (L:=[]) rfl rfl rfl ?_
    simp only[ae]
    refine hQ _ [(r,_)] ⟨F,e1.born,u,.inl ⟨⟨_,yg⟩,rfl⟩,⟨_,_,j,u,rfl,⟨?_,?_,?_⟩,yg,?_⟩,rfl⟩
    ·rw[Array.toList_modify];exact Xt _ _ _ S0.2 C4.1
    ·rw[Array.toList_modify,BI];exact C4.2.1
    ·exact YL C4.2.2 (by rw[Array.toList_modify,BI])
    rw[Array.toList_modify,BI,List.getElem?_map,Array.getElem?_toList,he];rfl
  |none=>
   simp only[aa,ky te]
   refine eL (L:=[]) rfl rfl rfl ?_
   simp only[ae]
   have hlen:es.toList.length=F.length:=by have:=congrArg List.length C4.1;simpa using this
   refine hQ _ [(r,_)] ⟨_,ck,_,.inr ⟨yg,rfl⟩,⟨_,_,F.length,_,rfl,⟨?_,?_,?_⟩,by have:=Br (v:=OM z ag) yg;rwa[Nat.zero_add] at this,?_⟩,rfl⟩
   ·simp only[Array.toList_push,List.map_append,C4.1];rfl
   ·simp only[Array.toList_push,List.map_append,List.map_cons,List.map_nil]
    refine List.nodup_append.2 ⟨C4.2.1,by simp,?_⟩
    intro a ha b hb
    obtain⟨e2,h3,rfl⟩:=List.mem_map.1 ha
    have:=C4.2.2 e2 h3
    simp only[List.mem_singleton] at hb
    omega
   ·intro e1 h1
    simp only[Array.toList_push,List.mem_append,List.mem_singleton] at h1
    rcases h1 with h1|rfl
    ·have:=C4.2.2 e1 h1;omega
    exact Nat.lt_succ_self _
   simp only[Array.toList_push,List.map_append,List.map_cons,List.map_nil]
   rw[List.getElem?_append_right (by simp[hlen])]
   simp[hlen]
 obtain⟨F1,b,c,h1,h2,rfl⟩:=qF
 exact hj F1 b c L' h1 h2
theorem jes[DecidableEq κ]{kv:κ→Value}{F:List (κ×Value)}{b:Nat}{L:Cells}{k:κ}(i:Nat)(v:Value)(hm:aj8 r kv k F b L)(hj:∀L',ki r kv (mD k v F) L'→J X (nH [i] undef L' o))
 (hv:fx X.n (esV X.n) o=some (.map (some r),zI (b:Int),v):=by kernel_rfl)(hB:eA [i] o=some L:=by kernel_rfl):J X o:=by
 refine jSk (Φ:=ki r kv (mD k v F)) [i] _ hv hB (fun p e hf=>?_) hj
 unfold esV at hf
 split at hf<;>try (cases hf;done)
 rename_i T x y zz aA
 split at hf<;>try (cases hf;done)
 rename_i m hx
 split at hf<;>try (cases hf;done)
 rename_i b' hy
 split at hf<;>try (cases hf;done)
 rename_i v' hz
 simp only[Option.some.injEq,Prod.mk.injEq] at hf
 obtain⟨rfl,rfl,rfl⟩:=hf
 refine⟨by rw[aA];simp,fun R Q E hQ=>?_⟩
 obtain⟨es,ck,j,u,rfl,C4,yg,hb⟩:=hm
 have S0:=qU yg
 simp only[Nat.sub_zero] at S0
 simp only[execOp,aA,Instr.entryStore,aa,aG hx,aG hy,aG hz]
 refine cH (.inr (List.mem_append_left _ List.mem_cons_self)) rfl rfl ?_
 have aS1:es.findIdx? (fun e=>(e.born:Int)==(b:Int))=some j:=by
  rw[List.getElem?_map,Array.getElem?_toList] at hb
  obtain⟨e1,he,rfl⟩:=Option.map_eq_some_iff.1 hb
  obtain⟨h1,h2⟩:=Array.getElem?_eq_some_iff.1 he
  refine Array.findIdx?_eq_some_iff_getElem.2 ⟨h1,by simp[h2],fun q hq=>?_⟩
  have mw:=C4.2.1
  have:=List.pairwise_iff_getElem.1 mw q j (by simp;omega) (by simp;omega) hq
  simp only[List.getElem_map,Array.getElem_toList,h2] at this
  simp only[beq_iff_eq]
  omega
 simp only[aa,asInt,asIntOf,ae,aS1]
 refine eL (L:=[]) rfl rfl rfl ?_
 show Q .skip _
 refine hQ [(r,_)] ⟨_,_,rfl,?_,?_,?_⟩
 ·rw[Array.toList_modify,mD,yg];exact Xs _ _ _ S0.2 C4.1
 ·rw[Array.toList_modify,Il];exact C4.2.1
 exact YL C4.2.2 (by rw[Array.toList_modify,Il])
end
abbrev v4(a b c d:Int):Value:= .agg ⟨[zI a,zI b,zI c,zI d]⟩
theorem aHZ{P:Program}{T:TypeId}(tf:TF P T (.array 4 3) sz bD z ag)(t3:TF P 3 (.int .i64) 1 by1 z1 false)(a b c d a' b' c' d':Int):
 EqD P (dep+2) T (v4 a b c d) (v4 a' b' c' d') (a==a'&&(b==b'&&(c==c'&&(d==d'&&true)))):=by
 intro α s k Q E
 rw[Op.equalIn]
 simp only[aa,a8 tf,cv t3]
 simp only[Std.Legacy.Range.forIn_eq_forIn_range',Std.Legacy.Range.size,Nat.sub_zero,Nat.add_sub_cancel,Nat.div_one,List.range'_succ,List.range'_zero,List.forIn_cons,List.forIn_nil,aa,Nat.zero_add,Nat.mul_one]
 have p (l:List Value) (o:Nat) (v:Value) (h:nth l o=some v):IB P 3 l o v:=fE t3 h
 rw[p _ 0 (zI a) rfl];simp only[aa]
 rw[p _ 0 (zI a') rfl];simp only[aa]
 rw[k7 t3 a a']
 cases ha:a==a' with
 |false=>simp only[Bool.not_false,if_true,ae,aa,Bool.false_and]
 |true=>
 simp only[Bool.not_true,Bool.false_eq_true,if_false,ae,Bool.true_and,aa]
 rw[p _ 1 (zI b) rfl];simp only[aa]
 rw[p _ 1 (zI b') rfl];simp only[aa]
 rw[k7 t3 b b']
 cases hb:b==b' with
 |false=>simp only[Bool.not_false,if_true,ae,aa,Bool.false_and]
 |true=>
 simp only[Bool.not_true,Bool.false_eq_true,if_false,ae,Bool.true_and,aa]
 rw[p _ 2 (zI c) rfl];simp only[aa]
 rw[p _ 2 (zI c') rfl];simp only[aa]
 rw[k7 t3 c c']
 cases hc:c==c' with
 |false=>simp only[Bool.not_false,if_true,ae,aa,Bool.false_and]
 |true=>
 simp only[Bool.not_true,Bool.false_eq_true,if_false,ae,Bool.true_and,aa]
 rw[p _ 3 (zI d) rfl];simp only[aa]
 rw[p _ 3 (zI d') rfl];simp only[aa]
 rw[k7 t3 d d']
 cases hd:d==d' with
 |false=>simp only[Bool.not_false,if_true,ae,aa,Bool.false_and]
 |true=>simp only[Bool.not_true,Bool.false_eq_true,if_false,ae,Bool.true_and,aa]
theorem ck4{P:Program}{T:TypeId}(tf:TF P T (.array 4 3) sz bD z ag)(t3:TF P 3 (.int .i64) 1 by1 z1 false)(a b c d:Int):CkD P (dep+2) T (v4 a b c d):=by
 intro bb α K s Q E
 rw[Instr.checkKey]
 simp only[aa,a8 tf]
 simp only[Std.Legacy.Range.forIn_eq_forIn_range',Std.Legacy.Range.size,Nat.sub_zero,Nat.add_sub_cancel,Nat.div_one,List.range'_succ,List.range'_zero,List.forIn_cons,List.forIn_nil,aa,Nat.zero_add,cv t3,Nat.zero_mul,Nat.mul_one]
 have p (l:List Value) (o:Nat) (v:Value) (h:nth l o=some v):IB P 3 l o v:=fE t3 h
 rw[p _ 0 (zI a) rfl];simp only[aa];rw[H8 t3 a bb];simp only[ae,aa,cv t3,Nat.mul_one]
 rw[p _ 1 (zI b) rfl];simp only[aa];rw[H8 t3 b bb];simp only[ae,aa,cv t3,Nat.mul_one]
 rw[p _ 2 (zI c) rfl];simp only[aa];rw[H8 t3 c bb];simp only[ae,aa,cv t3,Nat.mul_one]
 rw[p _ 3 (zI d) rfl];simp only[aa];rw[H8 t3 d bb];simp only[ae,aa]
abbrev P4:=Int×Int×Int×Int
abbrev IG(x:P4):Value:=v4 x.1 x.2.1 x.2.2.1 x.2.2.2
theorem afc:SC zT 113 IG:=afb (lB Tryz.typeInfo113 Tryz.underlying113 rfl rfl rfl rfl rfl rfl) (fun k=>⟨_,rfl⟩)
 (fun k=>ck4 (dep:=9998) (lB Tryz.typeInfo113 Tryz.underlying113 rfl rfl rfl rfl rfl rfl) jH _ _ _ _)
 (fun a b=>by
  have h:=aHZ (dep:=9998) (lB Tryz.typeInfo113 Tryz.underlying113 rfl rfl rfl rfl rfl rfl) jH a.1 a.2.1 a.2.2.1 a.2.2.2 b.1 b.2.1 b.2.2.1 b.2.2.2
  have e:(a.1==b.1&&(a.2.1==b.2.1&&(a.2.2.1==b.2.2.1&&(a.2.2.2==b.2.2.2&&true))))=decide (a=b):=by
   rcases a with ⟨x,y,z,t⟩;rcases b with ⟨u,v,w,r⟩
   rw[Bool.eq_iff_iff];simp
  rwa[e] at h)
 (fun k=>by simp[Instr.sameBits])
structure fC where
 c:Nat→Nat→Int
abbrev zw(m:fC):List Value:=[zI (m.c 0 0),zI (m.c 0 1),zI (m.c 0 2),zI (m.c 0 3),zI (m.c 1 0),zI (m.c 1 1),zI (m.c 1 2),zI (m.c 1 3),zI (m.c 2 0),zI (m.c 2 1),zI (m.c 2 2),zI (m.c 2 3),zI (m.c 3 0),zI (m.c 3 1),zI (m.c 3 2),zI (m.c 3 3)]
theorem AZ{m:fC}{a b:Nat}(h:a <4)(k:b <4):nth (zw m) (0+(a:Int).toNat*4+(b:Int).toNat*1)=some (zI (m.c a b)):=by
 rcases y8 h with rfl|rfl|rfl|rfl<;>rcases y8 k with rfl|rfl|rfl|rfl<;>rfl
def r5(m:fC)(a b:Nat)(v:Int):fC:=⟨fun i j=>if i=a∧j=b then v else m.c i j⟩
theorem amg{m:fC}{a b:Nat}{v:Int}(h:a <4)(k:b <4):dI (zw m) (0+(a:Int).toNat*4+(b:Int).toNat*1) [zI v]=zw (r5 m a b v):=by
 rcases y8 h with rfl|rfl|rfl|rfl<;>rcases y8 k with rfl|rfl|rfl|rfl<;>rfl
theorem amh{m:fC}{a b:Nat}{v:Value}(h:a <4)(k:b <4):Nat.ble ((0+(a:Int).toNat*4+(b:Int).toNat*1)+[v].length) (zw m).length=true:=by
 rcases y8 h with rfl|rfl|rfl|rfl<;>rcases y8 k with rfl|rfl|rfl|rfl<;>rfl
def pI(x:ai):Nat→Int
 |0=>x.w0
 |1=>x.w1
 |2=>x.w2
 |_=>x.w3
def ax(zs:List ai):fC:=⟨fun i j=>((zs.filter fun x=>decide (pI x i=(j:Int)+1)).length:Int)⟩
theorem Dr(zs:List ai)(i j:Nat):0≤(ax zs).c i j∧(ax zs).c i j≤zs.length:=by
 have:=List.length_filter_le (fun x=>decide (pI x i=(j:Int)+1)) zs
 simp only[ax];omega
theorem BB{zs ys:List ai}(h:zs.Perm ys):ax zs=ax ys:=by
 simp only[ax,(h.filter _).length_eq]
theorem xJ{r:bE}(hp:∀i,0≤p i∧p i≤4)(q:Nat):0≤pI (cu K r i p) q∧pI (cu K r i p) q≤4:=match q with
 |0=>hp 0
 |1=>hp 1
 |2=>hp 2
 |_+3=>hp 3
def q8:Prop:=∀ {ro:Nat→Option Obj} {v:Value} {zs:List ai},bH ro v 8 cy zs→zs.length≤100000→(∀x∈zs,∀q,0≤pI x q∧pI x q≤4)→eV zT 54 [v] ro [] (fun r Y=>r= .agg ⟨zw (ax zs)⟩∧Y=[])
def mW(m:fC)(n:Int)(i:Nat):Nat→List (List Int)
 |0=>[]
 |j+1=>mW m n i j++(bif decide (m.c i j=n) then [[(i:Int),(j:Int)]] else [])
def pR(m:fC)(n:Int)(w:Nat):Nat→List (List Int)
 |0=>[]
 |i+1=>pR m n w i++mW m n i w
theorem Xn{m:fC}(h:m.c i j=n):mW m n i (j+1)=mW m n i j++[[(i:Int),(j:Int)]]:=by rw[mW,decide_eq_true h];rfl
theorem Xo{m:fC}(h:¬m.c i j=n):mW m n i (j+1)=mW m n i j:=by rw[mW,decide_eq_false h];exact List.append_nil _
theorem CJ(m:fC)(n:Int)(i:Nat):∀j,(mW m n i j).length≤j
 |0=>Nat.le_refl _
 |j+1=>by have:=CJ m n i j;rw[mW,List.length_append];cases decide (m.c i j=n)<;>simp<;>omega
theorem KL(m:fC)(n:Int){w:Nat}(hw:w≤4):∀i,(pR m n w i).length≤4*i
 |0=>Nat.le_refl _
 |i+1=>by have:=KL m n hw i;have:=CJ m n i w;rw[pR,List.length_append];omega
theorem amG{rows:List bE}{ro:Nat→Option Obj}(hK:fU ro l K)(hV:eZ K)(hR:rows.length≤2)(hB:ir ro l K rows)(S3:q8):B1 zT 63 [.agg ⟨l⟩,.func (.func 65) ⟨[]⟩ ⟨[]⟩] ro [] (fun r Y=>∃zs v e,zs.Perm (cJ K (aR K) (bZ K.gone K.new K.af) rows)∧r= .tuple ⟨[v,zI e]⟩∧((zs=[]∧v= zS∧e=9∧Y=[])∨(zs≠[]∧e=0∧∀aK,Knows aK Y→LL aK v (pR (ax zs) ((zs.length:Nat):Int) K.after.length K.before.length)))):=by
 obtain⟨v0,v1,v3,v4,v5,v6,v7,vb,fa,fc,hv,rfl,_⟩:=id hK
 refine za av [] [] bh fun fr=>zD 2<|jn fun b2=>jd 6 [0]<|amT (vs:=[.agg ⟨[v0,v1,.slice fa 0 fc,v3,v4,v5,v6,v7,zI K.gone,zI K.new,zI K.af,vb]⟩]) [] (fun _ _ h=>h) (XK hK hV hR hB) ?_
 rintro _ aC Y15 bB ⟨f15,zs,v15,e15,rfl,Db,hz,agB,he⟩
 have Jr:∀x∈zs,(-4≤x.gone∧x.gone≤4)∧(-4≤x.new∧x.new≤4)∧(0≤x.af∧x.af≤4):=fun x hx=>by obtain⟨i,r,p,_,_,rfl,_⟩:=eS (hz.mem_iff.1 hx);exact kU hV r i p
 have Up:zs.length≤1250:=by rw[hz.length_eq];exact lL hV _ _ hR
 have hpr:∀x∈zs,∀q,0≤pI x q∧pI x q≤4:=fun x hx=>by obtain⟨i,r,p,_,hp,rfl,_⟩:=eS (hz.mem_iff.1 hx);exact xJ ((gx hV _).2 p hp)
 obtain⟨d0,d1,d2,d3,d4,d5,d6,d7,d8,d9,dh,hf,p7,oP,hr,C7,Hr,EZ,bW⟩:=id Db
 obtain⟨kO,Jf,Jd,j9,rfl,Je,EH,EG⟩:=C7
 obtain⟨kP,Ji,Jg,kg,rfl,Jh,EJ,EI⟩:=Hr
 have Ai:=hV.before.1
 have Ed:=hV.after.1
 refine zD 7<|jf [0] Y15 (fun ro4 nJ X9=>?_)
 have U1:=agB.kJ X9
 obtain⟨mT,Cv,Ct,lX,rfl,Cu,yW,yV⟩:=U1
 refine zD 7<|js 20 (!decide (e15=0)) (fun h5=>?_) (fun h5=>?_)
 ·
  replace h5:=of_decide_eq_false (by simpa using h5)
  have pe:zs=[]∧e15=9:=by rcases he with h| ⟨_,h⟩;exact h;omega
  refine zD 8<|II qC.a.a (.tuple ⟨[zS,zI e15]⟩) [1] [] (bB.trans nJ) ⟨zs,_,_,hz,rfl,.inl ⟨pe.1,rfl,pe.2,rfl⟩⟩
 replace h5:=of_decide_eq_true (by simpa using h5)
 have pe:zs≠[]∧e15=0:=by rcases he with ⟨_,h⟩|h;omega;exact h
 refine zD 9<|jc (vs:=[.slice mT zs.length lX]) [] (S3 (show bH _ _ _ _ _ from ⟨mT,Cv,Ct,lX,rfl,Cu,yW,yV⟩) (by omega) hpr) ?_
 rintro _ _ ⟨rfl,rfl⟩
 refine jg 0 []<|jn fun iK=>jd 9 [0]<|jl (b:=f15) (off:=0) (m:=13) (vs:=[d0,d1,d2,d3,d4,d5,.slice kO K.before.length j9,.slice kP K.after.length kg,zI K.gone,zI K.new,zI K.af,d8,d9]) 6 ⟨_,_,_,.inl (nJ _ _ hf),rfl⟩<|zD 4<|oL<|oL<|ek [1,1,1,1,1,0,1,0,0] [] (fun(zz:Nat×Value×Cells×(List Value)×Cells)=>[(1,.func (.func 65) ⟨[]⟩ ⟨[]⟩),(4,zS),(5,zI 0),(6,zP f15),(7,.slice mT zs.length lX),(9,zz.2.1),(10,zP iK),(29,zI (K.before.length:Int)),(30,zI (zz.1:Int))]) (fun(zz:Nat×Value×Cells×(List Value)×Cells)=>[.l zz.2.2.1,.l zz.2.2.2.2,.b iK (.cells ⟨[zI ((ax zs).c 0 0),zI ((ax zs).c 0 1),zI ((ax zs).c 0 2),zI ((ax zs).c 0 3),zI ((ax zs).c 1 0),zI ((ax zs).c 1 1),zI ((ax zs).c 1 2),zI ((ax zs).c 1 3),zI ((ax zs).c 2 0),zI ((ax zs).c 2 1),zI ((ax zs).c 2 2),zI ((ax zs).c 2 3),zI ((ax zs).c 3 0),zI ((ax zs).c 3 1),zI ((ax zs).c 3 2),zI ((ax zs).c 3 3)]⟩ 123 (0,0)),.b b2 (.cells ⟨[v0,v1,.slice fa 0 fc,v3,v4,v5,v6,v7,zI K.gone,zI K.new,zI K.af,vb]⟩ 40 (0,0)),.l fr]) (fun(zz:Nat×Value×Cells×(List Value)×Cells)=>(zz.1≤K.before.length∧zz.2.2.2.1.length=(pR (ax zs) ((zs.length:Nat):Int) K.after.length zz.1).length)∧az zz.2.1 1 22 gT zz.2.2.2.1 zz.2.2.1∧∀aK,Knows aK zz.2.2.2.2→dD (fun w l=>bH aK w 1 cq l) zz.2.2.2.1 (pR (ax zs) ((zs.length:Nat):Int) K.after.length zz.1)) (fun(zz:Nat×Value×Cells×(List Value)×Cells)=>K.before.length-zz.1) (⟨0,zS,[],[],[]⟩) ⟨⟨by dsimp only;omega,rfl⟩,az.nil _ _ _,fun _ _=> .nil⟩ [1,0,2,3,4] ?_
 rintro⟨i,vO,LO,es,Z⟩ hI K1 bM rest
 dsimp only at hI
 have hil:=KL (ax zs) ((zs.length:Nat):Int) (w:=K.after.length) (by omega) i
 refine zD 5<|zJ 31 ((i:Int) <(K.before.length:Int)) (fun h6=>?_) fun h6=>?_
 ·
  refine zD 15<|jl (b:=f15) (off:=0) (m:=13) (vs:=[d0,d1,d2,d3,d4,d5,.slice kO K.before.length j9,.slice kP K.after.length kg,zI K.gone,zI K.new,zI K.af,d8,d9]) 7 ⟨_,_,_,.inl (nJ _ _ hf),rfl⟩<|zD 4<|ek [1,1,1,1,1,0,1,0,0,1,1,0,0,1,1,0,0] [K1] (fun(zz:Nat×Value×Cells×(List Value)×Cells)=>[(1,.func (.func 65) ⟨[]⟩ ⟨[]⟩),(4,zS),(5,zI 0),(6,zP f15),(7,.slice mT zs.length lX),(9,zz.2.1),(10,zP iK),(11,zI (i:Int)),(29,zI (K.before.length:Int)),(30,zI (i:Int)),(38,zI (K.after.length:Int)),(39,zI (zz.1:Int))]) (fun(zz:Nat×Value×Cells×(List Value)×Cells)=>[.l zz.2.2.1,.l zz.2.2.2.2,.b iK (.cells ⟨[zI ((ax zs).c 0 0),zI ((ax zs).c 0 1),zI ((ax zs).c 0 2),zI ((ax zs).c 0 3),zI ((ax zs).c 1 0),zI ((ax zs).c 1 1),zI ((ax zs).c 1 2),zI ((ax zs).c 1 3),zI ((ax zs).c 2 0),zI ((ax zs).c 2 1),zI ((ax zs).c 2 2),zI ((ax zs).c 2 3),zI ((ax zs).c 3 0),zI ((ax zs).c 3 1),zI ((ax zs).c 3 2),zI ((ax zs).c 3 3)]⟩ 123 (0,0)),.b b2 (.cells ⟨[v0,v1,.slice fa 0 fc,v3,v4,v5,v6,v7,zI K.gone,zI K.new,zI K.af,vb]⟩ 40 (0,0)),.l fr]) (fun(zz:Nat×Value×Cells×(List Value)×Cells)=>(zz.1≤K.after.length∧zz.2.2.2.1.length=((pR (ax zs) ((zs.length:Nat):Int) K.after.length i)++(mW (ax zs) ((zs.length:Nat):Int) i zz.1)).length)∧az zz.2.1 1 22 gT zz.2.2.2.1 zz.2.2.1∧∀aK,Knows aK zz.2.2.2.2→dD (fun w l=>bH aK w 1 cq l) zz.2.2.2.1 ((pR (ax zs) ((zs.length:Nat):Int) K.after.length i)++(mW (ax zs) ((zs.length:Nat):Int) i zz.1))) (fun(zz:Nat×Value×Cells×(List Value)×Cells)=>K.after.length-zz.1) (⟨0,vO,LO,es,Z⟩) ⟨⟨by dsimp only;omega,by simpa [mW] using hI.1.2⟩,hI.2.1,by simpa [mW] using hI.2.2⟩ [0,1,2,3,4] ?_
  rintro⟨j,vO,LO,es,Z⟩ hJ K2 lI rest
  dsimp only at hJ
  have hjl:=CJ (ax zs) ((zs.length:Nat):Int) i j
  have Yc:=hJ.1.2
  rw[List.length_append] at Yc
  refine zD 5<|zJ 40 ((j:Int) <(K.after.length:Int)) (fun h7=>?_) fun h7=>?_
  ·
   refine zD 10 ?_
   have iZ:=Dr zs i j
   refine zD 4<|GY (b:=iK) (off:=0) (len:=4) (sz:=4) (i:Int) (by omega)<|GY (b:=iK) (off:=0+(i:Int).toNat*4) (len:=4) (sz:=1) (j:Int) (by omega)<|mY (b:=iK) (off:=0+(i:Int).toNat*4+(j:Int).toNat*1) (m:=1) (vs:=[zI ((ax zs).c i j)]) 0 [2] [(iK,.cells ⟨[zI ((ax zs).c 0 0),zI ((ax zs).c 0 1),zI ((ax zs).c 0 2),zI ((ax zs).c 0 3),zI ((ax zs).c 1 0),zI ((ax zs).c 1 1),zI ((ax zs).c 1 2),zI ((ax zs).c 1 3),zI ((ax zs).c 2 0),zI ((ax zs).c 2 1),zI ((ax zs).c 2 2),zI ((ax zs).c 2 3),zI ((ax zs).c 3 0),zI ((ax zs).c 3 1),zI ((ax zs).c 3 2),zI ((ax zs).c 3 3)]⟩ 123 (0,0))] (fun s _ hZ=>oI (hZ _ (.head _)) (AZ (m:=ax zs) (by omega) (by omega)))<|zD 2<|jp (vs:=[zI ((ax zs).c i j),zI (zs.length:Int)]) [] [] (fun aC hs hZ=>atZ)<|zD 1<|js 50 (decide (((ax zs).c i j)=(zs.length:Int))) (fun h8=>?_) (fun h8=>?_)
   ·
    refine zD 5<|jn fun So=>jn fun YW=>jT (sz:=1) (ps:=es) (qs:=[(.slice (some ⟨So,0,none⟩) 2 2:Value)]) (enc:=gT) (w:= .slice (some ⟨YW,0,none⟩) 1 1) [2] [0] [(YW,.cells ⟨([(.slice (some ⟨So,0,none⟩) 2 2:Value)].map gT).flatten⟩ 22 (0,0))] (hJ.2.1) (fun s _ hZ=>bN [(.slice (some ⟨So,0,none⟩) 2 2:Value)] (hZ _ (.head _)) (by intro p hp;rfl)) (by intro p hp;rw[List.mem_singleton] at hp;subst hp;exact ar rfl) (by simp only[List.length_cons,List.length_nil];omega) (fun v56 L56 m8=>?_)
    obtain⟨FV,FU,Nx⟩:=m8.form
    subst Nx
    refine zD 3<|ja ((j:Int)+1) (by omega)<|zD 2<|KY lI (⟨j+1,(.slice FV ((es++[(.slice (some ⟨So,0,none⟩) 2 2:Value)])).length FU),L56,(es++[(.slice (some ⟨So,0,none⟩) 2 2:Value)]),Z++[(So,.cells ⟨[zI (i:Int),zI (j:Int)]⟩ 3 (0,0))]⟩) ⟨⟨by dsimp only;omega,by dsimp only;rw[Xn (of_decide_eq_true (by assumption)),←List.append_assoc];simp only[List.length_append,List.length_cons,List.length_nil] at*;omega⟩,m8,fun aK hk=>by dsimp only;rw[Xn (of_decide_eq_true (by assumption)),←List.append_assoc];exact(hJ.2.2 aK hk.left).snoc (bF (enc:=cq) (T:=3) [(i:Int),(j:Int)] (hk.right _ (.head _)) (fun _ _=>rfl))⟩ (by dsimp only;omega) [[0],[3,2],[4],[5],[6]] (Sub.refl _)
   refine zD 3<|ja ((j:Int)+1) (by omega)<|zD 2<|bA lI (⟨j+1,vO,LO,es,Z⟩) ⟨⟨by dsimp only;omega,by dsimp only;rw[Xo (of_decide_eq_false (by assumption))];exact hJ.1.2⟩,hJ.2.1,by dsimp only;rw[Xo (of_decide_eq_false (by assumption))];exact hJ.2.2⟩ (by dsimp only;omega) [0,1,2,3,4] (Sub.refl _)
  refine zD 3<|ja ((i:Int)+1) (by omega)<|zD 2<|bA bM (⟨i+1,vO,LO,es,Z⟩) ⟨⟨by dsimp only;omega,by have:=hJ.1.2;rw[show j=K.after.length by omega] at this;exact this⟩,hJ.2.1,by have:=hJ.2.2;rw[show j=K.after.length by omega] at this;exact this⟩ (by dsimp only;omega) [0,1,2,3,4] (Sub.refl _)
 refine zD 9<|aCH qC.a.a (.tuple ⟨[vO,zI 0]⟩) [0,1,4] LO Z (bB.trans nJ) ⟨zs,_,_,hz,rfl,.inr ⟨pe.1,rfl,fun aK hk=>⟨es,hI.2.1.kJ hk.left,by have:=hI.2.2 aK hk.right;rwa[show i=K.before.length by omega] at this⟩⟩⟩
structure xy where
 f:Bool
 a:Int
 b:Int
 w:Int
def abw(m:fC)(n:Int)(i j:Nat):Int:=max (m.c i j) (n-m.c i j)
def BL(m:fC)(n:Int)(i:Nat)(s:xy):Nat→xy
 |0=>s
 |j+1=>if abw m n i j <(BL m n i s j).w then ⟨true,i,j,abw m n i j⟩ else BL m n i s j
def abx(m:fC)(n:Int)(w:Nat):Nat→xy
 |0=>⟨false,0,0,n⟩
 |i+1=>BL m n i (abx m n w i) w
def VU(s:xy):Int×Int×Int×Int:=bif s.f then (s.a,s.b,s.w,0) else (0,0,0,11)
theorem axC{m:fC}{s:xy}{f:Bool}{a w:Int}(h:(⟨f,a,b,w⟩:xy)=BL m n i s j)(h2:abw m n i j <w):(⟨true,i,j,abw m n i j⟩:xy)=BL m n i s (j+1):=by rw[BL,←h,if_pos h2]
theorem ajM{m:fC}{s:xy}{f:Bool}{a w:Int}(h:(⟨f,a,b,w⟩:xy)=BL m n i s j)(h2:¬abw m n i j <w):(⟨f,a,b,w⟩:xy)=BL m n i s (j+1):=by rw[BL,←h,if_neg h2]
theorem atY{rows:List bE}{ro:Nat→Option Obj}(hK:fU ro l K)(hV:eZ K)(hR:rows.length≤2)(hB:ir ro l K rows)(S3:q8):B1 zT 22 [.agg ⟨l⟩] ro [] (fun r Y=>∃zs v e,zs.Perm (cJ K (aR K) (bZ K.gone K.new K.af) rows)∧r= .tuple ⟨[v,zI e]⟩∧((zs=[]∧v= zS∧e=9∧Y=[])∨(zs≠[]∧e=0∧∀aK,Knows aK Y→LL aK v (pR (ax zs) ((zs.length:Nat):Int) K.after.length K.before.length)))):=by
 obtain⟨v0,v1,v3,v4,v5,v6,v7,vb,fa,fc,hv,rfl,_⟩:=id hK
 refine za av [] [] bh fun fr=>zD 2<|jn fun b1=>jd 6 [0]<|KZ (vs:=[.agg ⟨[v0,v1,.slice fa 0 fc,v3,v4,v5,v6,v7,zI K.gone,zI K.new,zI K.af,vb]⟩,.func (.func 65) ⟨[]⟩ ⟨[]⟩]) [] (fun _ _ h=>h) (amG hK hV hR hB S3) ?_
 rintro _ Y5 ⟨zs,v5,e5,hz,rfl,hcs⟩
 refine zD 6<|II qC (.tuple ⟨[v5,zI e5]⟩) [0,2] Y5 (Sub.refl _) ⟨zs,v5,e5,hz,rfl,hcs⟩
theorem aQD{rows:List bE}{ro:Nat→Option Obj}(hK:fU ro l K)(hV:eZ K)(hR:rows.length≤2)(hB:ir ro l K rows)(S3:q8):B1 zT 40 [.agg ⟨l⟩] ro [] (fun r Y=>∃zs a b w e,zs.Perm (cJ K (aR K) (bZ K.gone K.new K.af) rows)∧Y=[]∧r= .tuple ⟨[zI a,zI b,zI w,zI e]⟩∧((zs=[]∧a=0∧b=0∧w=0∧e=9)∨(zs≠[]∧(a,b,w,e)=VU (abx (ax zs) ((zs.length:Nat):Int) K.after.length K.before.length)))):=by
 obtain⟨v0,v1,v3,v4,v5,v6,v7,vb,fa,fc,hv,rfl,_⟩:=id hK
 refine za av [] [] bh fun fr=>zD 2<|jn fun b1=>jd 8 [0]<|amT (vs:=[.agg ⟨[v0,v1,.slice fa 0 fc,v3,v4,v5,v6,v7,zI K.gone,zI K.new,zI K.af,vb]⟩]) [] (fun _ _ h=>h) (XK hK hV hR hB) ?_
 rintro _ aC Y14 bB ⟨f14,zs,v14,N1,rfl,Db,hz,UJ,he⟩
 have Jr:∀x∈zs,(-4≤x.gone∧x.gone≤4)∧(-4≤x.new∧x.new≤4)∧(0≤x.af∧x.af≤4):=fun x hx=>by obtain⟨i,r,p,_,_,rfl,_⟩:=eS (hz.mem_iff.1 hx);exact kU hV r i p
 have Up:zs.length≤1250:=by rw[hz.length_eq];exact lL hV _ _ hR
 have hpr:∀x∈zs,∀q,0≤pI x q∧pI x q≤4:=fun x hx=>by obtain⟨i,r,p,_,hp,rfl,_⟩:=eS (hz.mem_iff.1 hx);exact xJ ((gx hV _).2 p hp)
 obtain⟨d0,d1,d2,d3,d4,d5,d6,d7,d8,d9,dh,hf,p7,oP,hr,C7,Hr,EZ,bW⟩:=id Db
 obtain⟨kO,Jf,Jd,j9,rfl,Je,EH,EG⟩:=C7
 obtain⟨kP,Ji,Jg,kg,rfl,Jh,EJ,EI⟩:=Hr
 have Ai:=hV.before.1
 have Ed:=hV.after.1
 refine zD 7<|jf [0] Y14 (fun ro4 nJ X9=>?_)
 have U1:=UJ.kJ X9
 obtain⟨mT,Cv,Ct,lX,rfl,Cu,yW,yV⟩:=U1
 refine zD 7<|js 20 (!decide (N1=0)) (fun h5=>?_) (fun h5=>?_)
 ·
  replace h5:=of_decide_eq_false (by simpa using h5)
  have pe:zs=[]∧N1=9:=by rcases he with h| ⟨_,h⟩;exact h;omega
  refine zD 10<|II qC.a.a (.tuple ⟨[zI 0,zI 0,zI 0,zI N1]⟩) [1] [] (bB.trans nJ) ⟨zs,_,_,_,_,hz,rfl,rfl,.inl ⟨pe.1,rfl,rfl,rfl,pe.2⟩⟩
 replace h5:=of_decide_eq_true (by simpa using h5)
 have pe:zs≠[]∧N1=0:=by rcases he with ⟨_,h⟩|h;omega;exact h
 refine zD 5<|jc (vs:=[.slice mT zs.length lX]) [] (S3 (show bH _ _ _ _ _ from ⟨mT,Cv,Ct,lX,rfl,Cu,yW,yV⟩) (by omega) hpr) ?_
 rintro _ _ ⟨rfl,rfl⟩
 refine jg 0 []<|jn fun b8=>jd 16 [0]<|jl (b:=f14) (off:=0) (m:=13) (vs:=[d0,d1,d2,d3,d4,d5,.slice kO K.before.length j9,.slice kP K.after.length kg,zI K.gone,zI K.new,zI K.af,d8,d9]) 6 ⟨_,_,_,.inl (nJ _ _ hf),rfl⟩<|zD 4<|ek [1,1,1,1,1,0,1,0,0] [] (fun(zz:Nat×Bool×Int×Int×Int)=>[(2,zI zz.2.2.1),(3,zI zz.2.2.2.1),(4,zI zz.2.2.2.2),(5,zI N1),(6,zP f14),(7,.slice mT zs.length lX),(8,zP b8),(9,.bool zz.2.1),(31,zI (K.before.length:Int)),(32,zI (zz.1:Int))]) (fun(zz:Nat×Bool×Int×Int×Int)=>[.b b8 (.cells ⟨[zI ((ax zs).c 0 0),zI ((ax zs).c 0 1),zI ((ax zs).c 0 2),zI ((ax zs).c 0 3),zI ((ax zs).c 1 0),zI ((ax zs).c 1 1),zI ((ax zs).c 1 2),zI ((ax zs).c 1 3),zI ((ax zs).c 2 0),zI ((ax zs).c 2 1),zI ((ax zs).c 2 2),zI ((ax zs).c 2 3),zI ((ax zs).c 3 0),zI ((ax zs).c 3 1),zI ((ax zs).c 3 2),zI ((ax zs).c 3 3)]⟩ 123 (0,0)),.b b1 (.cells ⟨[v0,v1,.slice fa 0 fc,v3,v4,v5,v6,v7,zI K.gone,zI K.new,zI K.af,vb]⟩ 40 (0,0)),.l fr]) (fun(zz:Nat×Bool×Int×Int×Int)=>zz.1≤K.before.length∧(⟨zz.2.1,zz.2.2.1,zz.2.2.2.1,zz.2.2.2.2⟩:xy)=(abx (ax zs) ((zs.length:Nat):Int) K.after.length zz.1)) (fun(zz:Nat×Bool×Int×Int×Int)=>K.before.length-zz.1) (⟨0,false,0,0,((zs.length:Nat):Int)⟩) ⟨by dsimp only;omega,rfl⟩ [0,1,2] ?_
 rintro⟨i,qf,qa,qb,qw⟩ hI K1 bM rest
 dsimp only at hI
 refine zD 5<|zJ 33 ((i:Int) <(K.before.length:Int)) (fun h6=>?_) fun h6=>?_
 ·
  refine zD 15<|jl (b:=f14) (off:=0) (m:=13) (vs:=[d0,d1,d2,d3,d4,d5,.slice kO K.before.length j9,.slice kP K.after.length kg,zI K.gone,zI K.new,zI K.af,d8,d9]) 7 ⟨_,_,_,.inl (nJ _ _ hf),rfl⟩<|zD 4<|ek [1,1,1,1,1,0,1,0,0,1,1,0,0,1,1,0,0] [K1] (fun(zz:Nat×Bool×Int×Int×Int)=>[(2,zI zz.2.2.1),(3,zI zz.2.2.2.1),(4,zI zz.2.2.2.2),(5,zI N1),(6,zP f14),(7,.slice mT zs.length lX),(8,zP b8),(9,.bool zz.2.1),(10,zI (i:Int)),(31,zI (K.before.length:Int)),(32,zI (i:Int)),(40,zI (K.after.length:Int)),(41,zI (zz.1:Int))]) (fun(zz:Nat×Bool×Int×Int×Int)=>[.b b8 (.cells ⟨[zI ((ax zs).c 0 0),zI ((ax zs).c 0 1),zI ((ax zs).c 0 2),zI ((ax zs).c 0 3),zI ((ax zs).c 1 0),zI ((ax zs).c 1 1),zI ((ax zs).c 1 2),zI ((ax zs).c 1 3),zI ((ax zs).c 2 0),zI ((ax zs).c 2 1),zI ((ax zs).c 2 2),zI ((ax zs).c 2 3),zI ((ax zs).c 3 0),zI ((ax zs).c 3 1),zI ((ax zs).c 3 2),zI ((ax zs).c 3 3)]⟩ 123 (0,0)),.b b1 (.cells ⟨[v0,v1,.slice fa 0 fc,v3,v4,v5,v6,v7,zI K.gone,zI K.new,zI K.af,vb]⟩ 40 (0,0)),.l fr]) (fun(zz:Nat×Bool×Int×Int×Int)=>zz.1≤K.after.length∧(⟨zz.2.1,zz.2.2.1,zz.2.2.2.1,zz.2.2.2.2⟩:xy)=(BL (ax zs) ((zs.length:Nat):Int) i (abx (ax zs) ((zs.length:Nat):Int) K.after.length i) zz.1)) (fun(zz:Nat×Bool×Int×Int×Int)=>K.after.length-zz.1) (⟨0,qf,qa,qb,qw⟩) ⟨by dsimp only;omega,hI.2⟩ [0,1,2] ?_
  rintro⟨j,qf,qa,qb,qw⟩ hJ K2 lI rest
  dsimp only at hJ
  refine zD 5<|zJ 42 ((j:Int) <(K.after.length:Int)) (fun h7=>?_) fun h7=>?_
  ·
   refine zD 10 ?_
   have iZ:=Dr zs i j
   refine zD 3<|GY (b:=b8) (off:=0) (len:=4) (sz:=4) (i:Int) (by omega)<|GY (b:=b8) (off:=0+(i:Int).toNat*4) (len:=4) (sz:=1) (j:Int) (by omega)<|mY (b:=b8) (off:=0+(i:Int).toNat*4+(j:Int).toNat*1) (m:=1) (vs:=[zI ((ax zs).c i j)]) 0 [0] [(b8,.cells ⟨[zI ((ax zs).c 0 0),zI ((ax zs).c 0 1),zI ((ax zs).c 0 2),zI ((ax zs).c 0 3),zI ((ax zs).c 1 0),zI ((ax zs).c 1 1),zI ((ax zs).c 1 2),zI ((ax zs).c 1 3),zI ((ax zs).c 2 0),zI ((ax zs).c 2 1),zI ((ax zs).c 2 2),zI ((ax zs).c 2 3),zI ((ax zs).c 3 0),zI ((ax zs).c 3 1),zI ((ax zs).c 3 2),zI ((ax zs).c 3 3)]⟩ 123 (0,0))] (fun s _ hZ=>oI (hZ _ (.head _)) (AZ (m:=ax zs) (by omega) (by omega)))<|zD 4<|GY (b:=b8) (off:=0) (len:=4) (sz:=4) (i:Int) (by omega)<|GY (b:=b8) (off:=0+(i:Int).toNat*4) (len:=4) (sz:=1) (j:Int) (by omega)<|mY (b:=b8) (off:=0+(i:Int).toNat*4+(j:Int).toNat*1) (m:=1) (vs:=[zI ((ax zs).c i j)]) 0 [0] [(b8,.cells ⟨[zI ((ax zs).c 0 0),zI ((ax zs).c 0 1),zI ((ax zs).c 0 2),zI ((ax zs).c 0 3),zI ((ax zs).c 1 0),zI ((ax zs).c 1 1),zI ((ax zs).c 1 2),zI ((ax zs).c 1 3),zI ((ax zs).c 2 0),zI ((ax zs).c 2 1),zI ((ax zs).c 2 2),zI ((ax zs).c 2 3),zI ((ax zs).c 3 0),zI ((ax zs).c 3 1),zI ((ax zs).c 3 2),zI ((ax zs).c 3 3)]⟩ 123 (0,0))] (fun s _ hZ=>oI (hZ _ (.head _)) (AZ (m:=ax zs) (by omega) (by omega)))<|ja ((zs.length:Int)-((ax zs).c i j)) (by omega)<|jmx (k:= .i64) (a:=((ax zs).c i j)) (b:=((zs.length:Int)-((ax zs).c i j)))<|zD 8<|zJ 60 ((max ((ax zs).c i j) ((zs.length:Int)-((ax zs).c i j))) <qw) (fun h8=>?_) fun h8=>?_
   ·
    refine zD 11<|ja ((j:Int)+1) (by omega)<|zD 2<|bA lI (⟨j+1,true,(i:Int),(j:Int),(max ((ax zs).c i j) ((zs.length:Int)-((ax zs).c i j)))⟩) ⟨by dsimp only;omega,axC hJ.2 (by assumption)⟩ (by dsimp only;omega) [0,1,2] (Sub.refl _)
   refine zD 3<|ja ((j:Int)+1) (by omega)<|zD 2<|bA lI (⟨j+1,qf,qa,qb,qw⟩) ⟨by dsimp only;omega,ajM hJ.2 (by assumption)⟩ (by dsimp only;omega) [0,1,2] (Sub.refl _)
  refine zD 3<|ja ((i:Int)+1) (by omega)<|zD 2<|bA bM (⟨i+1,qf,qa,qb,qw⟩) ⟨by dsimp only;omega,by have:=hJ.2;rw[show j=K.after.length by omega] at this;exact this⟩ (by dsimp only;omega) [0,1,2] (Sub.refl _)
 refine zD 8<|js 67 (!qf) (fun h9=>?_) (fun h9=>?_)
 ·
  try simp only[zB] at h9
  refine zD 9<|II qC.a.a (.tuple ⟨[zI 0,zI 0,zI 0,zI 11]⟩) [2] [] (bB.trans nJ) ⟨zs,_,_,_,_,hz,rfl,rfl,.inr ⟨pe.1,by have:=hI.2;rw[show i=K.before.length by omega] at this;rw[←this];simp only[VU];cases qf<;>first|rfl|contradiction|simp_all⟩⟩
 try simp only[zB] at h9
 refine zD 13<|II qC.a.a (.tuple ⟨[zI qa,zI qb,zI qw,zI 0]⟩) [2] [] (bB.trans nJ) ⟨zs,_,_,_,_,hz,rfl,rfl,.inr ⟨pe.1,by have:=hI.2;rw[show i=K.before.length by omega] at this;rw[←this];simp only[VU];cases qf<;>first|rfl|contradiction|simp_all⟩⟩
end Go.L
