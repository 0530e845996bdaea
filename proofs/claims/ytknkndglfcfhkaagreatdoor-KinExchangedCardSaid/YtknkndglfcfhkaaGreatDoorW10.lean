/- Part 10 of the proof. -/
import Derived.Test.YtknkndglfcfhkaaGreatDoorW9
set_option maxRecDepth 100000
set_option linter.all false
namespace Go.L
open Go Go.Conc Go.Proofs
variable {ro:Nat→Option Obj} {l z z1:List Value} {K:aB} {ys xs:List Int} {n x f j y b:Int} {i k ck q bE fc sz na r dep by1 fn fd:Nat} {T R:Nat→Nat→Int} {κ α β:Type} {p:Nat→Int} {seen:List Nat} {F:Nat→Nat→Bool} {fs:List bZ} {hd:List cd} {v0 v1 v3 v5 v6 v7 vb:Value} {ag:Bool}
def G8(S:List (List aj))(ways:List (List aE))(w:List Int)(x:ah):List ar:=match ways,w with
 |l::_,i::_=>(match l[i.toNat]? with
  |some c=>[zw S c ⟨x.st,x.no,0⟩]
  |none=>[])
 |_,_=>[⟨x.st,x.no,0⟩]
def WW(K:aB):List (List Int):=(dk K.str K.ways).map (·.ways)
theorem XE{l:List aE}{w:List Int}(h:K.ways=[l])(hw:w∈WW K):∃(i:Nat) (c:aE),l[i]?=some c∧w=[(i:Int)]:=by
 simp only[WW,h,dk,List.map_map,List.mem_map,List.mem_range,Function.comp,atO] at hw
 obtain⟨i,hi,rfl⟩:=hw
 exact⟨i,l[i],List.getElem?_eq_getElem hi,rfl⟩
theorem j6.wp(h:j6 K):yY K.ways:=⟨h.ways.1,fun l hl=>⟨⟨(h.ways.2 l hl).1.1,by have:=(h.ways.2 l hl).1.2;omega⟩,(h.ways.2 l hl).2⟩⟩
theorem YO(h:j6 K):K.ways=[]∨∃l,K.ways=[l]:=by
 have:=h.ways.1
 match hw:K.ways,this with
 | [],_=>exact .inl rfl
 | [l],_=>exact .inr ⟨l,rfl⟩
theorem ad0(h:j6 K):XB K (WW K):=by
 rcases YO h with e| ⟨l,e⟩
 ·exact⟨by simp[WW,e,dk],fun w hw=>by simp[WW,e,dk] at hw;simp[hw,e],fun w hw k l n hl=>by simp[e] at hl⟩
 have hl:=(h.ways.2 l (by simp[e])).1
 refine⟨by simp[WW,e,dk];omega,fun w hw=>?_,fun w hw k l' n hk hn=>?_⟩
 ·obtain⟨i,c,_,rfl⟩:=XE e hw;simp[e]
 obtain⟨i,c,hi,rfl⟩:=XE e hw
 rw[e] at hk
 obtain⟨rfl,rfl⟩:=Hg hk
 obtain⟨rfl,_⟩:=Hg hn
 have:=(List.getElem?_eq_some_iff.1 hi).1
 omega
theorem aet(hK:fP ro l K)(hO:j6 K):rh ro l (WW K):=by
 obtain⟨vS,vT,vc,vh,vr,vb,va,vf,fa,fc,hv,rfl,hS,hT,_⟩:=hK
 intro aH hs
 exact apy (hS.up hs) hO.pX (hT.up hs) hO.wp
theorem abE{S:List (List aj)}{x:ah}(h:aqj S hd x):(⟨x.st,x.no,0⟩:ar)∈bM S:=by
 obtain⟨l,h1,h2⟩:=h.2
 have:=H5 h1 h2
 simp only[mQ] at this
 rwa[show ((x.st.toNat:Nat):Int)=x.st by have:=h.1.2.2.1;omega] at this
theorem apS{l:List aE}{c:aE}(h:l[i]?=some c):(l.take ((i:Int).toNat+1)).drop (i:Int).toNat=[c]:=by
 rw[Int.toNat_natCast,eA h,List.drop_append_of_le_length (by have:=(List.getElem?_eq_some_iff.1 h).1;rw[List.length_take];omega),List.drop_eq_nil_of_le (by rw[List.length_take];omega)];rfl
theorem amE(hK:fP ro l K)(hO:j6 K):yh ro l K (WW K) (G8 K.str K.ways):=by
 obtain⟨vS,vT,vc,vh,vr,vb,va,vf,fa,fc,hv,rfl,hS,hT,_⟩:=hK
 intro w hw x hx
 have hy:=abE (hO.before.2 x hx)
 have fin:∀(t:TrD),yY (B0 K.ways w)→dk K.str (B0 K.ways w)=[t]→G8 K.str K.ways w x=[t.g ⟨x.st,x.no,0⟩]→(G8 K.str K.ways w x).length≤1000∧∀aH,Sub ro aH→∀v vS' vT' vU r,[vS,vT,.slice fa 0 fc,vc,vh,vr,vb,va,zI K.gone,zI K.new,zI K.af,vf]=vS'::vT'::vU::r→nj aH v (B0 K.ways w)→
  eg zT 72 [.agg ⟨[vS',v,vU]⟩,.agg ⟨[zI x.st,zI x.no,zI 0]⟩] aH [] (fun r Y=>∃a n c,r= .tuple ⟨[.slice a n c,zI 0]⟩∧∀jW,Knows jW Y→bD jW (.slice a n c) 3 cN (G8 K.str K.ways w x)):=by
  intro t h1 h2 h3
  rw[h3]
  refine⟨by simp,fun aH hs v vS' vT' vU r he hv=>?_⟩
  simp only[List.cons.injEq] at he
  obtain⟨rfl,_,rfl,_⟩:=he
  exact ayY (hS.up hs) hO.pX hv h1 hy h2
 rcases YO hO with e| ⟨l,e⟩
 ·refine fin ⟨[],id⟩ ?_ ?_ ?_
  ·rw[e];exact⟨by simp[B0],by simp[B0]⟩
  ·rw[e];simp[B0,dk]
  rw[e];rfl
 obtain⟨i,c,hi,rfl⟩:=XE e hw
 have hc:B0 K.ways [(i:Int)]=[[c]]:=by rw[e];simp only[B0,List.zipWith_cons_cons,List.zipWith_nil_right,apS hi]
 refine fin ⟨[0],zw K.str c⟩ ?_ ?_ ?_
 ·rw[hc]
  refine⟨by simp,fun l' hl=>?_⟩
  rw[List.mem_singleton] at hl;subst hl
  exact⟨by simp,fun c' tI=>by rw[List.mem_singleton] at tI;subst tI;exact(hO.ways.2 l (by simp[e])).2 _ (zL hi)⟩
 ·rw[hc];rfl
 rw[e];simp only[G8,Int.toNat_natCast,hi]
def cK(K:aB):List bI:=(WW K).map (jJ K (G8 K.str K.ways))
theorem mN(h:j6 K):(cK K).length≤2:=by
 rw[cK,List.length_map];exact(ad0 h).n.2
theorem xD(hK:fP ro l K)(hO:j6 K)(hV:eR K):jR ro l K (cK K):=
 aqb hK hO hV (ad0 hO) (aet hK hO) (amE hK hO)
def bF(K:aB):Nat:=(cX K (aF K) (cm K.gone K.new K.af) (cK K)).length
theorem ID:∀(l:List Int) (a:Int),l.foldl min a≤a∧∀x∈l,l.foldl min a≤x
 | [],a=>⟨Int.le_refl _,fun _ h=>(by cases h)⟩
 |y::l,a=>by
  obtain⟨h1,h2⟩:=ID l (min a y)
  refine⟨by simp only[List.foldl_cons];omega,fun x hx=>?_⟩
  rcases List.mem_cons.1 hx with rfl|hx
  ·simp only[List.foldl_cons];omega
  exact h2 x hx
theorem Oo{l:List Int}(h:x∈l):vw l≤x:=by
 cases l with
 |nil=>cases h
 |cons y l=>
  rcases List.mem_cons.1 h with rfl|h
  ·exact(ID l _).1
  exact(ID l _).2 x h
theorem aoj(hK:fP ro l K)(hO:j6 K)(hV:eR K):Gb zT 48 [.agg ⟨l⟩] ro [] (fun r Y=>∃zs m e,zs.Perm (cX K (aF K) (fun _=>true) (cK K))∧Y=[]∧r= .tuple ⟨[zI m,zI e]⟩∧((zs=[]∧m=0∧e=9)∨(zs≠[]∧m=vw (zs.map GF)∧e=0))):=
 fun fr=>Fn.mono (avK hK hV (mN hO) (xD hK hO hV) fr) fun en s' ⟨v,Y,h1,h2,zs,h3,h4,h5⟩=>⟨v,Y,h1,h2,by
  rcases h5 with ⟨h5,h6⟩| ⟨h5,h6⟩
  ·exact⟨zs,0,9,h3,h4,h6,.inl ⟨h5,rfl,rfl⟩⟩
  exact⟨zs,_,0,h3,h4,h6,.inr ⟨h5,rfl,rfl⟩⟩⟩
theorem HB(hK:fP ro l K)(hO:j6 K)(hV:eR K):Gb zT 12 [.agg ⟨l⟩] ro [] (fun r Y=>r= .tuple ⟨[zI (bF K:Int),zI 0]⟩∧Y=[]):=agS hK hV (mN hO) (xD hK hO hV)
def IT:List Int→List Int→Bool
 | [],[]=>true
 |x::l,y::m=>decide (x=y)&&IT l m
 |_,_=>false
theorem akq:∀ {l m:List Int},¬l.length=m.length→IT l m=false
 | [],[],h=>absurd rfl h
 | [],_::_,_=>rfl
 |_::_,[],_=>rfl
 |x::l,y::m,h=>by rw[IT,akq (l:=l) (m:=m) (by simpa using h),Bool.and_false]
theorem akr(hx:xs[k]?=some x) (hy:ys[k]?=some y):IT (xs.drop k) (ys.drop k)=(decide (x=y)&&IT (xs.drop (k+1)) (ys.drop (k+1))):=by rw[eX hx,eX hy];rfl
theorem apL(hx:¬k <xs.length)(h:xs.length=ys.length):IT (xs.drop k) (ys.drop k)=true:=by rw[eE hx,eE (by omega)];rfl
def Fx:List (List Int)→List (List Int)→Bool
 | [],[]=>true
 |x::l,y::m=>IT x y&&Fx l m
 |_,_=>false
theorem aaf:∀ {l m:List (List Int)},¬l.length=m.length→Fx l m=false
 | [],[],h=>absurd rfl h
 | [],_::_,_=>rfl
 |_::_,[],_=>rfl
 |x::l,y::m,h=>by rw[Fx,aaf (l:=l) (m:=m) (by simpa using h),Bool.and_false]
theorem aag{xs ys:List (List Int)}{x y:List Int}(hx:xs[k]?=some x) (hy:ys[k]?=some y):Fx (xs.drop k) (ys.drop k)=(IT x y&&Fx (xs.drop (k+1)) (ys.drop (k+1))):=by rw[eX hx,eX hy];rfl
theorem akp{xs ys:List (List Int)}(hx:¬k <xs.length)(h:xs.length=ys.length):Fx (xs.drop k) (ys.drop k)=true:=by rw[eE hx,eE (by omega)];rfl
def yU:List Int→List Int→Int
 | [],[]=>0
 | [],_::_=> -1
 |_::_,[]=>1
 |x::xs,y::ys=>if rC x y=0 then yU xs ys else rC x y
theorem Tx(hx:xs[k]?=some x) (hy:ys[k]?=some y):yU (xs.drop k) (ys.drop k)=if rC x y=0 then yU (xs.drop (k+1)) (ys.drop (k+1)) else rC x y:=by rw[eX hx,eX hy];rfl
theorem acN(hx:xs[k]?=some x) (hy:¬k <ys.length):yU (xs.drop k) (ys.drop k)=1:=by rw[eX hx,eE hy];rfl
theorem Na(hx:¬k <xs.length):yU (xs.drop k) (ys.drop k)=if k <ys.length then-1 else 0:=by
 rw[eE hx]
 split
 ·rename_i h
  rw[List.drop_eq_getElem_cons h];rfl
 rename_i h
 rw[eE h];rfl
def mj(f:Int):Nat→List Int
 |0=>[]
 |k+1=>mj f k++(bif hasB f k then [(k:Int)] else [])
theorem an2(h:hasB f (k:Int)=true):mj f (k+1)=mj f k++[(k:Int)]:=by rw[mj,h];rfl
theorem an3(h:hasB f (k:Int)=false):mj f (k+1)=mj f k:=by rw[mj,h];exact List.append_nil _
theorem My(f:Int)(n:Nat):(mj f n).length≤n:=by
 induction n with
 |zero=>exact Nat.le_refl _
 |succ n ih=>rw[mj,List.length_append];cases hasB f (n:Int)<;>simp<;>omega
def zq(f:Int):Int:=([0,1,1,2,1,2,2,3,1,2,2,3,2,3,3,4]:List Int).getD f.toNat 0
theorem YI(h:0≤f∧f <16):0≤zq f∧zq f≤8:=by
 obtain⟨n,rfl⟩:=Int.eq_ofNat_of_zero_le h.1
 have h2:n <16:=by omega
 revert h2
 exact(by decide:∀n:Nat,n <16→0≤zq (n:Int)∧zq (n:Int)≤8) n
def Tv(x y:Int):Int:=if zq x-zq y=0 then yU (mj x 4) (mj y 4) else zq x-zq y
theorem aky{v w:Value}(hv:bD ro v 1 cB xs)(hw:bD ro w 1 cB ys)(hx:xs.length≤1000)(hy:ys.length≤1000):dK zT 25 [v,w] ro (.bool (IT xs ys)):=by
 obtain⟨NR,qvb,qvo,Cj,rfl,qvk,Q9,Q8⟩:=hv
 obtain⟨U2,qwb,qwo,NQ,rfl,qwk,qwh,qwl⟩:=hw
 refine zE<|zD 13<|js 10 (!decide ((xs.length:Int)=(ys.length:Int))) (fun h1=>?_) (fun h1=>?_)
 ·
  replace h1:=of_decide_eq_false (by simpa using h1)
  refine zD 6<|zX (.bool false) ⟨by rw[akq (by omega)],rfl⟩
 replace h1:=of_decide_eq_true (by simpa using h1)
 refine zD 8<|dV [1,1,0,1,0,0] [] (fun(zz:Nat)=>[(0,.slice NR xs.length Cj),(1,.slice U2 ys.length NQ),(5,zI (zz:Int))]) (fun zz=>[]) (fun zz=>zz≤xs.length∧IT xs ys=IT (xs.drop zz) (ys.drop zz)) (fun zz=>xs.length-zz) 0 ⟨by omega,rfl⟩ [] ?_
 rintro k hI K1 bO rest
 refine zD 8<|zJ 14 ((k:Int) <(xs.length:Int)) (fun h2=>?_) fun h2=>?_
 ·
  refine zD 8 ?_
  obtain⟨FJ,yz⟩:=zG xs k
  refine iz Cj 1 Q9 yz<|jl 0 (Q8 _ _ yz)<|zD 2 ?_
  obtain⟨vI,tD⟩:=zG ys k
  refine iz NQ 1 qwh tD<|jl 0 (qwl _ _ tD)<|zD 2<|js 25 (!decide (FJ=vI)) (fun h3=>?_) (fun h3=>?_)
  ·
   replace h3:=of_decide_eq_false (by simpa using h3)
   refine zD 6<|zX (.bool false) ⟨by rw[hI.2,akr yz tD,decide_eq_false (by omega),Bool.false_and],rfl⟩
  replace h3:=of_decide_eq_true (by simpa using h3)
  refine zD 4<|ja ((k:Int)+1) (by omega)<|zD 2<|bA bO (k+1) ⟨by omega,by rw[hI.2,akr yz tD,decide_eq_true (by omega),Bool.true_and]⟩ (by omega) [] (Sub.refl _)
 refine zD 7<|zX (.bool true) ⟨by rw[hI.2,apL (by omega) (by omega)],rfl⟩
theorem aOS{v w:Value}(hv:bD ro v 1 cB xs)(hw:bD ro w 1 cB ys)(hx:xs.length≤1000)(hy:ys.length≤1000):dK zT 88 [v,w] ro (zI (yU xs ys)):=by
 obtain⟨NR,qvb,qvo,Cj,rfl,qvk,Q9,Q8⟩:=hv
 obtain⟨U2,qwb,qwo,NQ,rfl,qwk,qwh,qwl⟩:=hw
 refine zE<|zD 12<|dV [1,0,1,0,0] [] (fun(zz:Nat)=>[(0,.slice NR xs.length Cj),(1,.slice U2 ys.length NQ),(9,.slice NR xs.length Cj),(10,zI (xs.length:Int)),(11,zI (zz:Int))]) (fun zz=>[]) (fun zz=>(zz≤xs.length∧zz≤ys.length)∧yU xs ys=yU (xs.drop zz) (ys.drop zz)) (fun zz=>xs.length-zz) 0 ⟨by omega,rfl⟩ [] ?_
 rintro k hI K1 bO rest
 refine zD 5<|zJ 12 ((k:Int) <(xs.length:Int)) (fun h1=>?_) fun h1=>?_
 ·
  refine zD 7 ?_
  obtain⟨fL,eH⟩:=zG xs k
  refine iz Cj 1 Q9 eH<|jl 0 (Q8 _ _ eH)<|zD 11<|zJ 19 ((k:Int)≥(ys.length:Int)) (fun h2=>?_) fun h2=>?_
  ·
   refine zD 6<|zX (zI 1) ⟨by rw[hI.2,acN eH (by omega)],rfl⟩
  refine zD 6 ?_
  obtain⟨sU,uF⟩:=zG ys k
  refine iz NQ 1 qwh uF<|jl 0 (qwl _ _ uF)<|zD 6<|jp (vs:=[zI fL,zI sU]) [] [] (fun aH hs hZ=>ay4)<|zD 7<|js 28 (!decide ((rC fL sU)=0)) (fun h3=>?_) (fun h3=>?_)
  ·
   replace h3:=of_decide_eq_false (by simpa using h3)
   refine zD 7<|zX (zI (rC fL sU)) ⟨by rw[hI.2,Tx eH uF,if_neg (by omega)],rfl⟩
  replace h3:=of_decide_eq_true (by simpa using h3)
  refine zD 3<|ja ((k:Int)+1) (by omega)<|zD 2<|bA bO (k+1) ⟨by omega,by rw[hI.2,Tx eH uF,if_pos (by omega)]⟩ (by omega) [] (Sub.refl _)
 refine zD 11<|zJ 35 ((xs.length:Int) <(ys.length:Int)) (fun h4=>?_) fun h4=>?_
 ·
  refine zD 6<|zX (zI (-1)) ⟨by rw[hI.2,Na (by omega),if_pos (by omega)],rfl⟩
 refine zD 7<|zX (zI 0) ⟨by rw[hI.2,Na (by omega),if_neg (by omega)],rfl⟩
theorem aj9:eg zT 63 [.int .u8 f] ro [] (fun r Y=>∃L,ay r 1 3 cB (mj f 4) L∧Y=L):=by
 refine zE<|zD 14<|nY<|dV [1,1,0,1,0,0] [] (fun(zz:Nat×Value×Cells)=>[(0,.int .u8 f),(2,zS),(3,zz.2.1),(5,zI (zz.1:Int))]) (fun zz=>[.l zz.2.2]) (fun zz=>zz.1≤4∧ay zz.2.1 1 3 cB (mj f zz.1) zz.2.2) (fun zz=>4-zz.1) (⟨0,zS,[]⟩) ⟨by dsimp only;omega,ay.nil _ _ _⟩ [0] ?_
 rintro⟨k,v,L⟩ hI K1 bO rest
 dsimp only at hI
 have hll:=My f k
 refine zD 5<|zJ 6 ((k:Int) <4) (fun h1=>?_) fun h1=>?_
 ·
  refine zD 13<|jp (vs:=[.int .u8 f,zI (k:Int)]) [] [] (fun aH hs hZ=>(avN (by omega)))<|zD 1<|js 10 (hasB f (k:Int)) (fun h2=>?_) (fun h2=>?_)
  ·
   refine zD 4<|jn fun AX=>iC (sz:=1) (ps:=(mj f k)) (qs:=[(k:Int)]) (enc:=cB) (w:= .slice (some ⟨AX,0,none⟩) 1 1) [1] [0] [(AX,.cells ⟨([(k:Int)].map cB).flatten⟩ 3 (0,0))] (hI.2) (fun s _ hZ=>bL [(k:Int)] (hZ _ (.head _)) (by intro p hp;rfl)) (fun p _=>ai rfl) (by simp<;>omega) (fun v14 L14 uK=>?_)
   obtain⟨A5,za,tH⟩:=uK.form
   subst tH
   refine zD 3<|ja ((k:Int)+1) (by omega)<|zD 2<|bA bO (⟨k+1,(.slice A5 (((mj f k)++[(k:Int)])).length za),L14⟩) ⟨by dsimp only;omega,by dsimp only;rw[an2 (by assumption)];exact uK⟩ (by dsimp only;omega) [0] (Sub.refl _)
  refine zD 3<|ja ((k:Int)+1) (by omega)<|zD 2<|bA bO (⟨k+1,v,L⟩) ⟨by dsimp only;omega,by dsimp only;rw[an3 (by assumption)];exact hI.2⟩ (by dsimp only;omega) [0] (Sub.refl _)
 refine zD 8<|zR (v) [] [0] L ⟨_,(by rw[←show k=4 by omega];exact hI.2),rfl⟩
theorem avG:dK zT 91 [.int .u8 0] ro (zI 0):=by
 refine zE<|zD 12<|zX (zI 0) ⟨rfl,rfl⟩
theorem avF:dK zT 91 [.int .u8 1] ro (zI 1):=by
 refine zE<|zD 12<|zX (zI 1) ⟨rfl,rfl⟩
theorem avE:dK zT 91 [.int .u8 2] ro (zI 1):=by
 refine zE<|zD 12<|zX (zI 1) ⟨rfl,rfl⟩
theorem avD:dK zT 91 [.int .u8 3] ro (zI 2):=by
 refine zE<|zD 12<|zX (zI 2) ⟨rfl,rfl⟩
theorem avC:dK zT 91 [.int .u8 4] ro (zI 1):=by
 refine zE<|zD 12<|zX (zI 1) ⟨rfl,rfl⟩
theorem avB:dK zT 91 [.int .u8 5] ro (zI 2):=by
 refine zE<|zD 12<|zX (zI 2) ⟨rfl,rfl⟩
theorem avA:dK zT 91 [.int .u8 6] ro (zI 2):=by
 refine zE<|zD 12<|zX (zI 2) ⟨rfl,rfl⟩
theorem avz:dK zT 91 [.int .u8 7] ro (zI 3):=by
 refine zE<|zD 12<|zX (zI 3) ⟨rfl,rfl⟩
theorem avy:dK zT 91 [.int .u8 8] ro (zI 1):=by
 refine zE<|zD 12<|zX (zI 1) ⟨rfl,rfl⟩
theorem avx:dK zT 91 [.int .u8 9] ro (zI 2):=by
 refine zE<|zD 12<|zX (zI 2) ⟨rfl,rfl⟩
theorem aof:dK zT 91 [.int .u8 10] ro (zI 2):=by
 refine zE<|zD 12<|zX (zI 2) ⟨rfl,rfl⟩
theorem aoe:dK zT 91 [.int .u8 11] ro (zI 3):=by
 refine zE<|zD 12<|zX (zI 3) ⟨rfl,rfl⟩
theorem aod:dK zT 91 [.int .u8 12] ro (zI 2):=by
 refine zE<|zD 12<|zX (zI 2) ⟨rfl,rfl⟩
theorem aoc:dK zT 91 [.int .u8 13] ro (zI 3):=by
 refine zE<|zD 12<|zX (zI 3) ⟨rfl,rfl⟩
theorem aob:dK zT 91 [.int .u8 14] ro (zI 3):=by
 refine zE<|zD 12<|zX (zI 3) ⟨rfl,rfl⟩
theorem aoa:dK zT 91 [.int .u8 15] ro (zI 4):=by
 refine zE<|zD 12<|zX (zI 4) ⟨rfl,rfl⟩
theorem arA(h:0≤f∧f <16):dK zT 91 [.int .u8 f] ro (zI (zq f)):=by
 obtain rfl|rfl|rfl|rfl|rfl|rfl|rfl|rfl|rfl|rfl|rfl|rfl|rfl|rfl|rfl|rfl:=(by omega:f=0∨f=1∨f=2∨f=3∨f=4∨f=5∨f=6∨f=7∨f=8∨f=9∨f=10∨f=11∨f=12∨f=13∨f=14∨f=15)
 ·exact avG
 ·exact avF
 ·exact avE
 ·exact avD
 ·exact avC
 ·exact avB
 ·exact avA
 ·exact avz
 ·exact avy
 ·exact avx
 ·exact aof
 ·exact aoe
 ·exact aod
 ·exact aoc
 ·exact aob
 exact aoa
def LL(ro:Nat→Option Obj)(v:Value)(W:List (List Int)):Prop:=∃ws,bD ro v 1 gz ws∧dA (fun w l=>bD ro w 1 cB l) ws W
theorem azg{v w:Value}{ws us:List Value}{W U:List (List Int)}(hv:bD ro v 1 gz ws)(hw:bD ro w 1 gz us)(ha:dA (fun w l=>bD ro w 1 cB l) ws W)(hb:dA (fun w l=>bD ro w 1 cB l) us U)(hx:W.length≤1000)(hy:U.length≤1000)(hW:∀l∈W,l.length≤1000)(hU:∀l∈U,l.length≤1000):dK zT 51 [v,w] ro (.bool (Fx W U)):=by
 obtain⟨NR,qvb,qvo,Cj,rfl,qvk,Q9,Q8⟩:=hv
 obtain⟨U2,qwb,qwo,NQ,rfl,qwk,qwh,qwl⟩:=hw
 have hla:=ha.len
 have hlb:=hb.len
 refine zE<|zD 13<|js 10 (!decide ((ws.length:Int)=(us.length:Int))) (fun h1=>?_) (fun h1=>?_)
 ·
  replace h1:=of_decide_eq_false (by simpa using h1)
  refine zD 6<|zX (.bool false) ⟨by rw[aaf (by omega)],rfl⟩
 replace h1:=of_decide_eq_true (by simpa using h1)
 refine zD 8<|dV [1,1,0,1,0,0] [] (fun(zz:Nat)=>[(0,.slice NR ws.length Cj),(1,.slice U2 us.length NQ),(5,zI (zz:Int))]) (fun zz=>[]) (fun zz=>zz≤W.length∧Fx W U=Fx (W.drop zz) (U.drop zz)) (fun zz=>W.length-zz) 0 ⟨by omega,rfl⟩ [] ?_
 rintro k hI K1 bO rest
 refine zD 8<|zJ 14 ((k:Int) <(ws.length:Int)) (fun h2=>?_) fun h2=>?_
 ·
  refine zD 8 ?_
  obtain⟨FJ,yz⟩:=zG ws k
  refine iz Cj 1 Q9 yz ?_
  obtain⟨l20,aw8,h20⟩:=ha.get yz
  obtain aw1:=hW _ (zL aw8)
  obtain⟨aDQ,aNv,aNr,aDP,rfl,aNt,aNu,aNs⟩:=h20
  refine jl 0 (Q8 _ _ yz)<|zD 2 ?_
  obtain⟨vI,tD⟩:=zG us k
  refine iz NQ 1 qwh tD ?_
  obtain⟨Vx,V1,ZY⟩:=hb.get tD
  obtain aGm:=hU _ (zL V1)
  obtain⟨auO,aDJ,aDH,afx,rfl,aDI,anp,ano⟩:=ZY
  refine jl 0 (qwl _ _ tD)<|jp (vs:=[.slice aDQ l20.length aDP,.slice auO Vx.length afx]) [] [] (fun aH hs hZ=>aky ((show bD _ _ _ _ _ from ⟨aDQ,aNv,aNr,aDP,rfl,aNt,aNu,aNs⟩).up hs) ((show bD _ _ _ _ _ from ⟨auO,aDJ,aDH,afx,rfl,aDI,anp,ano⟩).up hs) aw1 aGm)<|zD 2<|js 26 (!(IT l20 Vx)) (fun h3=>?_) (fun h3=>?_)
  ·
   try simp only[zB] at h3
   refine zD 6<|zX (.bool false) ⟨by rw[hI.2,aag aw8 V1];simp_all,rfl⟩
  try simp only[zB] at h3
  refine zD 4<|ja ((k:Int)+1) (by omega)<|zD 2<|bA bO (k+1) ⟨by omega,by rw[hI.2,aag aw8 V1];simp_all⟩ (by omega) [] (Sub.refl _)
 refine zD 7<|zX (.bool true) ⟨by rw[hI.2,akp (by omega) (by omega)],rfl⟩
theorem R5:(mj f 4).length≤1000:=Nat.le_trans (My f 4) (by decide)
def E8:Nat→List Int→List Int
 |0,ys=>ys
 |j+1,ys=>if Tv (ys.getD (j+1) 0) (ys.getD j 0) <0 then E8 j ((ys.set (j+1) (ys.getD j 0)).set j (ys.getD (j+1) 0)) else ys
def GK:Nat→Nat→List Int→List Int
 |0,_,ys=>ys
 |n+1,i,ys=>GK n (i+1) (E8 i ys)
def Eh(xs:List Int):List Int:=GK (xs.length-1) 1 xs
theorem abX(h:¬j>0):E8 j.toNat ys=ys:=by rw[show j.toNat=0 by omega];rfl
theorem apw(h:ys[i]?=some x):ys.getD i 0=x:=by rw[List.getD_eq_getElem?_getD,h];rfl
theorem abY(hj:j>0)(hx:ys[j.toNat]?=some x) (hy:ys[(j-1).toNat]?=some y) (h:¬Tv x y <0):E8 j.toNat ys=ys:=by
 have e:j.toNat=(j-1).toNat+1:=by omega
 rw[e] at hx ⊢
 rw[E8,apw hx,apw hy,if_neg h]
theorem Zv{x' y':Int}(hj:j>0)(hx:ys[j.toNat]?=some x) (hy:ys[(j-1).toNat]?=some y) (lU:ys[j.toNat]?=some x') (hy':ys[(j-1).toNat]?=some y') (h:Tv x y <0):E8 j.toNat ys=E8 (j-1).toNat ((ys.set j.toNat y').set (j-1).toNat x'):=by
 rw[hx] at lU;rw[hy] at hy';cases lU;cases hy'
 have e:j.toNat=(j-1).toNat+1:=by omega
 rw[e] at hx ⊢
 rw[E8,apw hx,apw hy,if_pos h]
def PT(v:Value)(xs:List Int)(Y:Cells):Prop:=∃ys,ys=Eh xs∧ay v 1 105 Ug ys Y
theorem UG{n:Nat}{i:Int}(h:Eh xs=GK (n-i.toNat) i.toNat ys)(hi:0≤i∧i <n):Eh xs=GK (n-(i+1).toNat) (i+1).toNat (E8 i.toNat ys):=by
 rw[h,show n-i.toNat=(n-(i+1).toNat)+1 by omega,show (i+1).toNat=i.toNat+1 by omega];rfl
theorem aa3{n:Nat}{i:Int}(h:Eh xs=GK (n-i.toNat) i.toNat ys)(hi:¬i <n):ys=Eh xs:=by
 rw[h,show n-i.toNat=0 by omega];rfl
theorem aOj(hx:0≤x∧x <16)(hy:0≤y∧y <16):dK zT 90 [.int .u8 x,.int .u8 y] ro (zI (Tv x y)):=by
 have hpx:=YI hx
 have hpy:=YI hy
 refine zE<|zD 8<|jp (vs:=[.int .u8 x]) [] [] (fun aH hs hZ=>(arA hx))<|zD 1<|jp (vs:=[.int .u8 y]) [] [] (fun aH hs hZ=>(arA hy))<|ja ((zq x)-(zq y)) (by omega)<|zD 7<|js 12 (!decide (((zq x)-(zq y))=0)) (fun h1=>?_) (fun h1=>?_)
 ·
  replace h1:=of_decide_eq_false (by simpa using h1)
  refine zD 7<|zX (zI ((zq x)-(zq y))) ⟨by rw[Tv,if_neg (by omega)],rfl⟩
 replace h1:=of_decide_eq_true (by simpa using h1)
 refine zD 5<|jc (vs:=[.int .u8 x]) [] (aj9) ?_
 rintro v15 L15 ⟨_,awP,rfl⟩
 refine zD 1<|jc (vs:=[.int .u8 y]) [] (aj9) ?_
 rintro v17 L17 ⟨_,Dg,rfl⟩
 refine jp (vs:=[v15,v17]) [1,0] (L15++L17) (fun aH hs hZ=>aOS (awP.jL hZ.left) (Dg.jL hZ.right) R5 R5)<|zD 3<|zX (zI (yU (mj x 4) (mj y 4))) ⟨by rw[Tv,if_pos (by omega)],rfl⟩
theorem aOi{v:Value}{L:Cells}(ho:ay v 1 105 Ug xs L)(hN:xs.length≤12)(hM:∀m∈xs,0≤m∧m <16):eg zT 152 [v,zI 0,zI (xs.length:Int),.func (.func 90) ⟨[]⟩ ⟨[]⟩] ro L (fun r Y=>PT v xs Y):=by
 refine zC [.l L]<|zD 7<|dV [1,0,0] [] (fun(zz:Int×(List Int)×Cells)=>[(0,v),(1,zI 0),(2,zI (xs.length:Int)),(3,.func (.func 90) ⟨[]⟩ ⟨[]⟩),(8,zI zz.1)]) (fun zz=>[.l zz.2.2]) (fun zz=>(1≤zz.1)∧ay v 1 105 Ug zz.2.1 zz.2.2∧zz.2.1.Perm xs∧Eh xs=GK (xs.length-zz.1.toNat) zz.1.toNat zz.2.1) (fun zz=>((xs.length:Int)-zz.1).toNat) (⟨1,xs,L⟩) ⟨by dsimp only;omega,ho,.refl _,rfl⟩ [0] ?_
 rintro⟨i,ys,L⟩ hI K1 bO rest
 dsimp only at hI
 have Zx:=hI.2.2.1.length_eq
 have hym:∀m∈ys,0≤m∧m <16:=fun m hm=>hM m (hI.2.2.1.mem_iff.1 hm)
 refine zD 7<|zJ 14 (i <(xs.length:Int)) (fun h1=>?_) fun h1=>?_
 ·
  refine zD 10<|dV [1,0,0,1,0,0,1,0,0] [K1] (fun(zz:Int×(List Int)×Cells)=>[(0,v),(1,zI 0),(2,zI (xs.length:Int)),(3,.func (.func 90) ⟨[]⟩ ⟨[]⟩),(8,zI i),(9,zI zz.1)]) (fun zz=>[.l zz.2.2]) (fun zz=>(0≤zz.1∧zz.1≤i)∧ay v 1 105 Ug zz.2.1 zz.2.2∧zz.2.1.Perm xs∧Eh xs=GK (xs.length-(i+1).toNat) (i+1).toNat (E8 zz.1.toNat zz.2.1)) (fun zz=>zz.1.toNat) (⟨i,ys,L⟩) ⟨by dsimp only;omega,hI.2.1,hI.2.2.1,UG hI.2.2.2 (by omega)⟩ [0] ?_
  rintro⟨j,ys,L⟩ hJ K2 mr rest
  dsimp only at hJ
  have Zx:=hJ.2.2.1.length_eq
  have hym:∀m∈ys,0≤m∧m <16:=fun m hm=>hM m (hJ.2.2.1.mem_iff.1 hm)
  refine zD 7<|js 3 (decide (j>0)) (fun h2=>?_) (fun h2=>?_)
  ·
   have mI:=h2
   replace mI:=of_decide_eq_true mI
   refine zD 3 ?_
   obtain⟨y5,lB⟩:=zG ys (j.toNat) (by first|omega| (simp only[List.length_set];omega))
   refine pZ j 1 hJ.2.1 lB (Int.toNat_of_nonneg (show 0≤j∧j <((ys).length:Int) from (by first|omega| (simp only[List.length_set];omega))).1).symm (fun j8 aiM=>?_)
   refine mT 0 [0] L (fun s _ hZ=>bR hJ.2.1 aiM hZ lB)<|zD 2<|ja (j-1) (by omega) ?_
   obtain⟨oI,jk⟩:=zG ys ((j-1).toNat) (by first|omega| (simp only[List.length_set];omega))
   refine pZ (j-1) 1 hJ.2.1 jk (Int.toNat_of_nonneg (show 0≤(j-1)∧(j-1) <((ys).length:Int) from (by first|omega| (simp only[List.length_set];omega))).1).symm (fun b30 Wd=>?_)
   refine mT 0 [0] L (fun s _ hZ=>bR hJ.2.1 Wd hZ jk)<|aQ 14 fun qp qv oV=>jp (vs:=[.int .u8 y5,.int .u8 oI]) [] [] (fun aH hs hZ=>(aOj (hym _ (zL lB)) (hym _ (zL jk))))<|eo oV [0]<|zD 3<|zJ 34 ((Tv y5 oI) <0) (fun h4=>?_) fun h4=>?_
   ·
    refine zD 9<|ja (j-1) (by omega)<|zD 2<|ja (j-1) (by omega) ?_
    obtain⟨ym,Fe⟩:=zG ys ((j-1).toNat) (by first|omega| (simp only[List.length_set];omega))
    refine pZ (j-1) 1 hJ.2.1 Fe (Int.toNat_of_nonneg (show 0≤(j-1)∧(j-1) <((ys).length:Int) from (by first|omega| (simp only[List.length_set];omega))).1).symm (fun b45 aiL=>?_)
    refine mT 0 [0] L (fun s _ hZ=>bR hJ.2.1 aiL hZ Fe)<|zD 2 ?_
    obtain⟨J0,Fc⟩:=zG ys (j.toNat) (by first|omega| (simp only[List.length_set];omega))
    refine pZ j 1 hJ.2.1 Fc (Int.toNat_of_nonneg (show 0≤j∧j <((ys).length:Int) from (by first|omega| (simp only[List.length_set];omega))).1).symm (fun b49 aiK=>?_)
    refine mT 0 [0] L (fun s _ hZ=>bR hJ.2.1 aiK hZ Fc) ?_
    obtain⟨x51,Fb⟩:=zG ys (j.toNat) (by first|omega| (simp only[List.length_set];omega))
    refine pZ j 1 hJ.2.1 Fb (Int.toNat_of_nonneg (show 0≤j∧j <((ys).length:Int) from (by first|omega| (simp only[List.length_set];omega))).1).symm (fun b51 aiJ=>?_)
    refine aQ 15 fun sq su qR=>MC 0 0 [.int .u8 ym] ym hJ.2.1 aiJ Fb rfl rfl (Nat.le_of_ble_eq_true rfl) fun L6 VU=>fJ qR [] ?_
    obtain⟨x52,wO⟩:=zG ((ys.set j.toNat ym)) ((j-1).toNat) (by first|omega| (simp only[List.length_set];omega))
    refine pZ (j-1) 1 VU wO (Int.toNat_of_nonneg (show 0≤(j-1)∧(j-1) <(((ys.set j.toNat ym)).length:Int) from (by first|omega| (simp only[List.length_set];omega))).1).symm (fun b52 aiI=>?_)
    refine aQ 17 fun AZ A9 BK=>MC 0 0 [.int .u8 J0] J0 VU aiI wO rfl rfl (Nat.le_of_ble_eq_true rfl) fun L9 VX=>fp BK<|zD 3<|ja (j-1) (by omega)<|zD 2<|bA mr (⟨(j-1),((ys.set j.toNat ym).set ((j-1).toNat) J0),L9⟩) ⟨by dsimp only;omega,VX,(nT Fc Fe).trans hJ.2.2.1,by dsimp only;rw[hJ.2.2.2,Zv (by omega) lB jk Fc Fe (by assumption)]⟩ (by dsimp only;omega) [0] (Sub.refl _)
   refine zD 4<|ja (i+1) (by omega)<|zD 2<|bA bO (⟨(i+1),ys,L⟩) ⟨by dsimp only;omega,hJ.2.1,hJ.2.2.1,by dsimp only;rw[hJ.2.2.2,abY (by omega) lB jk (by assumption)]⟩ (by dsimp only;omega) [0] (Sub.refl _)
  have mI:=h2
  replace mI:=of_decide_eq_false mI
  refine zD 18<|ja (i+1) (by omega)<|zD 2<|bA bO (⟨(i+1),ys,L⟩) ⟨by dsimp only;omega,hJ.2.1,hJ.2.2.1,by dsimp only;rw[hJ.2.2.2,abX (by omega)]⟩ (by dsimp only;omega) [0] (Sub.refl _)
 refine zD 2<|zR (.tuple ⟨[]⟩) [] [0] L ⟨ys,aa3 hI.2.2.2 (by omega),hI.2.1⟩
theorem aqg(h:K.facts.length≤3):IntKind.u8.wrap (aF K+1)=((2^K.facts.length:Nat):Int):=by
 unfold aF
 generalize K.facts.length=n at h
 obtain rfl|rfl|rfl|rfl:n=0∨n=1∨n=2∨n=3:=by omega
 all_goals decide
theorem ans{n:Nat}(h:n≤3):2^n≤8:=by
 obtain rfl|rfl|rfl|rfl:n=0∨n=1∨n=2∨n=3:=by omega
 all_goals decide
theorem aB5{n:Nat}(h:n≤255):Value.int .u8 (IntKind.u8.wrap (n:Int))= .int .u8 (n:Int):=by
 rw[sX .u8 rfl _ (by omega) (by simp[IntKind.bits];omega)]
def pR(n:Nat):List Int:=Eh (cG (2^n))
theorem abl{n:Nat}(h:n≤8):∀m∈cG n,0≤m∧m <16:=fun m hm=>by have:=nQ hm;omega
theorem aOh{v:Value}{L:Cells}{lim:Int}(ho:ay v 1 105 Ug xs L)(hN:xs.length≤12)(hM:∀m∈xs,0≤m∧m <16):eg zT 113 [v,zI 0,zI (xs.length:Int),zI lim,.func (.func 90) ⟨[]⟩ ⟨[]⟩] ro L (fun r Y=>PT v xs Y):=by
 refine zC [.l L]<|zD 9<|dV [1,1,0,0] [] (fun(zz:Nat)=>[(0,v),(1,zI 0),(2,zI (xs.length:Int)),(3,zI lim),(4,.func (.func 90) ⟨[]⟩ ⟨[]⟩),(10,.bool true),(11,.bool true)]) (fun zz=>[.l L]) (fun zz=>True) (fun zz=>zz) 0 trivial [0] ?_
 rintro z hI K1 bO rest
 refine zD 5<|ja ((xs.length:Int)-0) (by omega)<|zD 8<|zJ 25 (((xs.length:Int)-0)≤12) (fun h1=>?_) fun h1=>?_
 ·
  refine zD 7<|jc (vs:=[v,zI 0,zI (xs.length:Int),.func (.func 90) ⟨[]⟩ ⟨[]⟩]) [0] (aOi ho hN hM) ?_
  rintro aCW Y30 ⟨aLf,awI,Df⟩
  refine zD 2<|zR (.tuple ⟨[]⟩) [] [0] Y30 ⟨_,awI,Df⟩
 exfalso;omega
theorem aEu{v:Value}{L:Cells}(ho:ay v 1 105 Ug xs L)(hN:xs.length≤12)(hM:∀m∈xs,0≤m∧m <16):eg zT 89 [v,.func (.func 90) ⟨[]⟩ ⟨[]⟩] ro L (fun r Y=>PT v xs Y):=by
 refine zC [.l L]<|zD 3<|yJ ho<|zD 6<|je (zU (xs.length:Int)) (adW (by omega))<|jp (vs:=[zU (xs.length:Int)]) [] [] (fun aH hs hZ=>(ay3 (by omega)))<|zD 1<|jc (vs:=[v,zI 0,zI (xs.length:Int),zI (abQ xs.length),.func (.func 90) ⟨[]⟩ ⟨[]⟩]) [0] (aOh ho hN hM) ?_
 rintro aCX Y13 ⟨aLh,aca,VW⟩
 refine zD 1<|zR (.tuple ⟨[]⟩) [] [0] Y13 ⟨_,aca,VW⟩
theorem aH0{f:Nat}{rows:List bI}(hF:pO ro f K rows)(hV:eR K)(hn3:K.facts.length≤3):eg zT 61 [zP f] ro [] (fun r Y=>∃L,ay r 1 105 Ug (pR K.facts.length) L∧Y=L):=by
 have hp8:=ans hn3
 refine zE<|zD 12<|jp (vs:=[zP f]) [] [] (fun aH hs hZ=>Ey hV (hF.up hs))<|je (.int .u8 ((2^K.facts.length:Nat):Int)) (congrArg (Value.int .u8) (aqg hn3))<|zD 3<|nY<|dV [1,1,0,1,0,0] [] (fun(zz:Nat×Value×Cells)=>[(2,zS),(3,zz.2.1),(7,.int .u8 ((2^K.facts.length:Nat):Int)),(8,.int .u8 (zz.1:Int))]) (fun zz=>[.l zz.2.2]) (fun zz=>zz.1≤2^K.facts.length∧ay zz.2.1 1 105 Ug (cG zz.1) zz.2.2) (fun zz=>2^K.facts.length-zz.1) (⟨0,zS,[]⟩) ⟨Nat.zero_le _,ay.nil _ _ _⟩ [0] ?_
 rintro⟨k,v,L⟩ hI K1 bO rest
 dsimp only at hI
 have hrl:=gV k
 refine zD 5<|zJ 9 ((k:Int) <((2^K.facts.length:Nat):Int)) (fun h1=>?_) fun h1=>?_
 ·
  refine zD 12<|jn fun AX=>iC (sz:=1) (ps:=(cG k)) (qs:=[(k:Int)]) (enc:=Ug) (w:= .slice (some ⟨AX,0,none⟩) 1 1) [1] [0] [(AX,.cells ⟨([(k:Int)].map Ug).flatten⟩ 105 (0,0))] (hI.2) (fun s _ hZ=>bL [(k:Int)] (hZ _ (.head _)) (by intro p hp;rfl)) (fun p _=>ai rfl) (by simp<;>omega) (fun v14 L14 uK=>?_)
  obtain⟨A5,za,tH⟩:=uK.form
  subst tH
  refine zD 3<|je (.int .u8 ((k:Int)+1)) (aB5 (n:=k+1) (by omega))<|zD 2<|bA bO (⟨k+1,(.slice A5 (((cG k)++[(k:Int)])).length za),L14⟩) ⟨by dsimp only;omega,by dsimp only;rw[wy];exact uK⟩ (by dsimp only;omega) [0] (Sub.refl _)
 refine zD 5<|jc (vs:=[v,.func (.func 90) ⟨[]⟩ ⟨[]⟩]) [0] (aEu hI.2 (by rw[gV];omega) (abl (by omega))) ?_
 rintro aYy Y17 ⟨aXM,aPY,Dg⟩
 refine zD 7<|zR (v) [] [0] Y17 ⟨_,by rw[pR,show 2^K.facts.length=k by omega,←aPY];exact Dg,rfl⟩
def KM(K:aB)(rows:List bI)(p:Nat→Int):Nat→Bool
 |0=>false
 |i+1=>KM K rows p i||cm K.gone K.new K.af (cu K ((rows[i]?).getD ⟨fun _ _=>false⟩) i p)
theorem aaC{rows:List bI}{r:bI}(h:rows[i]?=some r):KM K rows p (i+1)=(KM K rows p i||cm K.gone K.new K.af (cu K r i p)):=by rw[KM,h];rfl
theorem aqf{rows:List bI}{n:Nat}(h:KM K rows p i=true)(hn:i≤n):KM K rows p n=true:=by
 induction n with
 |zero=>rwa[show i=0 by omega] at h
 |succ n ih=>
  by_cases e:i=n+1
  ·rwa[e] at h
  rw[KM,ih (by omega),Bool.true_or]
def acR(K:aB)(rows:List bI)(on:Int):Bool:=(aK K on).any fun p=>KM K rows p rows.length
theorem alg{f:α→Bool}{l:List α}{x:α}(h:l[k]?=some x) (h1:(l.take k).any f=false) (h2:f x=false):(l.take (k+1)).any f=false:=by
 rw[iF h,List.any_append,h1,List.any_cons,h2];rfl
theorem aTe{f:Nat}{rows:List bI}{on:Int}(hF:pO ro f K rows)(hV:eR K)(hR:rows.length≤1000):eg zT 62 [zP f,.int .u8 on] ro [] (fun r Y=>r= .bool (acR K rows on)∧Y=[]):=by
 obtain⟨c0,c1,c2,vc,vh,vr,vb,va,vf,vt,hv,hf,px,n6,hr,Fq,Kw,MK,bW⟩:=id hF
 obtain⟨hc,hh,dq⟩:=id px
 obtain⟨dc,AN,AM,cY,rfl,CN,yH,yG⟩:=hc
 obtain⟨cF,rH,rG,cy,rfl,tv,pw,pn⟩:=hh
 obtain⟨kY,JD,JC,kX,rfl,P3,GY,GX⟩:=hr
 obtain⟨lQ,N1,NZ,kZ,rfl,N0,G0,GZ⟩:=Fq
 obtain⟨lR,N6,N4,k7,rfl,N5,G2,G1⟩:=Kw
 obtain⟨mC,U8,U6,lu,rfl,U7,NY,NX⟩:=MK
 obtain⟨nS,E3,E1,nu,rfl,Ra,NT,NS⟩:=bW
 have T7:=hV.rules.1
 have Dh:=hV.before.1
 have FW:=hV.after.1
 have hnf:=hV.facts.1
 refine aop av [] [] bp<|zD 2<|jn fun b2=>zD 5<|jn fun b5=>jd 9 [0,1]<|jc (vs:=[zP f,.int .u8 on]) [] (Mz (on:=on) hF hV) ?_
 rintro _ _ ⟨q1,q2,q3,q4,rfl,rfl⟩
 refine jg 0 [.b q1 (.cells ⟨[zP f]⟩ 100 (0,0)),.b q2 (.cells ⟨[.func (.func 116) ⟨[]⟩ ⟨[zP q1,zP q4]⟩]⟩ 218 (0,0)),.b q3 (.cells ⟨[.bool (dv K on 0 0),.bool (dv K on 0 1),.bool (dv K on 0 2),.bool (dv K on 0 3),.bool (dv K on 1 0),.bool (dv K on 1 1),.bool (dv K on 1 2),.bool (dv K on 1 3),.bool (dv K on 2 0),.bool (dv K on 2 1),.bool (dv K on 2 2),.bool (dv K on 2 3),.bool (dv K on 3 0),.bool (dv K on 3 1),.bool (dv K on 3 2),.bool (dv K on 3 3)]⟩ 153 (0,0)),.b q4 (.cells ⟨[.int .u8 on]⟩ 105 (0,0))]<|jf [0,1,2,3,5] ((q1,.cells ⟨[zP f]⟩ 100 (0,0))::((q2,.cells ⟨[.func (.func 116) ⟨[]⟩ ⟨[zP q1,zP q4]⟩]⟩ 218 (0,0))::((q3,.cells ⟨[.bool (dv K on 0 0),.bool (dv K on 0 1),.bool (dv K on 0 2),.bool (dv K on 0 3),.bool (dv K on 1 0),.bool (dv K on 1 1),.bool (dv K on 1 2),.bool (dv K on 1 3),.bool (dv K on 2 0),.bool (dv K on 2 1),.bool (dv K on 2 2),.bool (dv K on 2 3),.bool (dv K on 3 0),.bool (dv K on 3 1),.bool (dv K on 3 2),.bool (dv K on 3 3)]⟩ 153 (0,0))::((q4,.cells ⟨[.int .u8 on]⟩ 105 (0,0))::[(b2,.cells ⟨[zP f]⟩ 100 (0,0))])))) fun zo bH iQ=>zD 2<|jrf [] (Zp (on:=on) (hF.up bH) hV (iQ _ (.head _)) (iQ _ (.tail _ (.head _))) (iQ _ (.tail _ (.tail _ (.head _)))) (iQ _ (.tail _ (.tail _ (.tail _ (.head _)))))) (by rintro _ _ _ _ ⟨_,_,rfl,_⟩;rfl) (fun(zz:Bool)=>[.b b5 (.cells ⟨[.bool zz]⟩ 4 (0,0))]) (fun kk=>(fun(zz:Bool)=>zz=false∧(((aK K on).take kk).any fun p=>KM K rows p rows.length)=false)) (fun jump=>(fun(zz:Bool)=>jump= .exit 0∧zz=true∧acR K rows on=true)) false ⟨rfl,rfl⟩ [0] ?_ ?_ ?_
 ·
  rintro bl4 bd4 kk4 vs4 LL4 bo ro4 hk4 axA hI eT
  obtain⟨p4,hp4,rfl,rfl⟩:=axA
  have hpb:=(kz hV on).2 p4 (zL hp4)
  refine zD 1<|jn fun b6=>jd 2 [0]<|aET<|zD 3<|jl (b:=b2) (off:=0) (m:=1) (vs:=[zP f]) 0 ⟨_,_,_,.inl (eT _ _ (iQ _ (.tail _ (.tail _ (.tail _ (.tail _ (.head _))))))),rfl⟩<|zD 2<|jl (b:=f) (off:=0) (m:=13) (vs:=[c0,c1,c2,.slice dc K.cs.length cY,.slice cF hv.length cy,.slice kY K.rules.length kX,.slice lQ K.before.length kZ,.slice lR K.after.length k7,zI K.gone,zI K.new,zI K.af,.slice mC K.facts.length lu,.slice nS rows.length nu]) 12 ⟨_,_,_,.inl (eT _ _ (bH _ _ hf)),rfl⟩<|zD 4<|aOG [1] [1,0,1,1,0,1,0,3,0,1,0,0] [] (fun(zz:Nat×Bool)=>[(2,zP b2),(4,.bool false),(5,zP b5),(6,zP b6),(16,zI (rows.length:Int)),(17,zI (zz.1:Int))]) (fun zz=>[.b b5 (.cells ⟨[.bool zz.2]⟩ 4 (0,0)),.b b6 (.cells ⟨[zI (p4 0),zI (p4 1),zI (p4 2),zI (p4 3)]⟩ 126 (0,0))]) (fun zz=>zz.1≤rows.length∧zz.2=false∧KM K rows p4 zz.1=false) (fun zz=>rows.length-zz.1) (⟨0,bo⟩) ⟨Nat.zero_le _,hI.1,rfl⟩ [2,0,1] ?_
  rintro⟨i,bo⟩ hJ K1 bO rest
  dsimp only at hJ
  refine zD 5<|zJ 18 ((i:Int) <(rows.length:Int)) (fun h5=>?_) fun h5=>?_
  ·
   refine zD 5 ?_
   obtain⟨r_,De⟩:∃r_,rows[i]?=some r_:=⟨_,List.getElem?_eq_getElem (by omega)⟩
   refine zD 6<|jl (b:=b2) (off:=0) (m:=1) (vs:=[zP f]) 0 ⟨_,_,_,.inl (eT _ _ (iQ _ (.tail _ (.tail _ (.tail _ (.tail _ (.head _))))))),rfl⟩<|jl (b:=b2) (off:=0) (m:=1) (vs:=[zP f]) 0 ⟨_,_,_,.inl (eT _ _ (iQ _ (.tail _ (.tail _ (.tail _ (.tail _ (.head _))))))),rfl⟩<|jd 2 [1]<|jp (vs:=[zP f,zI (i:Int),.agg ⟨[zI (p4 0),zI (p4 1),zI (p4 2),zI (p4 3)]⟩]) [] [] (fun aH hs hZ=>arC (hF.up (Sub.trans (bH.trans eT) hs)) hV De hpb)<|jp (vs:=[zP f,.agg ⟨[zI ((cu K r_ i p4).past),zI ((cu K r_ i p4).w0),zI ((cu K r_ i p4).w1),zI ((cu K r_ i p4).w2),zI ((cu K r_ i p4).w3),zI ((cu K r_ i p4).gone),zI ((cu K r_ i p4).new),zI ((cu K r_ i p4).af)]⟩]) [] [] (fun aH hs hZ=>ag6 (x:=(cu K r_ i p4)) (hs _ _ (eT _ _ (bH _ _ hf))))<|aQ 6 fun y4 ze wZ=>jd 1 [0]<|fp wZ<|jd 5 [0]<|js 26 (cm K.gone K.new K.af (cu K r_ i p4)) (fun h7=>?_) (fun h7=>?_)
   ·
    refine zD 2<|jys qy0 (Sub.refl _) (.exit 0) (cm K.gone K.new K.af (cu K r_ i p4)) ⟨rfl,by assumption,List.any_eq_true.2 ⟨p4,zL hp4,aqf (i:=i+1) (by rw[aaC De];simp[*]) (by omega)⟩⟩ [2,0]
   refine zD 3<|ja ((i:Int)+1) (by omega)<|zD 2<|bA bO (⟨i+1,(cm K.gone K.new K.af (cu K r_ i p4))⟩) ⟨by dsimp only;omega,by assumption,by dsimp only;rw[aaC De,hJ.2.2,Bool.false_or];assumption⟩ (by dsimp only;omega) [0,1,2] (Sub.refl _)
  refine zD 2<|jyn qy0 (Sub.refl _) bo ⟨hJ.2.1,alg hp4 hI.2 (by have:=hJ.2.2;rwa[show i=rows.length by omega] at this)⟩ [2,0]
 ·
  rintro bd4 bo Z4 hI hZ4
  subst hZ4
  refine jd 6 [2]<|jrM qm0.a.m (.bool bo) [0] [] [] [] bH ⟨by have:=hI.2;rw[List.take_of_length_le (Nat.le_refl _)] at this;rw[hI.1,acR,this],rfl⟩
 rintro bd4 bo Z4 jump hS hZ4
 obtain⟨rfl,hS⟩:=hS
 subst hZ4
 refine jd 6 [2]<|jrM qm0.a.m (.bool bo) [0] [] [] [] bH ⟨by rw[hS.1,hS.2],rfl⟩
def iAn(k:IntKind)(a b:Int):Int:=k.wrap (BitVec.ofInt k.bits a&&& ~~~ BitVec.ofInt k.bits b).toNat
theorem avk:pR 0=[0]:=by kernel_rfl
theorem avj:pR 1=[0,1]:=by kernel_rfl
theorem avi:pR 2=[0,1,2,3]:=by kernel_rfl
theorem avh:pR 3=[0,1,2,4,3,5,6,7]:=by kernel_rfl
theorem agq{n:Nat}(h:n≤3):(pR n).length≤8∧∀m∈pR n,0≤m∧m <16:=by
 obtain rfl|rfl|rfl|rfl:n=0∨n=1∨n=2∨n=3:=by omega
 ·rw[avk];decide
 ·rw[avj];decide
 ·rw[avi];decide
 rw[avh];decide
def Nn(K:aB)(rows:List bI):Option Int:=(pR K.facts.length).find? fun m=>acR K rows (iAn .u8 (aF K) m)
theorem aac{p:α→Bool}{l:List α}{x:α}(hx:l[k]?=some x):(l.drop k).find? p=bif p x then some x else (l.drop (k+1)).find? p:=by rw[eX hx,List.find?_cons];cases p x<;>rfl
theorem aj2{p:α→Bool}{l:List α}(hx:¬k <l.length):(l.drop k).find? p=none:=by rw[eE hx];rfl
theorem avt{rows:List bI}(hK:fP ro l K)(hV:eR K)(hR:rows.length≤2)(hB:jR ro l K rows)(hn3:K.facts.length≤3):eg zT 22 [.agg ⟨l⟩] ro [] (fun r Y=>∃v e,r= .tuple ⟨[v,zI e]⟩∧((∃m,Nn K rows=some m∧ay v 1 3 cB (mj m 4) Y∧e=0)∨(Nn K rows=none∧v= zS∧e=11∧Y=[]))):=by
 obtain⟨v0,v1,v3,v4,v5,v6,v7,vb,fa,fc,hv,rfl,_⟩:=hK
 have SB:=agq hn3
 have V0:=SB.1
 refine zE<|zD 2<|jn fun b1=>jd 6 [0]<|jc (vs:=[.agg ⟨[v0,v1,.slice fa 0 fc,v3,v4,v5,v6,v7,zI K.gone,zI K.new,zI K.af,vb]⟩]) [] (hB _ (Sub.refl _)) ?_
 rintro _ Y10 ⟨f10,rfl,ayJ⟩
 refine zD 5<|jf [0] Y10 (fun zo bH iQ=>?_)
 have Fs:=ayJ _ bH iQ
 refine zD 13<|jc (vs:=[zP f10]) [] (aH0 Fs hV hn3) ?_
 rintro v17 L17 ⟨_,Dg,rfl⟩
 refine yJ Dg<|zD 3<|dV [1,1,1,0,1,0,0] [] (fun(zz:Nat)=>[(4,zP f10),(17,v17),(18,zI ((pR K.facts.length).length:Int)),(19,zI (zz:Int))]) (fun zz=>[.l L17,.b b1 (.cells ⟨[v0,v1,.slice fa 0 fc,v3,v4,v5,v6,v7,zI K.gone,zI K.new,zI K.af,vb]⟩ 40 (0,0))]) (fun zz=>zz≤(pR K.facts.length).length∧Nn K rows=((pR K.facts.length).drop zz).find? (fun m=>acR K rows (iAn .u8 (aF K) m))) (fun zz=>(pR K.facts.length).length-zz) 0 ⟨Nat.zero_le _,rfl⟩ [0,1] ?_
 rintro k hI K1 bO rest
 refine zD 5<|zJ 20 ((k:Int) <((pR K.facts.length).length:Int)) (fun h4=>?_) fun h4=>?_
 ·
  refine zD 6 ?_
  obtain⟨y6,qI⟩:=zG ((pR K.facts.length)) k (by first|omega| (simp only[List.length_set,zM];omega))
  refine HC 1 Dg qI fun b21 aR1=>mT 0 [0] L17 (fun s _ hZ=>bR Dg aR1 hZ qI)<|zD 6<|jp (vs:=[zP f10]) [] [] (fun aH hs hZ=>Ey hV (Fs.up hs))<|zD 1<|je (.int .u8 (iAn .u8 (aF K) y6)) rfl<|jc (vs:=[zP f10,.int .u8 (iAn .u8 (aF K) y6)]) [] (aTe Fs hV (by omega)) ?_
  rintro _ _ ⟨rfl,rfl⟩
  refine jg 0 []<|zD 1<|js 28 (acR K rows (iAn .u8 (aF K) y6)) (fun h5=>?_) (fun h5=>?_)
  ·
   refine zD 4<|jc (vs:=[.int .u8 y6]) [] (aj9) ?_
   rintro v30 L30 ⟨_,Df,rfl⟩
   refine zD 4<|aO q0.a (.tuple ⟨[v30,zI 0]⟩) [] [0] L30 bH ⟨_,_,rfl,rfl,_,_,rfl,.inl ⟨_,by rw[hI.2,aac qI];simp only[*,cond_true],Df,rfl⟩⟩
  refine zD 3<|ja ((k:Int)+1) (by omega)<|zD 2<|bA bO (k+1) ⟨by omega,by rw[hI.2,aac qI];simp only[*,cond_false]⟩ (by omega) [0,1] (Sub.refl _)
 refine zD 8<|aO q0.a (.tuple ⟨[zS,zI 11]⟩) [] [] [] bH ⟨_,_,rfl,rfl,_,_,rfl,.inr ⟨by rw[hI.2,aj2 (by omega)],rfl,rfl,rfl⟩⟩
theorem ag5{f:Nat}{rows:List bI}(hF:pO ro f K rows)(hV:eR K)(hR:rows.length≤2):Gb zT 52 [zP f] ro [] (fun r Y=>∃zs v e,r= .tuple ⟨[v,zI e]⟩∧zs.Perm (cX K (aF K) (cm K.gone K.new K.af) rows)∧ay v 8 128 cW zs Y∧((zs=[]∧e=9)∨(zs≠[]∧e=0))):=by
 refine HD av [] [] bp fun fr=>zD 9<|jp (vs:=[zP f]) [] [] (fun aH hs hZ=>Ey hV (hF.up hs))<|P7 (vs:=[zP f,.int .u8 (aF K)]) [] (fun _ _ h=>h) (Zn hV hF hR) ?_
 rintro v8 Y8 ⟨zs,hz,ho8⟩
 refine zD 6<|yJ ho8<|zD 2<|zJ 11 ((zs.length:Int)=0) (fun h1=>?_) fun h1=>?_
 ·
  refine zD 7<|Vz qC (.tuple ⟨[zS,zI 9]⟩) [1] [] (Sub.refl _) ⟨zs,_,_,rfl,hz,by rw[show zs=[] from List.eq_nil_of_length_eq_zero (by omega)];exact ay.nil _ _ _,.inl ⟨List.eq_nil_of_length_eq_zero (by omega),rfl⟩⟩
 refine zD 9<|Vz qC (.tuple ⟨[v8,zI 0]⟩) [0,1] Y8 (Sub.refl _) ⟨zs,_,_,rfl,hz,ho8,.inr ⟨fun e=>by subst e;simp at*,rfl⟩⟩
theorem ag4{rows:List bI}(hK:fP ro l K)(hV:eR K)(hR:rows.length≤2)(hB:jR ro l K rows):az6 zT 55 [.agg ⟨l⟩] ro [] (fun r aH Y=>∃f zs v e,r= .tuple ⟨[pV f,v,zI e]⟩∧pO aH f K rows∧zs.Perm (cX K (aF K) (cm K.gone K.new K.af) rows)∧ay v 8 128 cW zs Y∧((zs=[]∧e=9)∨(zs≠[]∧e=0))):=by
 obtain⟨v0,v1,v3,v4,v5,v6,v7,vb,fa,fc,hv,rfl,_⟩:=hK
 refine aER (hm:=av) [] [] bp fun fr=>zD 2<|jn fun b1=>jd 7 [0]<|jc (vs:=[.agg ⟨[v0,v1,.slice fa 0 fc,v3,v4,v5,v6,v7,zI K.gone,zI K.new,zI K.af,vb]⟩]) [] (hB _ (Sub.refl _)) ?_
 rintro _ Y10 ⟨f10,rfl,ayJ⟩
 refine zD 5<|jf [0] Y10 (fun zo bH iQ=>?_)
 have Fs:=ayJ _ bH iQ
 refine zD 12<|P7 (vs:=[zP f10]) [] (fun _ _ h=>h) (ag5 Fs hV hR) ?_
 rintro _ Y18 ⟨zs,v18,e18,rfl,hz,Sv,he⟩
 refine zD 16<|aOz qC.a (.tuple ⟨[zP f10,v18,zI e18]⟩) [0,2] Y18 bH ⟨f10,zs,v18,e18,rfl,Fs,hz,Sv,he⟩
theorem aog{x:ak}:dK zT 84 [.agg ⟨[zI x.past,zI x.w0,zI x.w1,zI x.w2,zI x.w3,zI x.gone,zI x.new,zI x.af]⟩] ro (zI x.af):=by
 refine zE<|zD 2<|jn fun b1=>jd 9 [0]<|zX (zI x.af) ⟨rfl,rfl⟩
theorem agW{rows:List bI}(hK:fP ro l K)(hV:eR K)(hR:rows.length≤2)(hB:jR ro l K rows):Gb zT 59 [.agg ⟨l⟩,.func (.func 84) ⟨[]⟩ ⟨[]⟩] ro [] (fun r Y=>∃zs a b e,zs.Perm (cX K (aF K) (cm K.gone K.new K.af) rows)∧Y=[]∧r= .tuple ⟨[.agg ⟨[zI a,zI b]⟩,zI e]⟩∧((zs=[]∧a=0∧b=0∧e=9)∨(zs≠[]∧a=vw (zs.map fun x=>x.af)∧b=C5 (zs.map fun x=>x.af)∧e=0))):=by
 obtain⟨v0,v1,v3,v4,v5,v6,v7,vb,fa,fc,hv,rfl,_⟩:=id hK
 refine HD av [] [] bp fun fr=>zD 2<|jn fun b2=>jn fun b4=>jd 5 [1]<|avY (vs:=[.agg ⟨[v0,v1,.slice fa 0 fc,v3,v4,v5,v6,v7,zI K.gone,zI K.new,zI K.af,vb]⟩]) [] (fun _ _ h=>h) (ag4 hK hV hR hB) ?_
 rintro _ aH Y14 bH ⟨f14,zs,v14,Pq,rfl,Fs,hz,VV,he⟩
 have VN:∀x∈zs,(-4≤x.gone∧x.gone≤4)∧(-4≤x.new∧x.new≤4)∧(0≤x.af∧x.af≤4):=fun x hx=>by obtain⟨i,r,p,_,_,rfl,_⟩:=iM (hz.mem_iff.1 hx);exact qj hV r i p
 have hzl:zs.length≤1250:=by rw[hz.length_eq];exact q9 hV _ _ hR
 refine zD 7<|jf [0] Y14 (fun ro4 oS hk3=>?_)
 have hZ1:=VV.jL hk3
 obtain⟨yt,Vb,U9,vv,rfl,Va,N9,N8⟩:=hZ1
 refine zD 7<|js 19 (!decide (Pq=0)) (fun h5=>?_) (fun h5=>?_)
 ·
  replace h5:=of_decide_eq_false (by simpa using h5)
  have vL:zs=[]∧Pq=9:=by rcases he with h| ⟨_,h⟩;exact h;omega
  refine jd 9 [0]<|avW qC.a.a (.tuple ⟨[.agg ⟨[zI 0,zI 0]⟩,zI Pq]⟩) [0] [2] [] (bH.trans oS) ⟨zs,_,_,_,hz,rfl,rfl,.inl ⟨vL.1,rfl,rfl,vL.2⟩⟩
 replace h5:=of_decide_eq_true (by simpa using h5)
 have vL:zs≠[]∧Pq=0:=by rcases he with ⟨_,h⟩|h;omega;exact h
 have hzp:0 <zs.length:=List.length_pos_iff.2 vL.1
 refine zD 14<|nY<|dV [1,1,1,1,0,1,0,0] [] (fun(zz:Nat×Value×Cells)=>[(1,.func (.func 84) ⟨[]⟩ ⟨[]⟩),(4,zP b4),(5,zI 0),(9,zz.2.1),(22,.slice yt zs.length vv),(23,zI (zs.length:Int)),(24,zI (zz.1:Int))]) (fun zz=>[.l zz.2.2,.b b4 (.cells ⟨[zI 0,zI 0]⟩ 65 (0,0)),.b b2 (.cells ⟨[v0,v1,.slice fa 0 fc,v3,v4,v5,v6,v7,zI K.gone,zI K.new,zI K.af,vb]⟩ 40 (0,0)),.l fr]) (fun zz=>zz.1≤zs.length∧ay zz.2.1 1 3 cB ((zs.take zz.1).map fun x=>x.af) zz.2.2) (fun zz=>zs.length-zz.1) (⟨0,zS,[]⟩) ⟨by dsimp only;omega,ay.nil _ _ _⟩ (zN 0 4) ?_
 rintro⟨k,vS,LS⟩ hI K1 bO rest
 dsimp only at hI
 refine zD 5<|zJ 25 ((k:Int) <(zs.length:Int)) (fun h6=>?_) fun h6=>?_
 ·
  refine zD 6 ?_
  obtain⟨Ul,ab4⟩:=zG zs k
  refine iz vv 8 N9 ab4<|jl 0 (N8 _ _ ab4)<|jn fun Uh=>jd 6 [0,0]<|jp (vs:=[.agg ⟨[zI Ul.past,zI Ul.w0,zI Ul.w1,zI Ul.w2,zI Ul.w3,zI Ul.gone,zI Ul.new,zI Ul.af]⟩]) [] [] (fun aH hs hZ=>(aog (x:=Ul)))<|jn fun b32=>iC (sz:=1) (ps:=((zs.take k).map fun x=>x.af)) (qs:=[Ul.af]) (enc:=cB) (w:= .slice (some ⟨b32,0,none⟩) 1 1) [2] [0] [(b32,.cells ⟨([Ul.af].map cB).flatten⟩ 3 (0,0))] (hI.2) (fun s _ hZ=>bL [Ul.af] (hZ _ (.head _)) (by intro p hp;rfl)) (fun p _=>ai rfl) (by simp only[List.length_map,List.length_take,List.length_cons,List.length_nil];omega) (fun v33 L33 ahU=>?_)
  obtain⟨atD,ato,axK⟩:=ahU.form
  subst axK
  refine zD 3<|ja ((k:Int)+1) (by omega)<|zD 2<|bA bO (⟨k+1,(.slice atD ((((zs.take k).map fun x=>x.af)++[Ul.af])).length ato),L33⟩) ⟨by dsimp only;omega,by rw[iF ab4,List.map_append];exact ahU⟩ (by dsimp only;omega) [0,3,4,5] (Sub.refl _)
 refine zD 5<|jp (vs:=[vS]) [0] LS (fun aH hs hZ=>arz (hI.2.jL hZ) ⟨by simp only[List.length_map,List.length_take];omega,by simp only[List.length_map,List.length_take];omega⟩) ?_
 refine jd 4 [1]<|avW qC.a.a (.tuple ⟨[.agg ⟨[zI (vw ((zs.take k).map fun x=>x.af)),zI (C5 ((zs.take k).map fun x=>x.af))]⟩,zI 0]⟩) [1] [3] [] (bH.trans oS) ⟨zs,_,_,_,hz,rfl,rfl,.inr ⟨vL.1,by rw[show k=zs.length by omega,List.take_length],by rw[show k=zs.length by omega,List.take_length],rfl⟩⟩
theorem avJ{rows:List bI}(hK:fP ro l K)(hV:eR K)(hR:rows.length≤2)(hB:jR ro l K rows):Gb zT 47 [.agg ⟨l⟩] ro [] (fun r Y=>∃zs a b e,zs.Perm (cX K (aF K) (cm K.gone K.new K.af) rows)∧Y=[]∧r= .tuple ⟨[.agg ⟨[zI a,zI b]⟩,zI e]⟩∧((zs=[]∧a=0∧b=0∧e=9)∨(zs≠[]∧a=vw (zs.map fun x=>x.af)∧b=C5 (zs.map fun x=>x.af)∧e=0))):=by
 obtain⟨v0,v1,v3,v4,v5,v6,v7,vb,fa,fc,hv,rfl,_⟩:=id hK
 refine HD av [] [] bp fun fr=>zD 2<|jn fun b1=>jn fun b2=>jd 5 [1]<|P7 (vs:=[.agg ⟨[v0,v1,.slice fa 0 fc,v3,v4,v5,v6,v7,zI K.gone,zI K.new,zI K.af,vb]⟩,.func (.func 84) ⟨[]⟩ ⟨[]⟩]) [] (fun _ _ h=>h) (agW hK hV hR hB) ?_
 rintro _ _ ⟨zs,a5,c5,e5,hz,rfl,rfl,he⟩
 refine jg 0 []<|jd 6 [0]<|avW qC (.tuple ⟨[.agg ⟨[zI a5,zI c5]⟩,zI e5]⟩) [0] [2] [] (Sub.refl _) ⟨zs,_,_,_,hz,rfl,rfl,he⟩
theorem avI{a:Int}:dK zT 83 [zI a,zI b] ro (.bool (decide (a=b))):=by
 refine zE<|zD 12<|zX (.bool (decide (a=b))) ⟨rfl,rfl⟩
theorem azt{a:Int}{s:Bool}:dK zT 17 [zI a,zI b,.bool s] ro (.agg ⟨[zI a,zI b,.bool s]⟩):=by
 refine zE<|zD 2<|jn fun b6=>jd 10 [0]<|zR (.agg ⟨[zI a,zI b,.bool s]⟩) [0] [] [] ⟨rfl,rfl⟩
theorem cAt{w:ByteArray}{a c:Int}:dK zT 81 [.string w,zI a,zI b,zI c] ro (.agg ⟨[.string w,zI a,zI b,zI c,.bool false]⟩):=by
 refine zE<|zD 2<|jn fun b8=>jd 11 [0]<|zR (.agg ⟨[.string w,zI a,zI b,zI c,.bool false]⟩) [0] [] [] ⟨rfl,rfl⟩
theorem aIo{w:ByteArray}{a:Int}:dK zT 80 [.string w,zI a] ro (.agg ⟨[.string w,zI (-1),zI a,(zS)]⟩):=by
 refine zE<|zD 2<|jn fun b4=>jd 9 [0]<|zR (.agg ⟨[.string w,zI (-1),zI a,zS]⟩) [0] [] [] ⟨rfl,rfl⟩
theorem cIs{w:ByteArray}{a:Int}{va:Option Addr}{vn vc:Nat}:dK zT 79 [.string w,zI a,(.slice va vn vc)] ro (.agg ⟨[.string w,zI a,zI (-1),(.slice va vn vc)]⟩):=by
 refine zE<|zD 2<|jn fun b6=>jd 10 [0]<|zR (.agg ⟨[.string w,zI a,zI (-1),(.slice va vn vc)]⟩) [0] [] [] ⟨rfl,rfl⟩
def Xi:List bP:=[⟨(bs [102,111,111,100]),-1⟩,⟨(bs [98,114,101,97,100]),0⟩,⟨(bs [99,108,111,116,104]),-1⟩,⟨(bs [104,97,116,115]),2⟩]
def DD:List cd:=[⟨(bs [98,97,107,101,114]),1,-1,[]⟩,⟨(bs [98,111,110,110,101,116,115]),-1,3,[]⟩,⟨(bs [99,111,110,102,101,99,116,105,111,110,101,114]),0,-1,[0]⟩,⟨(bs [104,97,116,116,101,114]),3,-1,[]⟩,⟨(bs [109,101,114,99,101,114]),2,-1,[3]⟩,⟨(bs [109,105,108,108,105,110,101,114]),-1,1,[]⟩]
def Py:List ah:=[⟨(bs [115,109,105,116,104]),0,1,0,false⟩,⟨(bs [97,110,110,97]),0,2,3,false⟩,⟨(bs [115,109,121,116,104]),1,1,2,false⟩]
def Pz:List ah:=[⟨(bs [115,109,121,116,104]),0,2,0,false⟩,⟨(bs [115,109,105,116,104]),1,1,-1,false⟩,⟨(bs [98,101,110]),0,1,4,false⟩]
abbrev aW(n:Int):aB where
 ways:=[[⟨1,0,0,0,0,0,0⟩,⟨2,0,0,0,0,0,0⟩]]
 cs:=Xi
 hd:=DD
 rules:=[⟨(bs [121]),(bs [105])⟩]
 before:=Py
 after:=Pz
 gone:=1
 new:=1
 af:=n
 facts:=[]
 str:=[[⟨1,0⟩,⟨2,0⟩],[⟨1,0⟩]]
abbrev EK(j8 JZ b9 AB ng rD Cq:Nat)(n:Int):List Value:=[.slice (some ⟨j8,0,none⟩) 2 2,.slice (some ⟨JZ,0,none⟩) 1 1,zS,.slice (some ⟨b9,0,none⟩) 4 4,.slice (some ⟨AB,0,none⟩) 6 6,.slice (some ⟨ng,0,none⟩) 1 1,.slice (some ⟨rD,0,none⟩) 3 3,.slice (some ⟨Cq,0,none⟩) 3 3,zI 1,zI 1,zI n,zS]
abbrev I2(j8 PK EP JZ b29 b9 AB qn Jn ng rD Cq:Nat):Cells:=[(j8,.cells ⟨[.slice (some ⟨PK,0,none⟩) 2 2,.slice (some ⟨EP,0,none⟩) 1 1]⟩ 80 (0,0)),(PK,.cells ⟨[zI 1,zI 0,zI 2,zI 0]⟩ 79 (0,0)),(EP,.cells ⟨[zI 1,zI 0]⟩ 79 (0,0)),(JZ,.cells ⟨[.slice (some ⟨b29,0,none⟩) 2 2]⟩ 87 (0,0)),(b29,.cells ⟨[zI 1,zI 0,zI 0,zI 0,zI 0,zI 0,zI 0,zI 2,zI 0,zI 0,zI 0,zI 0,zI 0,zI 0]⟩ 83 (0,0)),(b9,.cells ⟨[.string (bs [102,111,111,100]),zI (-1),.string (bs [98,114,101,97,100]),zI 0,.string (bs [99,108,111,116,104]),zI (-1),.string (bs [104,97,116,115]),zI 2]⟩ 142 (0,0)),(AB,.cells ⟨[.string (bs [98,97,107,101,114]),zI 1,zI (-1),zS,.string (bs [98,111,110,110,101,116,115]),zI (-1),zI 3,zS,.string (bs [99,111,110,102,101,99,116,105,111,110,101,114]),zI 0,zI (-1),.slice (some ⟨qn,0,none⟩) 1 1,.string (bs [104,97,116,116,101,114]),zI 3,zI (-1),zS,.string (bs [109,101,114,99,101,114]),zI 2,zI (-1),.slice (some ⟨Jn,0,none⟩) 1 1,.string (bs [109,105,108,108,105,110,101,114]),zI (-1),zI 1,zS]⟩ 145 (0,0)),(qn,.cells ⟨[zI 0]⟩ 3 (0,0)),(Jn,.cells ⟨[zI 3]⟩ 3 (0,0)),(ng,.cells ⟨[.string (bs [121]),.string (bs [105])]⟩ 45 (0,0)),(rD,.cells ⟨[.string (bs [115,109,105,116,104]),zI 0,zI 1,zI 0,.bool false,.string (bs [97,110,110,97]),zI 0,zI 2,zI 3,.bool false,.string (bs [115,109,121,116,104]),zI 1,zI 1,zI 2,.bool false]⟩ 55 (0,0)),(Cq,.cells ⟨[.string (bs [115,109,121,116,104]),zI 0,zI 2,zI 0,.bool false,.string (bs [115,109,105,116,104]),zI 1,zI 1,zI (-1),.bool false,.string (bs [98,101,110]),zI 0,zI 1,zI 4,.bool false]⟩ 55 (0,0))]
abbrev akL(qn Jn:Nat):List bB:=[⟨(bs [98,97,107,101,114]),1,-1,zS⟩,⟨(bs [98,111,110,110,101,116,115]),-1,3,zS⟩,⟨(bs [99,111,110,102,101,99,116,105,111,110,101,114]),0,-1,.slice (some ⟨qn,0,none⟩) 1 1⟩,⟨(bs [104,97,116,116,101,114]),3,-1,zS⟩,⟨(bs [109,101,114,99,101,114]),2,-1,.slice (some ⟨Jn,0,none⟩) 1 1⟩,⟨(bs [109,105,108,108,105,110,101,114]),-1,1,zS⟩]
theorem Nb{j8 PK EP JZ b29 b9 AB qn Jn ng rD Cq:Nat}(hk:Knows ro (I2 j8 PK EP JZ b29 b9 AB qn Jn ng rD Cq)):fP ro (EK j8 JZ b9 AB ng rD Cq n) (aW n):=
 ⟨_,_,_,_,_,_,_,_,none,0,akL qn Jn,rfl,
  ⟨[.slice (some ⟨PK,0,none⟩) 2 2,.slice (some ⟨EP,0,none⟩) 1 1],bK (enc:=gz) (T:=80) [.slice (some ⟨PK,0,none⟩) 2 2,.slice (some ⟨EP,0,none⟩) 1 1] (hk _ (.head _)) (fun _ _=>rfl),
   .cons (bK (enc:=cM) (T:=79) [⟨1,0⟩,⟨2,0⟩] (hk _ (.tail _ (.head _))) (fun _ _=>rfl)) (.cons (bK (enc:=cM) (T:=79) [⟨1,0⟩] (hk _ (.tail _ (.tail _ (.head _)))) (fun _ _=>rfl)) .nil)⟩,
  ⟨[.slice (some ⟨b29,0,none⟩) 2 2],bK (enc:=gz) (T:=87) [.slice (some ⟨b29,0,none⟩) 2 2] (hk _ (.tail _ (.tail _ (.tail _ (.head _))))) (fun _ _=>rfl),
   .cons (bK (enc:=ju) (T:=83) [⟨1,0,0,0,0,0,0⟩,⟨2,0,0,0,0,0,0⟩] (hk _ (.tail _ (.tail _ (.tail _ (.tail _ (.head _)))))) (fun _ _=>rfl)) .nil⟩,
  ⟨bK (enc:=pN) (T:=142) Xi (hk _ (.tail _ (.tail _ (.tail _ (.tail _ (.tail _ (.head _))))))) (fun _ _=>rfl),bK (enc:=mw) (T:=145) (akL qn Jn) (hk _ (.tail _ (.tail _ (.tail _ (.tail _ (.tail _ (.tail _ (.head _)))))))) (fun _ _=>rfl),
   .cons ⟨rfl,rfl,rfl,bD.nil _ _ _ _ _⟩ (.cons ⟨rfl,rfl,rfl,bD.nil _ _ _ _ _⟩ (.cons ⟨rfl,rfl,rfl,bK (enc:=cB) (T:=3) [0] (hk _ (.tail _ (.tail _ (.tail _ (.tail _ (.tail _ (.tail _ (.tail _ (.head _))))))))) (fun _ _=>rfl)⟩ (.cons ⟨rfl,rfl,rfl,bD.nil _ _ _ _ _⟩ (.cons ⟨rfl,rfl,rfl,bK (enc:=cB) (T:=3) [3] (hk _ (.tail _ (.tail _ (.tail _ (.tail _ (.tail _ (.tail _ (.tail _ (.tail _ (.head _)))))))))) (fun _ _=>rfl)⟩ (.cons ⟨rfl,rfl,rfl,bD.nil _ _ _ _ _⟩ .nil)))))⟩,
  .cons ⟨rfl,rfl,rfl⟩ (.cons ⟨rfl,rfl,rfl⟩ (.cons ⟨rfl,rfl,rfl⟩ (.cons ⟨rfl,rfl,rfl⟩ (.cons ⟨rfl,rfl,rfl⟩ (.cons ⟨rfl,rfl,rfl⟩ .nil))))),
  bK (enc:=gG) (T:=45) [⟨(bs [121]),(bs [105])⟩] (hk _ (.tail _ (.tail _ (.tail _ (.tail _ (.tail _ (.tail _ (.tail _ (.tail _ (.tail _ (.head _))))))))))) (fun _ _=>rfl),bK (enc:=cb) (T:=55) Py (hk _ (.tail _ (.tail _ (.tail _ (.tail _ (.tail _ (.tail _ (.tail _ (.tail _ (.tail _ (.tail _ (.head _)))))))))))) (fun _ _=>rfl),bK (enc:=cb) (T:=55) Pz (hk _ (.tail _ (.tail _ (.tail _ (.tail _ (.tail _ (.tail _ (.tail _ (.tail _ (.tail _ (.tail _ (.tail _ (.head _))))))))))))) (fun _ _=>rfl),bD.nil _ _ _ _ _⟩
theorem Nc(j8 JZ b9 AB ng rD Cq:Nat)(n:Int):TV (aW n) (EK j8 JZ b9 AB ng rD Cq n):=
 ⟨_,_,_,_,_,_,_,_,none,0,rfl,wm rfl rfl rfl rfl rfl rfl rfl rfl⟩
theorem Ng:eg zT 45 [zI n] ro [] (fun r Y=>∃l,r= .agg ⟨l⟩∧(∀aJ,Knows aJ Y→fP aJ l (aW n))∧TV (aW n) l):=by
 refine zE<|zD 2<|jn fun b2=>zD 7<|jn fun b9=>jp (vs:=[.string (bs [98,97,107,101,114]),zI 1,zS]) [] [] (fun aH hs hZ=>cIs)<|jp (vs:=[.string (bs [98,111,110,110,101,116,115]),zI 3]) [] [] (fun aH hs hZ=>aIo)<|jn fun qn=>jp (vs:=[.string (bs [99,111,110,102,101,99,116,105,111,110,101,114]),zI 0,.slice (some ⟨qn,0,none⟩) 1 1]) [] [] (fun aH hs hZ=>cIs)<|jp (vs:=[.string (bs [104,97,116,116,101,114]),zI 3,zS]) [] [] (fun aH hs hZ=>cIs)<|jn fun Jn=>jp (vs:=[.string (bs [109,101,114,99,101,114]),zI 2,.slice (some ⟨Jn,0,none⟩) 1 1]) [] [] (fun aH hs hZ=>cIs)<|jp (vs:=[.string (bs [109,105,108,108,105,110,101,114]),zI 1]) [] [] (fun aH hs hZ=>aIo)<|jn fun AB=>zD 1<|jn fun b3=>jd 6 [0]<|jn fun PK=>zD 1<|jn fun EP=>jn fun j8=>zD 3<|jn fun b29=>zD 1<|jn fun JZ=>zD 1<|jn fun b4=>jd 8 [0,0,6]<|jp (vs:=[.string (bs [115,109,105,116,104]),zI 0,zI 1,zI 0]) [] [] (fun aH hs hZ=>cAt)<|jp (vs:=[.string (bs [97,110,110,97]),zI 0,zI 2,zI 3]) [] [] (fun aH hs hZ=>cAt)<|jp (vs:=[.string (bs [115,109,121,116,104]),zI 1,zI 1,zI 2]) [] [] (fun aH hs hZ=>cAt)<|jp (vs:=[.string (bs [115,109,121,116,104]),zI 0,zI 2,zI 0]) [] [] (fun aH hs hZ=>cAt)<|jp (vs:=[.string (bs [115,109,105,116,104]),zI 1,zI 1,zI (-1)]) [] [] (fun aH hs hZ=>cAt)<|jp (vs:=[.string (bs [98,101,110]),zI 0,zI 1,zI 4]) [] [] (fun aH hs hZ=>cAt)<|Ez [3,7,11] ⟨fun z1 t2 oV=>?_,fun z4 t5 Wm=>?_,fun z7 t8 SQ=>?_,trivial⟩
 ·
  refine jn fun ng=>eo oV (zN 1 12)<|Ez [7,11] ⟨fun z10 t11 w9=>?_,fun z13 t14 WC=>?_,trivial⟩
  ·
   refine jn fun rD=>eo w9 (zN 1 13)<|aQ 11 fun aBE aCt Ky=>jn fun Cq=>eo Ky (zN 1 14)<|zD 1<|aQ 14 fun adR aeG Im=>jd 1 [14]<|fp Im<|zD 2<|zR (.agg ⟨EK j8 JZ b9 AB ng rD Cq n⟩) [14] [6,8,7,4,5,13,10,12,11,2,1,0] (I2 j8 PK EP JZ b29 b9 AB qn Jn ng rD Cq) ⟨_,rfl,fun _ hk=>Nb hk,Nc _ _ _ _ _ _ _ _⟩
  refine jn fun Cq=>eo WC (zN 1 13)<|aQ 7 fun aqy aqR O3=>jn fun rD=>eo O3 (zN 1 14)<|zD 1<|aQ 14 fun aqx aqQ WB=>jd 1 [14]<|fp WB<|zD 2<|zR (.agg ⟨EK j8 JZ b9 AB ng rD Cq n⟩) [14] [6,8,7,4,5,13,10,12,11,2,0,1] (I2 j8 PK EP JZ b29 b9 AB qn Jn ng rD Cq) ⟨_,rfl,fun _ hk=>Nb hk,Nc _ _ _ _ _ _ _ _⟩
 ·
  refine jn fun rD=>eo Wm (zN 1 12)<|Ez [3,11] ⟨fun z20 t21 ai2=>?_,fun z23 t24 O2=>?_,trivial⟩
  ·
   refine jn fun ng=>eo ai2 (zN 1 13)<|aQ 11 fun XU Yc BL=>jn fun Cq=>eo BL (zN 1 14)<|zD 1<|aQ 14 fun KT La Dq=>jd 1 [14]<|fp Dq<|zD 2<|zR (.agg ⟨EK j8 JZ b9 AB ng rD Cq n⟩) [14] [6,8,7,4,5,13,10,12,11,1,2,0] (I2 j8 PK EP JZ b29 b9 AB qn Jn ng rD Cq) ⟨_,rfl,fun _ hk=>Nb hk,Nc _ _ _ _ _ _ _ _⟩
  refine jn fun Cq=>eo O2 (zN 1 13)<|aQ 3 fun KS K0 Dp=>jn fun ng=>eo Dp (zN 1 14)<|zD 1<|aQ 14 fun KR KZ Dm=>jd 1 [14]<|fp Dm<|zD 2<|zR (.agg ⟨EK j8 JZ b9 AB ng rD Cq n⟩) [14] [6,8,7,4,5,13,10,12,11,0,2,1] (I2 j8 PK EP JZ b29 b9 AB qn Jn ng rD Cq) ⟨_,rfl,fun _ hk=>Nb hk,Nc _ _ _ _ _ _ _ _⟩
 refine jn fun Cq=>eo SQ (zN 1 12)<|Ez [3,7] ⟨fun z30 t31 Wy=>?_,fun z33 t34 ai0=>?_,trivial⟩
 ·
  refine jn fun ng=>eo Wy (zN 1 13)<|aQ 7 fun XQ X9 Il=>jn fun rD=>eo Il (zN 1 14)<|zD 1<|aQ 14 fun XP X7 O0=>jd 1 [14]<|fp O0<|zD 2<|zR (.agg ⟨EK j8 JZ b9 AB ng rD Cq n⟩) [14] [6,8,7,4,5,13,10,12,11,1,0,2] (I2 j8 PK EP JZ b29 b9 AB qn Jn ng rD Cq) ⟨_,rfl,fun _ hk=>Nb hk,Nc _ _ _ _ _ _ _ _⟩
 refine jn fun rD=>eo ai0 (zN 1 13)<|aQ 3 fun aqu aqN aiZ=>jn fun ng=>eo aiZ (zN 1 14)<|zD 1<|aQ 14 fun aqt aqM aiY=>jd 1 [14]<|fp aiY<|zD 2<|zR (.agg ⟨EK j8 JZ b9 AB ng rD Cq n⟩) [14] [6,8,7,4,5,13,10,12,11,0,1,2] (I2 j8 PK EP JZ b29 b9 AB qn Jn ng rD Cq) ⟨_,rfl,fun _ hk=>Nb hk,Nc _ _ _ _ _ _ _ _⟩
instance (nc nh i:Nat)(x:cd):Decidable (gN nc nh i x):=by unfold gN;infer_instance
instance (w:ByteArray):Decidable (Script w):=by unfold Script;infer_instance
theorem Xs{p:Nat→α→Prop}{l:List α}(h:∀i (hi:i <l.length),p i l[i]):∀(i:Nat) (x:α),l[i]?=some x→p i x:=fun i x hx=>by
 obtain⟨h1,rfl⟩:=List.getElem?_eq_some_iff.1 hx
 exact h i h1
theorem I1:∀(i:Nat) (x:cd),DD[i]?=some x→gN 4 6 i x:=Xs (by decide)
theorem Xh:∀(i:Nat) (x:cd),DD[i]?=some x→A3 x.word=true:=Xs (of_decide_eq_true (by kernel_rfl))
theorem akK:∀(i:Nat) (x:bP),Xi[i]?=some x→A3 x.name=true∧ -1≤x.under∧x.under <i:=Xs (of_decide_eq_true (by kernel_rfl))
def awM(hd:List cd)(i:Int):Bool:=decide (i= -1)||(decide (0≤i)&&match hd[i.toNat]? with
 |some x=>decide (0≤x.cls)
 |none=>false)
theorem fu{i:Int}(h:awM hd i=true):mb hd i:=by
 simp only[awM,Bool.or_eq_true,Bool.and_eq_true,decide_eq_true_eq] at h
 rcases h with h| ⟨h1,h2⟩
 ·exact .inl h
 split at h2
 ·rename_i x hx;exact .inr ⟨h1,x,hx,of_decide_eq_true h2⟩
 cases h2
def Rj(p:ah):Bool:=decide (((1≤p.name.size∧p.name.size≤6)∧Script p.name)∧(0≤p.st∧p.st≤1)∧p.bold=false)&&awM DD p.head
theorem Of{p:ah}(h:Rj p=true):F8 DD p:=by
 simp only[Rj,Bool.and_eq_true,decide_eq_true_eq] at h
 exact⟨h.1.1,fu h.2,h.1.2⟩
theorem afE{p:ah}(h:Rj p=true):ri p.name∧mb DD p.head:=by
 have:=Of h
 exact⟨⟨this.1.1,this.1.2⟩,this.2.1⟩
theorem aao:∀p∈Py,Rj p=true:=by decide
theorem aap:∀p∈Pz,Rj p=true:=by decide
abbrev EL(n:Int)(fs:List bZ):aB:={aW n with facts:=fs}
theorem asw(h:0≤n∧n≤4)(hf:fs.length≤3)(h1:∀x∈fs,(0≤x.a∧x.a <3)∧(0≤x.b∧x.b <3))(h2:fs.Pairwise fun x y=>¬(x.a=y.a∧x.b=y.b)):j6 (EL n fs) where
 pX:=⟨rfl,by simp,by simp[Cd],by simp[ant]⟩
 ways:=⟨(by decide:(1:Nat)≤1),by simp[iO]⟩
 di:=⟨(by decide:(0:Nat) <4∧4≤6),(by decide:(6:Nat)≤6),I1⟩
 rules:=(by decide:(1:Nat)≤4)
 before:=⟨(by decide:(3:Nat)≤4),fun p hp=>⟨Of (aao p hp),by
  simp only[Py,List.mem_cons,List.not_mem_nil,or_false] at hp
  rcases hp with rfl|rfl|rfl
  ·exact⟨_,rfl,by simp⟩
  ·exact⟨_,rfl,by simp⟩
  exact⟨_,rfl,by simp⟩⟩⟩
 after:=⟨(by decide:(3:Nat)≤4),fun p hp=>⟨Of (aap p hp),by
  simp only[Pz,List.mem_cons,List.not_mem_nil,or_false] at hp
  rcases hp with rfl|rfl|rfl<;>decide⟩⟩
 pF:=⟨(by decide:(0:Int)≤1∧(1:Int)≤4),(by decide:(0:Int)≤1∧(1:Int)≤4),h⟩
 facts:=⟨by show fs.length≤4;omega,h1⟩
 apart:=h2
theorem asv(hf:fs.length≤3)(h1:∀x∈fs,(0≤x.a∧x.a <3)∧(0≤x.b∧x.b <3)):eR (EL n fs) where
 rules:=⟨(by decide:(1:Nat)≤4),by
  intro r hr
  rw[List.mem_singleton] at hr;subst hr
  have e:Yt ⟨bs [121],bs [105]⟩=true:=by kernel_rfl
  simp only[Yt,Bool.and_eq_true,Nat.ble_eq,Bool.not_eq_true'] at e
  exact⟨e.1,e.2.1,Ht e.2.2.1,Ht e.2.2.2.1,e.2.2.2.2⟩⟩
 before:=⟨(by decide:(3:Nat)≤4),fun p hp=>afE (aao p hp)⟩
 after:=⟨(by decide:(3:Nat)≤4),fun p hp=>afE (aap p hp)⟩
 di:=⟨(by decide:(0:Nat) <4∧4≤6),(by decide:(6:Nat)≤6),akK,by simp only[Ba];decide,fun i x hx=>⟨Xh i x hx,I1 i x hx⟩,by simp only[Ba,QP];decide⟩
 facts:=⟨by show fs.length≤4;omega,h1⟩
theorem aIn{v4:Value}{fa fb:Option Addr}{g0 g1 g2:Int}(hs:∀v∈[v0,v1,(.slice fa 0 fc),v3,v4,v5,v6,v7,zI g0,zI g1,zI g2,(.slice fb fn fd)],single v=true):dK zT 49 [.agg ⟨[v0,v1,(.slice fa 0 fc),v3,v4,v5,v6,v7,zI g0,zI g1,zI g2,vb]⟩,(.slice fb fn fd)] ro (.agg ⟨[v0,v1,(.slice fa 0 fc),v3,v4,v5,v6,v7,zI g0,zI g1,zI g2,(.slice fb fn fd)]⟩):=by
 refine zE<|zD 2<|jn fun b2=>jn fun b4=>jd 10 [1,1]<|jsx 0 b4 0 zO [v0,v1,(.slice fa 0 fc),v3,v4,v5,v6,v7,zI g0,zI g1,zI g2,(.slice fb fn fd)] 40 hs rfl<|zD 2<|zR (.agg ⟨[v0,v1,(.slice fa 0 fc),v3,v4,v5,v6,v7,zI g0,zI g1,zI g2,(.slice fb fn fd)]⟩) [0] [] [] ⟨rfl,rfl⟩
def alD[DecidableEq κ](r:Nat)(kv:κ→Value)(k:κ)(F:List (κ×Value))(b:Nat)(L:Cells):Prop:=
 ∃es ck i u,L=[(r,.map es ck)]∧tS kv F es ck∧sV k F 0=some (i,u)∧(es.toList.map (·.born))[i]?=some b
theorem alD.own[DecidableEq κ]{kv:κ→Value}{k:κ}{F:List (κ×Value)}{b:Nat}{L:Cells}(h:alD r kv k F b L):j5 r kv F L:=by
 obtain⟨es,ck,_,_,h1,h2,_⟩:=h
 exact⟨es,ck,h1,h2⟩
def meV(P:Program)(n:Nat)(p:Oper)(e:Env):Option (TypeId×TypeId×Value×Value):=match p.op with
 | .mapEntry T x y=>match a8 P T with
  |some ⟨.map K E,_,_,_⟩=>match bu n e x with
   |some m=>match bu n e y with
    |some k=>some (K,E,m,k)
    |none=>none
   |none=>none
  |_=>none
 |_=>none
def esV(n:Nat)(p:Oper)(e:Env):Option (Value×Value×Value):=match p.op with
 | .entryStore _ x y z=>match bu n e x with
  |some m=>match bu n e y with
   |some b=>match bu n e z with
    |some v=>some (m,b,v)
    |none=>none
   |none=>none
  |none=>none
 |_=>none
theorem BT[DecidableEq κ]{k:κ}{v:Value}:∀ {F:List (κ×Value)} {i:Nat},sV k F i=none→sV k (F++[(k,v)]) i=some (i+F.length,v)
 | [],i,_=>by simp[sV]
 |x::l,i,h=>by
  simp only[sV] at h
  split at h
  ·cases h
  rename_i hk
  rw[List.cons_append,sV,if_neg hk,BT h,List.length_cons,show i+1+l.length=i+(l.length+1) by omega]
theorem Y1{kv:κ→Value}{k:κ}{v:Value}:∀(es:List MapEntry) (F:List (κ×Value)) (i:Nat) {u:Value},F[i]?=some (k,u)→es.map (fun e=>(e.key,e.val))=F.map (fun x=>(kv x.1,x.2))→(es.modify i fun e=>{e with val:=v}).map (fun e=>(e.key,e.val))=(ud k v F i).map (fun x=>(kv x.1,x.2))
 | [],[],_,_,h,_=>by simp at h
 | [],_::_,_,_,_,h=>by simp at h
 |_::_,[],_,_,_,h=>by simp at h
 |e::es,x::F,0,_,h1,h=>by
  simp only[List.map_cons,List.cons.injEq,Prod.mk.injEq] at h
  simp at h1;subst h1
  simp[ud,h.2,h.1.1]
 |e::es,x::F,i+1,_,h1,h=>by
  simp only[List.map_cons,List.cons.injEq] at h
  simp at h1
  simp[ud,h.1,Y1 es F i h1 h.2]
theorem Je{v:Value}:∀(es:List MapEntry) (i:Nat),(es.modify i fun e=>{e with val:=v}).map (·.born)=es.map (·.born)
 | [],i=>by simp
 |e::es,0=>by simp
 |e::es,i+1=>by simp[Je es i]
theorem B9{kx:Value}:∀(es:List MapEntry) (i:Nat),(es.modify i fun e=>{e with key:=kx}).map (·.born)=es.map (·.born)
 | [],i=>by simp
 |e::es,0=>by simp
 |e::es,i+1=>by simp[B9 es i]
theorem Y3{kv:κ→Value}{k:κ}:∀(es:List MapEntry) (F:List (κ×Value)) (i:Nat) {u:Value},F[i]?=some (k,u)→es.map (fun e=>(e.key,e.val))=F.map (fun x=>(kv x.1,x.2))→(es.modify i fun e=>{e with key:=kv k}).map (fun e=>(e.key,e.val))=F.map (fun x=>(kv x.1,x.2))
 | [],[],_,_,h,_=>by simp at h
 | [],_::_,_,_,_,h=>by simp at h
 |_::_,[],_,_,_,h=>by simp at h
 |e::es,x::F,0,_,h1,h=>by
  simp only[List.map_cons,List.cons.injEq,Prod.mk.injEq] at h
  simp at h1;subst h1
  simp[h.2,h.1.2]
 |e::es,x::F,i+1,_,h1,h=>by
  simp only[List.map_cons,List.cons.injEq] at h
  simp at h1
  simp[h.1,Y3 es F i h1 h.2]
theorem aas{es ep:Array MapEntry}(h:∀e∈es.toList,e.born <ck)(hb:ep.toList.map (·.born)=es.toList.map (·.born)):∀e∈ep.toList,e.born <ck:=fun e he=>by
 have:e.born∈ep.toList.map (·.born):=List.mem_map_of_mem he
 rw[hb] at this
 obtain⟨e2,h3,h4⟩:=List.mem_map.1 this
 rw[←h4];exact h e2 h3
section
variable {X:Cx} {o:Option JS}
theorem jSk{f:Oper→Env→Option β}{r:β}{Φ:Cells→Prop}(ps:List Nat)(B:Cells)(hv:eY X.n f o=some r)(hB:dS ps o=some B)
 (hy:∀p e,f p e=some r→(∀c,p.op≠ .defer c)∧∀(R:Cells) (Q:Next→St→Prop) (E:Halt→St→Prop),(∀L',Φ L'→Q .skip ⟨X.ro,L'++R⟩)→bS X.P (execOp (ev X.n e) p) ⟨X.ro,B++R⟩ Q E)
 (hj:∀L',Φ L'→J X (nA ps undef L' o)):J X o:=by
 obtain⟨ops,i,todo,k,e,w,kn,p,rfl,ho,hw,hc⟩:=dD hv
 intro bY
 have hp:=bN hB
 obtain⟨hd,ht⟩:=hy p e hc
 have:ab X.C X.fn X.aA ops (i::todo) (KQ X k) (A X.n e X.D) ⟨X.ro,B++den (dI ps 0 w)⟩:=by
  refine bV X.hC ho hw hd<|ht _ _ _ fun L' qH=>?_
  have:=hj L' qH
  rw[oF ho] at this
  have:=this bY
  simp only[JP,gA] at this
  show ab _ _ _ _ _ _ _ _
  rw[←aZ] at this
  exact this
 have hle:(⟨X.ro,B++den (dI ps 0 w)⟩:St).le ⟨X.ro,den w⟩:=⟨[],by rw[List.append_nil];exact hp,fun b o hb=> .inl hb⟩
 exact this.more X.hC hle
theorem jme[DecidableEq κ]{kv:κ→Value}{F:List (κ×Value)}{K E:TypeId}{L:Cells}{d:TypeDesc}(i:Nat)(k:κ)(hk:TW X.P K kv)(te:TF X.P E d sz bE z ag)(hm:j5 r kv F L)
 (hj:∀F1 b c L',(((∃u,sV k F 0=some u)∧F1=F)∨(sV k F 0=none∧F1=F++[(k,Qn z ag)]))→alD r kv k F1 b L'→J X (nA [i] (.tuple ⟨[c,zI (b:Int)]⟩) L' o))
 (hv:eY X.n (meV X.P X.n) o=some (K,E,.map (some r),kv k):=by kernel_rfl)(hB:dS [i] o=some L:=by kernel_rfl):J X o:=by
 refine jS (Φ:=fun v L'=>∃F1 b c,(((∃u,sV k F 0=some u)∧F1=F)∨(sV k F 0=none∧F1=F++[(k,Qn z ag)]))∧alD r kv k F1 b L'∧v= .tuple ⟨[c,zI (b:Int)]⟩) [i] _ hv hB (fun p e hf=>?_) (fun v L' qH=>?_)
 ·unfold meV at hf
  split at hf<;>try (cases hf;done)
  rename_i T x y az
  split at hf<;>try (cases hf;done)
  rename_i K' E' _ _ _ dQ
  split at hf<;>try (cases hf;done)
  rename_i m hx
  split at hf<;>try (cases hf;done)
  rename_i k' hy
  simp only[Option.some.injEq,Prod.mk.injEq] at hf
  obtain⟨rfl,rfl,rfl,rfl⟩:=hf
  obtain⟨bcR,tf⟩:=aw dQ
  refine⟨by rw[az];simp,fun R Q E hQ=>?_⟩
  obtain⟨es,ck,rfl,Di⟩:=hm
  simp only[execOp,az,Instr.mapEntry,aa,ba tf,aG hx,aG hy]
  refine cJ (.inr (List.mem_append_left _ List.mem_cons_self)) rfl rfl ?_
  simp only[aa]
  refine hk.chk _ _ ?_
  simp only[aa]
  refine hk.find k _ F Di.1 ?_
  cases yB:sV k F 0 with
  |some u=>
   obtain⟨j,u⟩:=u
   have Ub:=qV yB
   simp only[Nat.sub_zero] at Ub
   have h1:(es.toList.map (fun e=>(e.key,e.val)))[j]?=some (kv k,u):=by rw[Di.1];simp[Ub.2]
   simp only[List.getElem?_map,Array.getElem?_toList] at h1
   cases he:es[j]? with
   |none=>rw[he] at h1;cases h1
   |some e1=>
    rw[he] at h1
    simp only[Option.map_some,Option.some.injEq,Prod.mk.injEq] at h1
    simp only[aa,Instr.keyThatStays,he,Option.map_some,Option.getD_some,h1.1,hk.stay,if_true,ae]
    refine eB (L:=[]) rfl rfl rfl ?_
    simp only[ae]
    refine hQ _ [(r,_)] ⟨F,e1.born,u,.inl ⟨⟨_,yB⟩,rfl⟩,⟨_,_,j,u,rfl,⟨?_,?_,?_⟩,yB,?_⟩,rfl⟩
    ·rw[Array.toList_modify];exact Y3 _ _ _ Ub.2 Di.1
    ·rw[Array.toList_modify,B9];exact Di.2.1
    ·exact aas Di.2.2 (by rw[Array.toList_modify,B9])
    rw[Array.toList_modify,B9,List.getElem?_map,Array.getElem?_toList,he];rfl
  |none=>
   simp only[aa,ko te]
   refine eB (L:=[]) rfl rfl rfl ?_
   simp only[ae]
   have hlen:es.toList.length=F.length:=by have:=congrArg List.length Di.1;simpa using this
   refine hQ _ [(r,_)] ⟨_,ck,_,.inr ⟨yB,rfl⟩,⟨_,_,F.length,_,rfl,⟨?_,?_,?_⟩,by have:=BT (v:=Qn z ag) yB;rwa[Nat.zero_add] at this,?_⟩,rfl⟩
   ·simp only[Array.toList_push,List.map_append,Di.1];rfl
   ·simp only[Array.toList_push,List.map_append,List.map_cons,List.map_nil]
    refine List.nodup_append.2 ⟨Di.2.1,by simp,?_⟩
    intro a ha b hb
    obtain⟨e2,h3,rfl⟩:=List.mem_map.1 ha
    have:=Di.2.2 e2 h3
    simp only[List.mem_singleton] at hb
    omega
   ·intro e1 h1
    simp only[Array.toList_push,List.mem_append,List.mem_singleton] at h1
    rcases h1 with h1|rfl
    ·have:=Di.2.2 e1 h1;omega
    exact Nat.lt_succ_self _
   simp only[Array.toList_push,List.map_append,List.map_cons,List.map_nil]
   rw[List.getElem?_append_right (by simp[hlen])]
   simp[hlen]
 obtain⟨F1,b,c,h1,h2,rfl⟩:=qH
 exact hj F1 b c L' h1 h2
theorem jes[DecidableEq κ]{kv:κ→Value}{F:List (κ×Value)}{b:Nat}{L:Cells}{k:κ}(i:Nat)(v:Value)(hm:alD r kv k F b L)(hj:∀L',j5 r kv (mA k v F) L'→J X (nA [i] undef L' o))
 (hv:eY X.n (esV X.n) o=some (.map (some r),zI (b:Int),v):=by kernel_rfl)(hB:dS [i] o=some L:=by kernel_rfl):J X o:=by
 refine jSk (Φ:=j5 r kv (mA k v F)) [i] _ hv hB (fun p e hf=>?_) hj
 unfold esV at hf
 split at hf<;>try (cases hf;done)
 rename_i T x y zz az
 split at hf<;>try (cases hf;done)
 rename_i m hx
 split at hf<;>try (cases hf;done)
 rename_i b' hy
 split at hf<;>try (cases hf;done)
 rename_i v' hz
 simp only[Option.some.injEq,Prod.mk.injEq] at hf
 obtain⟨rfl,rfl,rfl⟩:=hf
 refine⟨by rw[az];simp,fun R Q E hQ=>?_⟩
 obtain⟨es,ck,j,u,rfl,Di,yB,hb⟩:=hm
 have Ub:=qV yB
 simp only[Nat.sub_zero] at Ub
 simp only[execOp,az,Instr.entryStore,aa,aG hx,aG hy,aG hz]
 refine cJ (.inr (List.mem_append_left _ List.mem_cons_self)) rfl rfl ?_
 have aQO:es.findIdx? (fun e=>(e.born:Int)==(b:Int))=some j:=by
  rw[List.getElem?_map,Array.getElem?_toList] at hb
  obtain⟨e1,he,rfl⟩:=Option.map_eq_some_iff.1 hb
  obtain⟨h1,h2⟩:=Array.getElem?_eq_some_iff.1 he
  refine Array.findIdx?_eq_some_iff_getElem.2 ⟨h1,by simp[h2],fun q hq=>?_⟩
  have mo:=Di.2.1
  have:=List.pairwise_iff_getElem.1 mo q j (by simp;omega) (by simp;omega) hq
  simp only[List.getElem_map,Array.getElem_toList,h2] at this
  simp only[beq_iff_eq]
  omega
 simp only[aa,asInt,asIntOf,ae,aQO]
 refine eB (L:=[]) rfl rfl rfl ?_
 show Q .skip _
 refine hQ [(r,_)] ⟨_,_,rfl,?_,?_,?_⟩
 ·rw[Array.toList_modify,mA,yB];exact Y1 _ _ _ Ub.2 Di.1
 ·rw[Array.toList_modify,Je];exact Di.2.1
 exact aas Di.2.2 (by rw[Array.toList_modify,Je])
end
abbrev v4(a b c d:Int):Value:= .agg ⟨[zI a,zI b,zI c,zI d]⟩
theorem aH9{P:Program}{T:TypeId}(tf:TF P T (.array 4 3) sz bE z ag)(t3:TF P 3 (.int .i64) 1 by1 z1 false)(a b c d a' b' c' d':Int):
 EqD P (dep+2) T (v4 a b c d) (v4 a' b' c' d') (a==a'&&(b==b'&&(c==c'&&(d==d'&&true)))):=by
 intro α s k Q E
 rw[Op.equalIn]
 simp only[aa,ba tf,cz t3]
 simp only[Std.Legacy.Range.forIn_eq_forIn_range',Std.Legacy.Range.size,Nat.sub_zero,Nat.add_sub_cancel,Nat.div_one,List.range'_succ,List.range'_zero,List.forIn_cons,List.forIn_nil,aa,Nat.zero_add,Nat.mul_one]
 have p (l:List Value) (o:Nat) (v:Value) (h:nth l o=some v):Ju P 3 l o v:=ky t3 h
 rw[p _ 0 (zI a) rfl];simp only[aa]
 rw[p _ 0 (zI a') rfl];simp only[aa]
 rw[oE t3 a a']
 cases ha:a==a' with
 |false=>simp only[Bool.not_false,if_true,ae,aa,Bool.false_and]
 |true=>
 simp only[Bool.not_true,Bool.false_eq_true,if_false,ae,Bool.true_and,aa]
 rw[p _ 1 (zI b) rfl];simp only[aa]
 rw[p _ 1 (zI b') rfl];simp only[aa]
 rw[oE t3 b b']
 cases hb:b==b' with
 |false=>simp only[Bool.not_false,if_true,ae,aa,Bool.false_and]
 |true=>
 simp only[Bool.not_true,Bool.false_eq_true,if_false,ae,Bool.true_and,aa]
 rw[p _ 2 (zI c) rfl];simp only[aa]
 rw[p _ 2 (zI c') rfl];simp only[aa]
 rw[oE t3 c c']
 cases hc:c==c' with
 |false=>simp only[Bool.not_false,if_true,ae,aa,Bool.false_and]
 |true=>
 simp only[Bool.not_true,Bool.false_eq_true,if_false,ae,Bool.true_and,aa]
 rw[p _ 3 (zI d) rfl];simp only[aa]
 rw[p _ 3 (zI d') rfl];simp only[aa]
 rw[oE t3 d d']
 cases hd:d==d' with
 |false=>simp only[Bool.not_false,if_true,ae,aa,Bool.false_and]
 |true=>simp only[Bool.not_true,Bool.false_eq_true,if_false,ae,Bool.true_and,aa]
theorem ck4{P:Program}{T:TypeId}(tf:TF P T (.array 4 3) sz bE z ag)(t3:TF P 3 (.int .i64) 1 by1 z1 false)(a b c d:Int):CkD P (dep+2) T (v4 a b c d):=by
 intro bb α K s Q E
 rw[Instr.checkKey]
 simp only[aa,ba tf]
 simp only[Std.Legacy.Range.forIn_eq_forIn_range',Std.Legacy.Range.size,Nat.sub_zero,Nat.add_sub_cancel,Nat.div_one,List.range'_succ,List.range'_zero,List.forIn_cons,List.forIn_nil,aa,Nat.zero_add,cz t3,Nat.zero_mul,Nat.mul_one]
 have p (l:List Value) (o:Nat) (v:Value) (h:nth l o=some v):Ju P 3 l o v:=ky t3 h
 rw[p _ 0 (zI a) rfl];simp only[aa];rw[I3 t3 a bb];simp only[ae,aa,cz t3,Nat.mul_one]
 rw[p _ 1 (zI b) rfl];simp only[aa];rw[I3 t3 b bb];simp only[ae,aa,cz t3,Nat.mul_one]
 rw[p _ 2 (zI c) rfl];simp only[aa];rw[I3 t3 c bb];simp only[ae,aa,cz t3,Nat.mul_one]
 rw[p _ 3 (zI d) rfl];simp only[aa];rw[I3 t3 d bb];simp only[ae,aa]
abbrev P4:=Int×Int×Int×Int
abbrev JG(x:P4):Value:=v4 x.1 x.2.1 x.2.2.1 x.2.2.2
theorem agR:TW zT 126 JG:=agQ (nB Tryz.typeInfo126 Tryz.underlying126 rfl rfl rfl rfl rfl rfl) (fun k=>⟨_,rfl⟩)
 (fun k=>ck4 (dep:=9998) (nB Tryz.typeInfo126 Tryz.underlying126 rfl rfl rfl rfl rfl rfl) mL _ _ _ _)
 (fun a b=>by
  have h:=aH9 (dep:=9998) (nB Tryz.typeInfo126 Tryz.underlying126 rfl rfl rfl rfl rfl rfl) mL a.1 a.2.1 a.2.2.1 a.2.2.2 b.1 b.2.1 b.2.2.1 b.2.2.2
  have e:(a.1==b.1&&(a.2.1==b.2.1&&(a.2.2.1==b.2.2.1&&(a.2.2.2==b.2.2.2&&true))))=decide (a=b):=by
   rcases a with ⟨x,y,z,t⟩;rcases b with ⟨u,v,w,r⟩
   rw[Bool.eq_iff_iff];simp
  rwa[e] at h)
 (fun k=>by simp[Instr.sameBits])
structure fe where
 c:Nat→Nat→Int
abbrev Av(m:fe):List Value:=[zI (m.c 0 0),zI (m.c 0 1),zI (m.c 0 2),zI (m.c 0 3),zI (m.c 1 0),zI (m.c 1 1),zI (m.c 1 2),zI (m.c 1 3),zI (m.c 2 0),zI (m.c 2 1),zI (m.c 2 2),zI (m.c 2 3),zI (m.c 3 0),zI (m.c 3 1),zI (m.c 3 2),zI (m.c 3 3)]
theorem FR{m:fe}{a b:Nat}(h:a <4)(k:b <4):nth (Av m) (0+(a:Int).toNat*4+(b:Int).toNat*1)=some (zI (m.c a b)):=by
 rcases AO h with rfl|rfl|rfl|rfl<;>rcases AO k with rfl|rfl|rfl|rfl<;>rfl
def sr(m:fe)(a b:Nat)(v:Int):fe:=⟨fun i j=>if i=a∧j=b then v else m.c i j⟩
theorem anV{m:fe}{a b:Nat}{v:Int}(h:a <4)(k:b <4):dE (Av m) (0+(a:Int).toNat*4+(b:Int).toNat*1) [zI v]=Av (sr m a b v):=by
 rcases AO h with rfl|rfl|rfl|rfl<;>rcases AO k with rfl|rfl|rfl|rfl<;>rfl
theorem anW{m:fe}{a b:Nat}{v:Value}(h:a <4)(k:b <4):Nat.ble ((0+(a:Int).toNat*4+(b:Int).toNat*1)+[v].length) (Av m).length=true:=by
 rcases AO h with rfl|rfl|rfl|rfl<;>rcases AO k with rfl|rfl|rfl|rfl<;>rfl
def pI(x:ak):Nat→Int
 |0=>x.w0
 |1=>x.w1
 |2=>x.w2
 |_=>x.w3
def aD(zs:List ak):fe:=⟨fun i j=>((zs.filter fun x=>decide (pI x i=(j:Int)+1)).length:Int)⟩
theorem I0(zs:List ak)(i j:Nat):0≤(aD zs).c i j∧(aD zs).c i j≤zs.length:=by
 have:=List.length_filter_le (fun x=>decide (pI x i=(j:Int)+1)) zs
 simp only[aD];omega
theorem tN{zs ys:List ak}(h:zs.Perm ys):aD zs=aD ys:=by
 simp only[aD,(h.filter _).length_eq]
theorem Oy{r:bI}(hp:∀i,0≤p i∧p i≤4)(q:Nat):0≤pI (cu K r i p) q∧pI (cu K r i p) q≤4:=match q with
 |0=>hp 0
 |1=>hp 1
 |2=>hp 2
 |_+3=>hp 3
def xL:Prop:=∀ {ro:Nat→Option Obj} {v:Value} {zs:List ak},bD ro v 8 cW zs→zs.length≤100000→(∀x∈zs,∀q,0≤pI x q∧pI x q≤4)→eg zT 54 [v] ro [] (fun r Y=>r= .agg ⟨Av (aD zs)⟩∧Y=[])
def mS(m:fe)(n:Int)(i:Nat):Nat→List (List Int)
 |0=>[]
 |j+1=>mS m n i j++(bif decide (m.c i j=n) then [[(i:Int),(j:Int)]] else [])
def pQ(m:fe)(n:Int)(w:Nat):Nat→List (List Int)
 |0=>[]
 |i+1=>pQ m n w i++mS m n i w
theorem YV{m:fe}{j:Nat}(h:m.c i j=n):mS m n i (j+1)=mS m n i j++[[(i:Int),(j:Int)]]:=by rw[mS,decide_eq_true h];rfl
theorem YW{m:fe}{j:Nat}(h:¬m.c i j=n):mS m n i (j+1)=mS m n i j:=by rw[mS,decide_eq_false h];exact List.append_nil _
theorem C1(m:fe)(n:Int)(i:Nat):∀j,(mS m n i j).length≤j
 |0=>Nat.le_refl _
 |j+1=>by have:=C1 m n i j;rw[mS,List.length_append];cases decide (m.c i j=n)<;>simp<;>omega
theorem Ms(m:fe)(n:Int){w:Nat}(hw:w≤4):∀i,(pQ m n w i).length≤4*i
 |0=>Nat.le_refl _
 |i+1=>by have:=Ms m n hw i;have:=C1 m n i w;rw[pQ,List.length_append];omega
theorem aoh{rows:List bI}(hK:fP ro l K)(hV:eR K)(hR:rows.length≤2)(hB:jR ro l K rows)(hCt:xL):Gb zT 82 [.agg ⟨l⟩,.func (.func 83) ⟨[]⟩ ⟨[]⟩] ro [] (fun r Y=>∃zs v e,zs.Perm (cX K (aF K) (cm K.gone K.new K.af) rows)∧r= .tuple ⟨[v,zI e]⟩∧((zs=[]∧v= zS∧e=9∧Y=[])∨(zs≠[]∧e=0∧∀aJ,Knows aJ Y→LL aJ v (pQ (aD zs) ((zs.length:Nat):Int) K.after.length K.before.length)))):=by
 obtain⟨v0,v1,v3,v4,v5,v6,v7,vb,fa,fc,hv,rfl,_⟩:=id hK
 refine HD av [] [] bp fun fr=>zD 2<|jn fun b2=>jd 6 [0]<|avY (vs:=[.agg ⟨[v0,v1,.slice fa 0 fc,v3,v4,v5,v6,v7,zI K.gone,zI K.new,zI K.af,vb]⟩]) [] (fun _ _ h=>h) (ag4 hK hV hR hB) ?_
 rintro _ aH Y15 bH ⟨f15,zs,v15,e15,rfl,Fs,hz,awP,he⟩
 have VN:∀x∈zs,(-4≤x.gone∧x.gone≤4)∧(-4≤x.new∧x.new≤4)∧(0≤x.af∧x.af≤4):=fun x hx=>by obtain⟨i,r,p,_,_,rfl,_⟩:=iM (hz.mem_iff.1 hx);exact qj hV r i p
 have hzl:zs.length≤1250:=by rw[hz.length_eq];exact q9 hV _ _ hR
 have hpr:∀x∈zs,∀q,0≤pI x q∧pI x q≤4:=fun x hx=>by obtain⟨i,r,p,_,hp,rfl,_⟩:=iM (hz.mem_iff.1 hx);exact Oy ((kz hV _).2 p hp)
 obtain⟨d0,d1,d2,d3,d4,d5,d6,d7,d8,d9,dh,hf,px,n6,hr,Fq,Kw,MK,bW⟩:=id Fs
 obtain⟨lQ,N1,NZ,kZ,rfl,N0,G0,GZ⟩:=Fq
 obtain⟨lR,N6,N4,k7,rfl,N5,G2,G1⟩:=Kw
 have Dh:=hV.before.1
 have FW:=hV.after.1
 refine zD 7<|jf [0] Y15 (fun ro4 oS hk3=>?_)
 have hZ1:=awP.jL hk3
 obtain⟨yt,Vb,U9,vv,rfl,Va,N9,N8⟩:=hZ1
 refine zD 7<|js 20 (!decide (e15=0)) (fun h5=>?_) (fun h5=>?_)
 ·
  replace h5:=of_decide_eq_false (by simpa using h5)
  have vL:zs=[]∧e15=9:=by rcases he with h| ⟨_,h⟩;exact h;omega
  refine zD 8<|Vz qC.a.a (.tuple ⟨[zS,zI e15]⟩) [1] [] (bH.trans oS) ⟨zs,_,_,hz,rfl,.inl ⟨vL.1,rfl,vL.2,rfl⟩⟩
 replace h5:=of_decide_eq_true (by simpa using h5)
 have vL:zs≠[]∧e15=0:=by rcases he with ⟨_,h⟩|h;omega;exact h
 refine zD 9<|jc (vs:=[.slice yt zs.length vv]) [] (hCt (show bD _ _ _ _ _ from ⟨yt,Vb,U9,vv,rfl,Va,N9,N8⟩) (by omega) hpr) ?_
 rintro _ _ ⟨rfl,rfl⟩
 refine jg 0 []<|jn fun lL=>jd 9 [0]<|jl (b:=f15) (off:=0) (m:=13) (vs:=[d0,d1,d2,d3,d4,d5,.slice lQ K.before.length kZ,.slice lR K.after.length k7,zI K.gone,zI K.new,zI K.af,d8,d9]) 6 ⟨_,_,_,.inl (oS _ _ hf),rfl⟩<|zD 4<|nY<|nY<|dV [1,1,1,1,1,0,1,0,0] [] (fun(zz:Nat×Value×Cells×(List Value)×Cells)=>[(1,.func (.func 83) ⟨[]⟩ ⟨[]⟩),(4,zS),(5,zI 0),(6,zP f15),(7,.slice yt zs.length vv),(9,zz.2.1),(10,zP lL),(29,zI (K.before.length:Int)),(30,zI (zz.1:Int))]) (fun zz=>[.l zz.2.2.1,.l zz.2.2.2.2,.b lL (.cells ⟨[zI ((aD zs).c 0 0),zI ((aD zs).c 0 1),zI ((aD zs).c 0 2),zI ((aD zs).c 0 3),zI ((aD zs).c 1 0),zI ((aD zs).c 1 1),zI ((aD zs).c 1 2),zI ((aD zs).c 1 3),zI ((aD zs).c 2 0),zI ((aD zs).c 2 1),zI ((aD zs).c 2 2),zI ((aD zs).c 2 3),zI ((aD zs).c 3 0),zI ((aD zs).c 3 1),zI ((aD zs).c 3 2),zI ((aD zs).c 3 3)]⟩ 122 (0,0)),.b b2 (.cells ⟨[v0,v1,.slice fa 0 fc,v3,v4,v5,v6,v7,zI K.gone,zI K.new,zI K.af,vb]⟩ 40 (0,0)),.l fr]) (fun zz=>(zz.1≤K.before.length∧zz.2.2.2.1.length=(pQ (aD zs) ((zs.length:Nat):Int) K.after.length zz.1).length)∧ay zz.2.1 1 22 gz zz.2.2.2.1 zz.2.2.1∧∀aJ,Knows aJ zz.2.2.2.2→dA (fun w l=>bD aJ w 1 cB l) zz.2.2.2.1 (pQ (aD zs) ((zs.length:Nat):Int) K.after.length zz.1)) (fun zz=>K.before.length-zz.1) (⟨0,zS,[],[],[]⟩) ⟨⟨by dsimp only;omega,rfl⟩,ay.nil _ _ _,fun _ _=> .nil⟩ [1,0,2,3,4] ?_
 rintro⟨i,vO,LO,es,Z⟩ hI K1 bO rest
 dsimp only at hI
 have hil:=Ms (aD zs) ((zs.length:Nat):Int) (w:=K.after.length) (by omega) i
 refine zD 5<|zJ 31 ((i:Int) <(K.before.length:Int)) (fun h6=>?_) fun h6=>?_
 ·
  refine zD 15<|jl (b:=f15) (off:=0) (m:=13) (vs:=[d0,d1,d2,d3,d4,d5,.slice lQ K.before.length kZ,.slice lR K.after.length k7,zI K.gone,zI K.new,zI K.af,d8,d9]) 7 ⟨_,_,_,.inl (oS _ _ hf),rfl⟩<|zD 4<|dV [1,1,1,1,1,0,1,0,0,1,1,0,0,1,1,0,0] [K1] (fun(zz:Nat×Value×Cells×(List Value)×Cells)=>[(1,.func (.func 83) ⟨[]⟩ ⟨[]⟩),(4,zS),(5,zI 0),(6,zP f15),(7,.slice yt zs.length vv),(9,zz.2.1),(10,zP lL),(11,zI (i:Int)),(29,zI (K.before.length:Int)),(30,zI (i:Int)),(38,zI (K.after.length:Int)),(39,zI (zz.1:Int))]) (fun zz=>[.l zz.2.2.1,.l zz.2.2.2.2,.b lL (.cells ⟨[zI ((aD zs).c 0 0),zI ((aD zs).c 0 1),zI ((aD zs).c 0 2),zI ((aD zs).c 0 3),zI ((aD zs).c 1 0),zI ((aD zs).c 1 1),zI ((aD zs).c 1 2),zI ((aD zs).c 1 3),zI ((aD zs).c 2 0),zI ((aD zs).c 2 1),zI ((aD zs).c 2 2),zI ((aD zs).c 2 3),zI ((aD zs).c 3 0),zI ((aD zs).c 3 1),zI ((aD zs).c 3 2),zI ((aD zs).c 3 3)]⟩ 122 (0,0)),.b b2 (.cells ⟨[v0,v1,.slice fa 0 fc,v3,v4,v5,v6,v7,zI K.gone,zI K.new,zI K.af,vb]⟩ 40 (0,0)),.l fr]) (fun zz=>(zz.1≤K.after.length∧zz.2.2.2.1.length=((pQ (aD zs) ((zs.length:Nat):Int) K.after.length i)++(mS (aD zs) ((zs.length:Nat):Int) i zz.1)).length)∧ay zz.2.1 1 22 gz zz.2.2.2.1 zz.2.2.1∧∀aJ,Knows aJ zz.2.2.2.2→dA (fun w l=>bD aJ w 1 cB l) zz.2.2.2.1 ((pQ (aD zs) ((zs.length:Nat):Int) K.after.length i)++(mS (aD zs) ((zs.length:Nat):Int) i zz.1))) (fun zz=>K.after.length-zz.1) (⟨0,vO,LO,es,Z⟩) ⟨⟨by dsimp only;omega,by simpa [mS] using hI.1.2⟩,hI.2.1,by simpa [mS] using hI.2.2⟩ (zN 0 5) ?_
  rintro⟨j,vO,LO,es,Z⟩ hJ K2 mr rest
  dsimp only at hJ
  have hjl:=C1 (aD zs) ((zs.length:Nat):Int) i j
  have hel:=hJ.1.2
  rw[List.length_append] at hel
  refine zD 5<|zJ 40 ((j:Int) <(K.after.length:Int)) (fun h7=>?_) fun h7=>?_
  ·
   refine zD 10 ?_
   have iR:=I0 zs i j
   refine zD 4<|ME (b:=lL) (off:=0) (len:=4) (sz:=4) (i:Int) (by omega)<|ME (b:=lL) (off:=0+(i:Int).toNat*4) (len:=4) (sz:=1) (j:Int) (by omega)<|mT (b:=lL) (off:=0+(i:Int).toNat*4+(j:Int).toNat*1) (m:=1) (vs:=[zI ((aD zs).c i j)]) 0 [2] [(lL,.cells ⟨[zI ((aD zs).c 0 0),zI ((aD zs).c 0 1),zI ((aD zs).c 0 2),zI ((aD zs).c 0 3),zI ((aD zs).c 1 0),zI ((aD zs).c 1 1),zI ((aD zs).c 1 2),zI ((aD zs).c 1 3),zI ((aD zs).c 2 0),zI ((aD zs).c 2 1),zI ((aD zs).c 2 2),zI ((aD zs).c 2 3),zI ((aD zs).c 3 0),zI ((aD zs).c 3 1),zI ((aD zs).c 3 2),zI ((aD zs).c 3 3)]⟩ 122 (0,0))] (fun s _ hZ=>tt (hZ _ (.head _)) (FR (m:=aD zs) (by omega) (by omega)))<|zD 2<|jp (vs:=[zI ((aD zs).c i j),zI (zs.length:Int)]) [] [] (fun aH hs hZ=>avI)<|zD 1<|js 50 (decide (((aD zs).c i j)=(zs.length:Int))) (fun h8=>?_) (fun h8=>?_)
   ·
    refine zD 5<|jn fun b54=>jn fun b55=>iC (sz:=1) (ps:=es) (qs:=[(.slice (some ⟨b54,0,none⟩) 2 2:Value)]) (enc:=gz) (w:= .slice (some ⟨b55,0,none⟩) 1 1) [2] [0] [(b55,.cells ⟨([(.slice (some ⟨b54,0,none⟩) 2 2:Value)].map gz).flatten⟩ 22 (0,0))] (hJ.2.1) (fun s _ hZ=>bL [(.slice (some ⟨b54,0,none⟩) 2 2:Value)] (hZ _ (.head _)) (by intro p hp;rfl)) (by intro p hp;rw[List.mem_singleton] at hp;subst hp;exact ai rfl) (by simp only[List.length_cons,List.length_nil];omega) (fun v56 L56 qK=>?_)
    obtain⟨Nx,Nv,V5⟩:=qK.form
    subst V5
    refine zD 3<|ja ((j:Int)+1) (by omega)<|zD 2<|Ki mr (⟨j+1,(.slice Nx ((es++[(.slice (some ⟨b54,0,none⟩) 2 2:Value)])).length Nv),L56,(es++[(.slice (some ⟨b54,0,none⟩) 2 2:Value)]),Z++[(b54,.cells ⟨[zI (i:Int),zI (j:Int)]⟩ 3 (0,0))]⟩) ⟨⟨by dsimp only;omega,by dsimp only;rw[YV (of_decide_eq_true (by assumption)),←List.append_assoc];simp only[zM] at*;omega⟩,qK,fun aJ hk=>by dsimp only;rw[YV (of_decide_eq_true (by assumption)),←List.append_assoc];exact(hJ.2.2 aJ hk.left).snoc (bK (enc:=cB) (T:=3) [(i:Int),(j:Int)] (hk.right _ (.head _)) (fun _ _=>rfl))⟩ (by dsimp only;omega) [[0],[3,2],[4],[5],[6]] (Sub.refl _)
   refine zD 3<|ja ((j:Int)+1) (by omega)<|zD 2<|bA mr (⟨j+1,vO,LO,es,Z⟩) ⟨⟨by dsimp only;omega,by dsimp only;rw[YW (of_decide_eq_false (by assumption))];exact hJ.1.2⟩,hJ.2.1,by dsimp only;rw[YW (of_decide_eq_false (by assumption))];exact hJ.2.2⟩ (by dsimp only;omega) (zN 0 5) (Sub.refl _)
  refine zD 3<|ja ((i:Int)+1) (by omega)<|zD 2<|bA bO (⟨i+1,vO,LO,es,Z⟩) ⟨⟨by dsimp only;omega,by have:=hJ.1.2;rw[show j=K.after.length by omega] at this;exact this⟩,hJ.2.1,by have:=hJ.2.2;rw[show j=K.after.length by omega] at this;exact this⟩ (by dsimp only;omega) (zN 0 5) (Sub.refl _)
 refine zD 9<|aOA qC.a.a (.tuple ⟨[vO,zI 0]⟩) [0,1,4] LO Z (bH.trans oS) ⟨zs,_,_,hz,rfl,.inr ⟨vL.1,rfl,fun aJ hk=>⟨es,hI.2.1.jL hk.left,by have:=hI.2.2 aJ hk.right;rwa[show i=K.before.length by omega] at this⟩⟩⟩
structure xM where
 f:Bool
 a:Int
 b:Int
 w:Int
def ac0(m:fe)(n:Int)(i j:Nat):Int:=max (m.c i j) (n-m.c i j)
def Cb(m:fe)(n:Int)(i:Nat)(s:xM):Nat→xM
 |0=>s
 |j+1=>if ac0 m n i j <(Cb m n i s j).w then ⟨true,i,j,ac0 m n i j⟩ else Cb m n i s j
def ac1(m:fe)(n:Int)(w:Nat):Nat→xM
 |0=>⟨false,0,0,n⟩
 |i+1=>Cb m n i (ac1 m n w i) w
def Xt(s:xM):Int×Int×Int×Int:=bif s.f then (s.a,s.b,s.w,0) else (0,0,0,11)
theorem azE{m:fe}{j:Nat}{s:xM}{f:Bool}{a w:Int}(h:(⟨f,a,b,w⟩:xM)=Cb m n i s j)(h2:ac0 m n i j <w):(⟨true,i,j,ac0 m n i j⟩:xM)=Cb m n i s (j+1):=by rw[Cb,←h,if_pos h2]
theorem ale{m:fe}{j:Nat}{s:xM}{f:Bool}{a w:Int}(h:(⟨f,a,b,w⟩:xM)=Cb m n i s j)(h2:¬ac0 m n i j <w):(⟨f,a,b,w⟩:xM)=Cb m n i s (j+1):=by rw[Cb,←h,if_neg h2]
theorem avH{rows:List bI}(hK:fP ro l K)(hV:eR K)(hR:rows.length≤2)(hB:jR ro l K rows)(hCt:xL):Gb zT 46 [.agg ⟨l⟩] ro [] (fun r Y=>∃zs v e,zs.Perm (cX K (aF K) (cm K.gone K.new K.af) rows)∧r= .tuple ⟨[v,zI e]⟩∧((zs=[]∧v= zS∧e=9∧Y=[])∨(zs≠[]∧e=0∧∀aJ,Knows aJ Y→LL aJ v (pQ (aD zs) ((zs.length:Nat):Int) K.after.length K.before.length)))):=by
 obtain⟨v0,v1,v3,v4,v5,v6,v7,vb,fa,fc,hv,rfl,_⟩:=id hK
 refine HD av [] [] bp fun fr=>zD 2<|jn fun b1=>jd 6 [0]<|P7 (vs:=[.agg ⟨[v0,v1,.slice fa 0 fc,v3,v4,v5,v6,v7,zI K.gone,zI K.new,zI K.af,vb]⟩,.func (.func 83) ⟨[]⟩ ⟨[]⟩]) [] (fun _ _ h=>h) (aoh hK hV hR hB hCt) ?_
 rintro _ Y5 ⟨zs,v5,e5,hz,rfl,hcs⟩
 refine zD 6<|Vz qC (.tuple ⟨[v5,zI e5]⟩) [0,2] Y5 (Sub.refl _) ⟨zs,v5,e5,hz,rfl,hcs⟩
theorem aOs{rows:List bI}(hK:fP ro l K)(hV:eR K)(hR:rows.length≤2)(hB:jR ro l K rows)(hCt:xL):Gb zT 50 [.agg ⟨l⟩] ro [] (fun r Y=>∃zs a b w e,zs.Perm (cX K (aF K) (cm K.gone K.new K.af) rows)∧Y=[]∧r= .tuple ⟨[zI a,zI b,zI w,zI e]⟩∧((zs=[]∧a=0∧b=0∧w=0∧e=9)∨(zs≠[]∧(a,b,w,e)=Xt (ac1 (aD zs) ((zs.length:Nat):Int) K.after.length K.before.length)))):=by
 obtain⟨v0,v1,v3,v4,v5,v6,v7,vb,fa,fc,hv,rfl,_⟩:=id hK
 refine HD av [] [] bp fun fr=>zD 2<|jn fun b1=>jd 8 [0]<|avY (vs:=[.agg ⟨[v0,v1,.slice fa 0 fc,v3,v4,v5,v6,v7,zI K.gone,zI K.new,zI K.af,vb]⟩]) [] (fun _ _ h=>h) (ag4 hK hV hR hB) ?_
 rintro _ aH Y14 bH ⟨f14,zs,v14,Pq,rfl,Fs,hz,VV,he⟩
 have VN:∀x∈zs,(-4≤x.gone∧x.gone≤4)∧(-4≤x.new∧x.new≤4)∧(0≤x.af∧x.af≤4):=fun x hx=>by obtain⟨i,r,p,_,_,rfl,_⟩:=iM (hz.mem_iff.1 hx);exact qj hV r i p
 have hzl:zs.length≤1250:=by rw[hz.length_eq];exact q9 hV _ _ hR
 have hpr:∀x∈zs,∀q,0≤pI x q∧pI x q≤4:=fun x hx=>by obtain⟨i,r,p,_,hp,rfl,_⟩:=iM (hz.mem_iff.1 hx);exact Oy ((kz hV _).2 p hp)
 obtain⟨d0,d1,d2,d3,d4,d5,d6,d7,d8,d9,dh,hf,px,n6,hr,Fq,Kw,MK,bW⟩:=id Fs
 obtain⟨lQ,N1,NZ,kZ,rfl,N0,G0,GZ⟩:=Fq
 obtain⟨lR,N6,N4,k7,rfl,N5,G2,G1⟩:=Kw
 have Dh:=hV.before.1
 have FW:=hV.after.1
 refine zD 7<|jf [0] Y14 (fun ro4 oS hk3=>?_)
 have hZ1:=VV.jL hk3
 obtain⟨yt,Vb,U9,vv,rfl,Va,N9,N8⟩:=hZ1
 refine zD 7<|js 20 (!decide (Pq=0)) (fun h5=>?_) (fun h5=>?_)
 ·
  replace h5:=of_decide_eq_false (by simpa using h5)
  have vL:zs=[]∧Pq=9:=by rcases he with h| ⟨_,h⟩;exact h;omega
  refine zD 10<|Vz qC.a.a (.tuple ⟨[zI 0,zI 0,zI 0,zI Pq]⟩) [1] [] (bH.trans oS) ⟨zs,_,_,_,_,hz,rfl,rfl,.inl ⟨vL.1,rfl,rfl,rfl,vL.2⟩⟩
 replace h5:=of_decide_eq_true (by simpa using h5)
 have vL:zs≠[]∧Pq=0:=by rcases he with ⟨_,h⟩|h;omega;exact h
 refine zD 5<|jc (vs:=[.slice yt zs.length vv]) [] (hCt (show bD _ _ _ _ _ from ⟨yt,Vb,U9,vv,rfl,Va,N9,N8⟩) (by omega) hpr) ?_
 rintro _ _ ⟨rfl,rfl⟩
 refine jg 0 []<|jn fun b8=>jd 16 [0]<|jl (b:=f14) (off:=0) (m:=13) (vs:=[d0,d1,d2,d3,d4,d5,.slice lQ K.before.length kZ,.slice lR K.after.length k7,zI K.gone,zI K.new,zI K.af,d8,d9]) 6 ⟨_,_,_,.inl (oS _ _ hf),rfl⟩<|zD 4<|dV [1,1,1,1,1,0,1,0,0] [] (fun(zz:Nat×Bool×Int×Int×Int)=>[(2,zI zz.2.2.1),(3,zI zz.2.2.2.1),(4,zI zz.2.2.2.2),(5,zI Pq),(6,zP f14),(7,.slice yt zs.length vv),(8,zP b8),(9,.bool zz.2.1),(31,zI (K.before.length:Int)),(32,zI (zz.1:Int))]) (fun zz=>[.b b8 (.cells ⟨[zI ((aD zs).c 0 0),zI ((aD zs).c 0 1),zI ((aD zs).c 0 2),zI ((aD zs).c 0 3),zI ((aD zs).c 1 0),zI ((aD zs).c 1 1),zI ((aD zs).c 1 2),zI ((aD zs).c 1 3),zI ((aD zs).c 2 0),zI ((aD zs).c 2 1),zI ((aD zs).c 2 2),zI ((aD zs).c 2 3),zI ((aD zs).c 3 0),zI ((aD zs).c 3 1),zI ((aD zs).c 3 2),zI ((aD zs).c 3 3)]⟩ 122 (0,0)),.b b1 (.cells ⟨[v0,v1,.slice fa 0 fc,v3,v4,v5,v6,v7,zI K.gone,zI K.new,zI K.af,vb]⟩ 40 (0,0)),.l fr]) (fun zz=>zz.1≤K.before.length∧(⟨zz.2.1,zz.2.2.1,zz.2.2.2.1,zz.2.2.2.2⟩:xM)=(ac1 (aD zs) ((zs.length:Nat):Int) K.after.length zz.1)) (fun zz=>K.before.length-zz.1) (⟨0,false,0,0,((zs.length:Nat):Int)⟩) ⟨by dsimp only;omega,rfl⟩ [0,1,2] ?_
 rintro⟨i,qf,qa,qb,qw⟩ hI K1 bO rest
 dsimp only at hI
 refine zD 5<|zJ 33 ((i:Int) <(K.before.length:Int)) (fun h6=>?_) fun h6=>?_
 ·
  refine zD 15<|jl (b:=f14) (off:=0) (m:=13) (vs:=[d0,d1,d2,d3,d4,d5,.slice lQ K.before.length kZ,.slice lR K.after.length k7,zI K.gone,zI K.new,zI K.af,d8,d9]) 7 ⟨_,_,_,.inl (oS _ _ hf),rfl⟩<|zD 4<|dV [1,1,1,1,1,0,1,0,0,1,1,0,0,1,1,0,0] [K1] (fun(zz:Nat×Bool×Int×Int×Int)=>[(2,zI zz.2.2.1),(3,zI zz.2.2.2.1),(4,zI zz.2.2.2.2),(5,zI Pq),(6,zP f14),(7,.slice yt zs.length vv),(8,zP b8),(9,.bool zz.2.1),(10,zI (i:Int)),(31,zI (K.before.length:Int)),(32,zI (i:Int)),(40,zI (K.after.length:Int)),(41,zI (zz.1:Int))]) (fun zz=>[.b b8 (.cells ⟨[zI ((aD zs).c 0 0),zI ((aD zs).c 0 1),zI ((aD zs).c 0 2),zI ((aD zs).c 0 3),zI ((aD zs).c 1 0),zI ((aD zs).c 1 1),zI ((aD zs).c 1 2),zI ((aD zs).c 1 3),zI ((aD zs).c 2 0),zI ((aD zs).c 2 1),zI ((aD zs).c 2 2),zI ((aD zs).c 2 3),zI ((aD zs).c 3 0),zI ((aD zs).c 3 1),zI ((aD zs).c 3 2),zI ((aD zs).c 3 3)]⟩ 122 (0,0)),.b b1 (.cells ⟨[v0,v1,.slice fa 0 fc,v3,v4,v5,v6,v7,zI K.gone,zI K.new,zI K.af,vb]⟩ 40 (0,0)),.l fr]) (fun zz=>zz.1≤K.after.length∧(⟨zz.2.1,zz.2.2.1,zz.2.2.2.1,zz.2.2.2.2⟩:xM)=(Cb (aD zs) ((zs.length:Nat):Int) i (ac1 (aD zs) ((zs.length:Nat):Int) K.after.length i) zz.1)) (fun zz=>K.after.length-zz.1) (⟨0,qf,qa,qb,qw⟩) ⟨by dsimp only;omega,hI.2⟩ [0,1,2] ?_
  rintro⟨j,qf,qa,qb,qw⟩ hJ K2 mr rest
  dsimp only at hJ
  refine zD 5<|zJ 42 ((j:Int) <(K.after.length:Int)) (fun h7=>?_) fun h7=>?_
  ·
   refine zD 10 ?_
   have iR:=I0 zs i j
   refine zD 3<|ME (b:=b8) (off:=0) (len:=4) (sz:=4) (i:Int) (by omega)<|ME (b:=b8) (off:=0+(i:Int).toNat*4) (len:=4) (sz:=1) (j:Int) (by omega)<|mT (b:=b8) (off:=0+(i:Int).toNat*4+(j:Int).toNat*1) (m:=1) (vs:=[zI ((aD zs).c i j)]) 0 [0] [(b8,.cells ⟨[zI ((aD zs).c 0 0),zI ((aD zs).c 0 1),zI ((aD zs).c 0 2),zI ((aD zs).c 0 3),zI ((aD zs).c 1 0),zI ((aD zs).c 1 1),zI ((aD zs).c 1 2),zI ((aD zs).c 1 3),zI ((aD zs).c 2 0),zI ((aD zs).c 2 1),zI ((aD zs).c 2 2),zI ((aD zs).c 2 3),zI ((aD zs).c 3 0),zI ((aD zs).c 3 1),zI ((aD zs).c 3 2),zI ((aD zs).c 3 3)]⟩ 122 (0,0))] (fun s _ hZ=>tt (hZ _ (.head _)) (FR (m:=aD zs) (by omega) (by omega)))<|zD 4<|ME (b:=b8) (off:=0) (len:=4) (sz:=4) (i:Int) (by omega)<|ME (b:=b8) (off:=0+(i:Int).toNat*4) (len:=4) (sz:=1) (j:Int) (by omega)<|mT (b:=b8) (off:=0+(i:Int).toNat*4+(j:Int).toNat*1) (m:=1) (vs:=[zI ((aD zs).c i j)]) 0 [0] [(b8,.cells ⟨[zI ((aD zs).c 0 0),zI ((aD zs).c 0 1),zI ((aD zs).c 0 2),zI ((aD zs).c 0 3),zI ((aD zs).c 1 0),zI ((aD zs).c 1 1),zI ((aD zs).c 1 2),zI ((aD zs).c 1 3),zI ((aD zs).c 2 0),zI ((aD zs).c 2 1),zI ((aD zs).c 2 2),zI ((aD zs).c 2 3),zI ((aD zs).c 3 0),zI ((aD zs).c 3 1),zI ((aD zs).c 3 2),zI ((aD zs).c 3 3)]⟩ 122 (0,0))] (fun s _ hZ=>tt (hZ _ (.head _)) (FR (m:=aD zs) (by omega) (by omega)))<|ja ((zs.length:Int)-((aD zs).c i j)) (by omega)<|jmx (k:= .i64) (a:=((aD zs).c i j)) (b:=((zs.length:Int)-((aD zs).c i j)))<|zD 8<|zJ 60 ((max ((aD zs).c i j) ((zs.length:Int)-((aD zs).c i j))) <qw) (fun h8=>?_) fun h8=>?_
   ·
    refine zD 11<|ja ((j:Int)+1) (by omega)<|zD 2<|bA mr (⟨j+1,true,(i:Int),(j:Int),(max ((aD zs).c i j) ((zs.length:Int)-((aD zs).c i j)))⟩) ⟨by dsimp only;omega,azE hJ.2 (by assumption)⟩ (by dsimp only;omega) [0,1,2] (Sub.refl _)
   refine zD 3<|ja ((j:Int)+1) (by omega)<|zD 2<|bA mr (⟨j+1,qf,qa,qb,qw⟩) ⟨by dsimp only;omega,ale hJ.2 (by assumption)⟩ (by dsimp only;omega) [0,1,2] (Sub.refl _)
  refine zD 3<|ja ((i:Int)+1) (by omega)<|zD 2<|bA bO (⟨i+1,qf,qa,qb,qw⟩) ⟨by dsimp only;omega,by have:=hJ.2;rw[show j=K.after.length by omega] at this;exact this⟩ (by dsimp only;omega) [0,1,2] (Sub.refl _)
 refine zD 8<|js 67 (!qf) (fun h9=>?_) (fun h9=>?_)
 ·
  try simp only[zB] at h9
  refine zD 9<|Vz qC.a.a (.tuple ⟨[zI 0,zI 0,zI 0,zI 11]⟩) [2] [] (bH.trans oS) ⟨zs,_,_,_,_,hz,rfl,rfl,.inr ⟨vL.1,by have:=hI.2;rw[show i=K.before.length by omega] at this;rw[←this];simp only[Xt];cases qf<;>first|rfl|contradiction|simp_all⟩⟩
 try simp only[zB] at h9
 refine zD 13<|Vz qC.a.a (.tuple ⟨[zI qa,zI qb,zI qw,zI 0]⟩) [2] [] (bH.trans oS) ⟨zs,_,_,_,_,hz,rfl,rfl,.inr ⟨vL.1,by have:=hI.2;rw[show i=K.before.length by omega] at this;rw[←this];simp only[Xt];cases qf<;>first|rfl|contradiction|simp_all⟩⟩
def J4:Value→Int
 | .int _ n=>n
 |_=>0
def UC(f:P4→Int)(F:List (P4×Value)):Int:=(F.map fun x=>f x.1*J4 x.2).sum
def pk(x:ak):P4:=(x.w0,x.w1,x.w2,x.w3)
def aeP(f:P4→Int)(zs:List ak):Int:=(zs.map fun x=>f (pk x)).sum
structure CF(F:List (P4×Value))(zs:List ak):Prop where
 sum:∀f,UC f F=aeP f zs
 val:∀x∈F,∃n,x.2= zI n∧0≤n∧n≤zs.length
 key:∀x∈F,∃z∈zs,x.1=pk z
theorem CF.nil:CF [] []:=⟨fun _=>rfl,by simp,by simp⟩
theorem GC(g:κ×Value→Int):∀ {F:List (κ×Value)} {i:Nat} {k:κ} {u v:Value},F[i]?=some (k,u)→((ud k v F i).map g).sum=(F.map g).sum-g (k,u)+g (k,v)
 | [],_,_,_,_,h=>by simp at h
 |x::F,0,k,u,v,h=>by simp at h;subst h;simp only[ud,List.map_cons,List.sum_cons];omega
 |x::F,i+1,k,u,v,h=>by
  simp at h
  have:=GC g (v:=v) h
  simp only[ud,List.map_cons,List.sum_cons];omega
theorem wI:∀ {F:List (κ×Value)} {i:Nat} {k:κ} {v:Value} {x:κ×Value},x∈ud k v F i→x=(k,v)∨x∈F
 | [],_,_,_,_,h=>by cases h
 |y::F,0,k,v,x,h=>by
  rcases List.mem_cons.1 h with h|h
  ·exact .inl h
  exact .inr (List.mem_cons_of_mem _ h)
 |y::F,i+1,k,v,x,h=>by
  rcases List.mem_cons.1 h with h|h
  ·exact .inr (by rw[h];exact List.mem_cons_self)
  exact(wI h).imp id (List.mem_cons_of_mem _)
theorem CF.look{F:List (P4×Value)}{zs:List ak}(h:CF F zs)(k:P4):∃n,R3 (zI 0) false k F= zI n∧0≤n∧n≤zs.length:=by
 simp only[R3,lkM]
 cases hf:sV k F 0 with
 |none=>exact⟨0,rfl,by omega,by omega⟩
 |some u=>
  obtain⟨j,u⟩:=u
  have:=(qV hf).2
  exact h.val _ (zL this)
theorem CF.upd{F F1:List (P4×Value)}{zs:List ak}{x:ak}(h:CF F zs)(h1:((∃u,sV (pk x) F 0=some u)∧F1=F)∨(sV (pk x) F 0=none∧F1=F++[(pk x,zI 0)]))(hl:R3 (zI 0) false (pk x) F= zI n)(hn:0≤n∧n≤zs.length):CF (mA (pk x) (zI (n+1)) F1) (zs++[x]):=by
 have hz (f:P4→Int):aeP f (zs++[x])=aeP f zs+f (pk x):=by simp[aeP]
 rcases h1 with ⟨⟨⟨j,u⟩,hf⟩,rfl⟩| ⟨hf,rfl⟩
 ·have hu:=qV hf
  simp only[Nat.sub_zero] at hu
  have rq:u= zI n:=by simpa [R3,lkM,hf] using hl
  subst rq
  simp only[mA,hf]
  refine⟨fun f=>?_,fun y hy=>?_,fun y hy=>?_⟩
  ·rw[hz,←h.sum,UC,GC _ hu.2,UC]
   simp only[J4,Int.mul_add,Int.mul_one];omega
  ·rcases wI hy with rfl|hy
   ·exact⟨n+1,rfl,by omega,by simp;omega⟩
   obtain⟨m,h1,h2⟩:=h.val _ hy
   exact⟨m,h1,by omega,by simp;omega⟩
  rcases wI hy with rfl|hy
  ·exact⟨x,by simp,rfl⟩
  obtain⟨z,h1,h2⟩:=h.key _ hy
  exact⟨z,by simp[h1],h2⟩
 have rq:n=0:=by
  have:(Value.int .i64 0)= zI n:=by simpa [R3,lkM,hf] using hl
  cases this;rfl
 subst rq
 have hs:mA (pk x) (zI (0+1)) (F++[(pk x,zI 0)])=ud (pk x) (zI (0+1)) (F++[(pk x,zI 0)]) (0+F.length):=by
  simp only[mA,BT (v:= zI 0) hf]
 have hg:(F++[(pk x,Value.int .i64 0)])[0+F.length]?=some (pk x,zI 0):=by simp
 rw[hs]
 refine⟨fun f=>?_,fun y hy=>?_,fun y hy=>?_⟩
 ·rw[hz,←h.sum,UC,GC _ hg,UC]
  simp[J4]
 ·rcases wI hy with rfl|hy
  ·exact⟨0+1,rfl,by omega,by simp;omega⟩
  rcases List.mem_append.1 hy with hy|hy
  ·obtain⟨m,h1,h2⟩:=h.val _ hy
   exact⟨m,h1,by omega,by simp;omega⟩
  rw[List.mem_singleton] at hy;subst hy
  exact⟨0,rfl,by omega,by omega⟩
 rcases wI hy with rfl|hy
 ·exact⟨x,by simp,rfl⟩
 rcases List.mem_append.1 hy with hy|hy
 ·obtain⟨z,h1,h2⟩:=h.key _ hy
  exact⟨z,by simp[h1],h2⟩
 rw[List.mem_singleton] at hy;subst hy
 exact⟨x,by simp,rfl⟩
def fV(i j:Nat):Value→Int
 | .agg ⟨l⟩=>(match l[i]? with
  |some (.int _ n)=>if n=(j:Int)+1 then 1 else 0
  |_=>0)
 |_=>0
def td(i j:Nat)(l:List MapEntry):Int:=(l.map fun e=>fV i j e.key*J4 e.val).sum
theorem aeQ{F:List (P4×Value)}{es:Array MapEntry}(h:tS JG F es ck)(i j:Nat):td i j es.toList=UC (fun k=>fV i j (JG k)) F:=by
 have h1:=congrArg (List.map fun p:Value×Value=>fV i j p.1*J4 p.2) h.1
 simp only[List.map_map] at h1
 unfold td UC
 exact congrArg List.sum h1
theorem QN(i j:Nat):∀ {l:List MapEntry} {e:MapEntry},(l.map (·.born)).Nodup→e∈l→td i j l=fV i j e.key*J4 e.val+td i j (l.filter fun x=> !decide (x.born=e.born))
 | [],_,_,h=>by cases h
 |x::l,e,hn,h=>by
  simp only[List.map_cons,List.nodup_cons] at hn
  rcases List.mem_cons.1 h with rfl|h
  ·have:l.filter (fun y=> !decide (y.born=e.born))=l:=by
    refine List.filter_eq_self.2 fun y hy=>?_
    have:y.born≠e.born:=fun h=>hn.1 (h▸List.mem_map_of_mem hy)
    simp[this]
   rw[List.filter_cons_of_neg (by simp),this];rfl
  have dR:x.born≠e.born:=fun k=>hn.1 (k▸List.mem_map_of_mem h)
  rw[List.filter_cons_of_pos (by simp[dR])]
  have:=QN i j hn.2 h
  simp only[td,List.map_cons,List.sum_cons] at this ⊢
  omega
theorem Vr(es:Array MapEntry)(seen:List Nat)(b:Nat):cO es (seen++[b])=(cO es seen).filter fun x=> !decide (x.born=b):=by
 simp only[cO,List.filter_filter]
 refine List.filter_congr fun x _=>?_
 simp only[List.contains_eq_mem,List.mem_append,List.mem_singleton,Bool.decide_or,Bool.not_or]
 rw[Bool.and_comm]
theorem Lh{F:List (P4×Value)}{es:Array MapEntry}(h:tS JG F es ck){e:MapEntry}(he:e∈cO es seen)(i j:Nat):td i j (cO es seen)=fV i j e.key*J4 e.val+td i j (cO es (seen++[e.born])):=by
 rw[Vr]
 exact QN i j ((List.filter_sublist.map _).nodup h.2.1) he
theorem asr(i j:Nat)(v:Value):fV i j v=0∨fV i j v=1:=by
 unfold fV
 split<;>try exact .inl rfl
 split<;>try exact .inl rfl
 split<;>simp
theorem QL{i j:Nat}:∀ {l:List MapEntry},(∀e∈l,0≤J4 e.val)→0≤td i j l
 | [],_=>Int.le_refl _
 |x::l,h=>by
  have h1:=QL (i:=i) (j:=j) (l:=l) fun e he=>h e (List.mem_cons_of_mem _ he)
  have h2:=h x List.mem_cons_self
  simp only[td,List.map_cons,List.sum_cons] at h1 ⊢
  rcases asr i j x.key with h3|h3<;>rw[h3]<;>omega
theorem amJ{F:List (P4×Value)}{zs:List ak}(h:CF F zs){es:Array MapEntry}(hE:tS JG F es ck):∀e∈cO es seen,0≤J4 e.val:=fun e he=>by
 have h1:e∈es.toList:=(List.mem_filter.1 he).1
 have h2:(e.key,e.val)∈es.toList.map (fun e=>(e.key,e.val)):=List.mem_map_of_mem (f:=fun e:MapEntry=>(e.key,e.val)) h1
 rw[hE.1] at h2
 obtain⟨y,h3,h4⟩:=List.mem_map.1 h2
 obtain⟨n,h5,h6,_⟩:=h.val _ h3
 simp only[Prod.mk.injEq] at h4
 rw[←h4.2,h5];exact h6
theorem aae(x:ak)(j:Nat)(hi:i <4):fV i j (JG (pk x))=if pI x i=(j:Int)+1 then 1 else 0:=by
 rcases AO hi with rfl|rfl|rfl|rfl<;>rfl
theorem Ym(p:α→Prop)[DecidablePred p]:∀l:List α,(l.map fun x=>if p x then (1:Int) else 0).sum=((l.filter fun x=>decide (p x)).length:Int)
 | []=>rfl
 |x::l=>by
  rw[List.map_cons,List.sum_cons,Ym p l]
  by_cases h:p x
  ·rw[if_pos h,List.filter_cons_of_pos (by simpa using h),List.length_cons];omega
  rw[if_neg h,List.filter_cons_of_neg (by simpa using h)];omega
theorem CF.total{F:List (P4×Value)}{zs:List ak}(h:CF F zs){es:Array MapEntry}(hE:tS JG F es ck)(j:Nat)(hi:i <4):td i j (cO es [])=(aD zs).c i j:=by
 rw[C9,aeQ hE,h.sum,aeP]
 simp only[aae _ j hi]
 exact Ym (fun x=>pI x i=(j:Int)+1) zs
theorem adS{z:ak}(h:(z.w0==0&&(z.w1==0&&(z.w2==0&&(z.w3==0&&true))))=true)(i:Nat):pI z i=0:=by
 simp only[Bool.and_eq_true,beq_iff_eq] at h
 match i with
 |0=>exact h.1
 |1=>exact h.2.1
 |2=>exact h.2.2.1
 |_+3=>exact h.2.2.2.1
def FE(m:fe)(S T:Nat→Nat→Int):Prop:=∀i j,i <4→j <4→0≤m.c i j∧m.c i j+S i j=T i j
theorem FE.init{F:List (P4×Value)}{zs:List ak}(h:CF F zs){es:Array MapEntry}(hE:tS JG F es ck):FE ⟨fun _ _=>0⟩ (fun i j=>td i j (cO es [])) (aD zs).c:=fun i j hi _=>⟨Int.le_refl _,by show 0+td i j (cO es [])=_;rw[h.total hE j hi];exact Int.zero_add _⟩
def inS(z:ak)(n:Int)(q:Nat)(R:Nat→Nat→Int):Nat→Nat→Int:=fun i j=>(if i <q then 0 else fV i j (JG (pk z))*n)+R i j
theorem FE.zero{m:fe}{z:ak}{n:Int}{es:Array MapEntry}{ck:Nat}{F:List (P4×Value)}{T:Nat→Nat→Int}{seen:List Nat}{e:MapEntry}(hE:tS JG F es ck)(he:e∈cO es seen)(hk:e.key=JG (pk z))(hz:∀i,pI z i=0)(h:FE m (fun i j=>td i j (cO es seen)) T):FE m (fun i j=>td i j (cO es (seen++[e.born]))) T:=fun i j hi hj=>by
 have h1:=h i j hi hj
 have h2:=Lh hE he i j
 rw[hk,aae z j hi,if_neg (by rw[hz];omega),Int.zero_mul,Int.zero_add] at h2
 dsimp only at h1 ⊢
 rw[h2] at h1;exact h1
theorem FE.open_{m:fe}{z:ak}{es:Array MapEntry}{F:List (P4×Value)}{e:MapEntry}(hE:tS JG F es ck)(he:e∈cO es seen)(hk:e.key=JG (pk z))(hv:e.val= zI n)(h:FE m (fun i j=>td i j (cO es seen)) T):FE m (inS z n 0 fun i j=>td i j (cO es (seen++[e.born]))) T:=fun i j hi hj=>by
 have h1:=h i j hi hj
 have h2:=Lh hE he i j
 rw[hk,hv] at h2
 simp only[J4] at h2
 simp only[inS,if_neg (Nat.not_lt_zero i)]
 dsimp only at h1
 rw[h2] at h1;exact h1
theorem FE.close{m:fe}{z:ak}(h:FE m (inS z n 4 R) T):FE m R T:=fun i j hi hj=>by
 have h1:=h i j hi hj
 simp only[inS,if_pos hi,Int.zero_add] at h1
 exact h1
theorem FE.skip{m:fe}{z:ak}(h:FE m (inS z n q R) T)(hq:¬pI z q>0):FE m (inS z n (q+1) R) T:=fun i j hi hj=>by
 have h1:=h i j hi hj
 simp only[inS] at h1 ⊢
 by_cases e:i=q
 ·subst e
  rw[if_neg (Nat.lt_irrefl _),aae z j hi,if_neg (by omega),Int.zero_mul] at h1
  rw[if_pos (Nat.lt_succ_self _)];exact h1
 by_cases e2:i <q
 ·rw[if_pos e2] at h1;rw[if_pos (by omega)];exact h1
 rw[if_neg e2] at h1;rw[if_neg (by omega)];exact h1
theorem FE.add{m:fe}{z:ak}(h:FE m (inS z n q R) T)(hn:0≤n)(hq:pI z q>0)(hq4:q <4):FE (sr m q (pI z q-1).toNat (m.c q (pI z q-1).toNat+n)) (inS z n (q+1) R) T:=fun i j hi hj=>by
 have h1:=h i j hi hj
 simp only[inS,sr] at h1 ⊢
 by_cases e:i=q
 ·subst e
  rw[if_neg (Nat.lt_irrefl _),aae z j hi] at h1
  rw[if_pos (Nat.lt_succ_self _)]
  by_cases e2:j=(pI z i-1).toNat
  ·rw[if_pos (by omega)] at h1
   rw[if_pos ⟨rfl,e2⟩,←e2];omega
  rw[if_neg (by omega)] at h1
  rw[if_neg (by omega)];omega
 rw[if_neg (c:=i=q∧j=(pI z q-1).toNat) (by omega)]
 by_cases e2:i <q
 ·rw[if_pos e2] at h1;rw[if_pos (by omega)];exact h1
 rw[if_neg e2] at h1;rw[if_neg (by omega)];exact h1
theorem FE.bound{m:fe}{z:ak}(h:FE m (inS z n q R) T)(hR:∀i j,0≤R i j)(hn:0≤n){j:Nat}(hi:i <4)(hj:j <4):0≤m.c i j∧m.c i j≤T i j:=by
 have h1:=h i j hi hj
 have h2:=hR i j
 simp only[inS] at h1
 split at h1
 ·omega
 rcases asr i j (JG (pk z)) with h3|h3<;>rw[h3] at h1<;>omega
theorem FE.fin{m:fe}{zs:List ak}{es:Array MapEntry}(h:FE m (fun i j=>td i j (cO es seen)) (aD zs).c)(he:cO es seen=[]):Av m=Av (aD zs):=by
 have k (i j:Nat) (hi:i <4) (hj:j <4):m.c i j=(aD zs).c i j:=by
  have:=(h i j hi hj).2
  rw[he] at this
  simpa [td] using this
 simp only[Av,k 0 0 (by decide) (by decide),k 0 1 (by decide) (by decide),k 0 2 (by decide) (by decide),k 0 3 (by decide) (by decide),k 1 0 (by decide) (by decide),k 1 1 (by decide) (by decide),k 1 2 (by decide) (by decide),k 1 3 (by decide) (by decide),k 2 0 (by decide) (by decide),k 2 1 (by decide) (by decide),k 2 2 (by decide) (by decide),k 2 3 (by decide) (by decide),k 3 0 (by decide) (by decide),k 3 1 (by decide) (by decide),k 3 2 (by decide) (by decide),k 3 3 (by decide) (by decide)]
theorem auU{z:ak}(h:q <4):nth [zI z.w0,zI z.w1,zI z.w2,zI z.w3] ((q:Int).toNat*1)=some (zI (pI z q)):=by
 rcases AO h with rfl|rfl|rfl|rfl<;>rfl
theorem ago{m:fe}{a:Nat}(h:a <4)(k:0≤j∧j <4):nth (Av m) (0+(a:Int).toNat*4+j.toNat*1)=some (zI (m.c a j.toNat)):=by
 obtain⟨b,rfl⟩:=Int.eq_ofNat_of_zero_le k.1
 exact FR h (by omega)
theorem agn{m:fe}{a:Nat}{v:Int}(h:a <4)(k:0≤j∧j <4):dE (Av m) (0+(a:Int).toNat*4+j.toNat*1) [zI v]=Av (sr m a j.toNat v):=by
 obtain⟨b,rfl⟩:=Int.eq_ofNat_of_zero_le k.1
 exact anV h (by omega)
theorem agp{m:fe}{a:Nat}{v:Value}(h:a <4)(k:0≤j∧j <4):Nat.ble ((0+(a:Int).toNat*4+j.toNat*1)+[v].length) (Av m).length=true:=by
 obtain⟨b,rfl⟩:=Int.eq_ofNat_of_zero_le k.1
 exact anW h (by omega)
theorem aTl(z:ak):EqV zT 126 (v4 z.w0 z.w1 z.w2 z.w3) (v4 0 0 0 0) (z.w0==0&&(z.w1==0&&(z.w2==0&&(z.w3==0&&true)))):=Pn (aH9 (dep:=9998) (nB Tryz.typeInfo126 Tryz.underlying126 rfl rfl rfl rfl rfl rfl) mL _ _ _ _ _ _ _ _)
theorem aOa:oH zT 126:=by unfold oH;kernel_rfl
theorem RZ{F F1:List (P4×Value)}{k:P4}(h1:((∃u,sV k F 0=some u)∧F1=F)∨(sV k F 0=none∧F1=F++[(k,zI 0)]))(hl:R3 (zI 0) false k F= zI n):R3 (zI 0) false k F1= zI n:=by
 rcases h1 with ⟨_,rfl⟩| ⟨hf,rfl⟩
 ·exact hl
 simp only[R3,lkM,BT (v:= zI 0) hf]
 simpa [R3,lkM,hf] using hl
theorem ahc{v:Value}{zs:List ak}(hl:bD ro v 8 cW zs)(hn:zs.length≤100000)(hp:∀x∈zs,∀q,0≤pI x q∧pI x q≤4):eg zT 54 [v] ro [] (fun r Y=>r= .agg ⟨Av (aD zs)⟩∧Y=[]):=by
 obtain⟨fC,sG,sE,eO,rfl,ui,lP,mP⟩:=hl
 refine zE<|zD 2<|jn fun b2=>zD 3<|jmk JG fun GW L11 aie=>zD 10<|dV [1,1,0,1,0,0] [] (fun(zz:Nat×(List (P4×Value))×Cells)=>[(2,zP b2),(3,(.map (some GW))),(12,.slice fC zs.length eO),(13,zI (zs.length:Int)),(14,zI (zz.1:Int))]) (fun(zz:Nat×(List (P4×Value))×Cells)=>[.l zz.2.2,.b b2 (.cells ⟨[zI 0,zI 0,zI 0,zI 0,zI 0,zI 0,zI 0,zI 0,zI 0,zI 0,zI 0,zI 0,zI 0,zI 0,zI 0,zI 0]⟩ 122 (0,0))]) (fun(zz:Nat×(List (P4×Value))×Cells)=>zz.1≤zs.length∧j5 GW JG zz.2.1 zz.2.2∧CF zz.2.1 (zs.take zz.1)) (fun(zz:Nat×(List (P4×Value))×Cells)=>zs.length-zz.1) (⟨0,[],L11⟩) ⟨by dsimp only;omega,aie,CF.nil⟩ [0,1] ?_
 rintro⟨k,F,LM⟩ hI K1 bO rest
 dsimp only at hI
 refine zD 5<|zJ 15 ((k:Int) <(zs.length:Int)) (fun h1=>?_) fun h1=>?_
 ·
  refine zD 6 ?_
  obtain⟨Cg,mU⟩:=zG zs k
  refine iz eO 8 lP mU<|jl 0 (mP _ _ mU)<|jn fun b5=>jd 2 [0] ?_
  obtain⟨nk,hlk,hnk⟩:=hI.2.2.look (pk Cg)
  have Ua:(zs.take k).length=k:=by rw[List.length_take];omega
  refine jd 4 [0]<|Ez [3,5] ⟨fun z2 t3 qR=>?_,fun z5 t6 Wl=>?_,trivial⟩
  ·
   refine jlu (kv:=JG) (F:=F) (r:=GW) (K:=126) (pk Cg) (zI 0) false [1] LM agR (fun s _ hZ=>hI.2.1.has hZ)<|eo qR [0,1,2]<|jw 3 (zI nk) hlk<|ja (nk+1) (by omega)<|aQ 5 fun aaL aaX hL8=>jme (kv:=JG) (F:=F) (r:=GW) (L:=LM) 1 (pk Cg) agR mL hI.2.1 fun Fm4 bm4 cm4 Lm4 bcm hm4=>fJ hL8 []<|aQ 6 fun Uk Uy SQ=>zD 1<|eo SQ [0,1,2]<|aQ 7 fun DW Ef uO=>jes 0 (zI (nk+1)) hm4 fun Lm7 hm7=>fp uO<|zD 2<|ja ((k:Int)+1) (by omega)<|zD 2<|bA bO (⟨k+1,_,Lm7⟩) ⟨by dsimp only;omega,hm7,by dsimp only;rw[iF mU];exact hI.2.2.upd (by assumption) hlk hnk⟩ (by dsimp only;omega) [0,2] (Sub.refl _)
  refine jme (kv:=JG) (F:=F) (r:=GW) (L:=LM) 1 (pk Cg) agR mL hI.2.1 fun Fm9 bm9 cm9 Lm9 aHy hm9=>fp Wl<|Ez [3,6] ⟨fun z11 t12 O4=>?_,fun z14 t15 Ky=>?_,trivial⟩
  ·
   refine jlu (kv:=JG) (F:=Fm9) (r:=GW) (K:=126) (pk Cg) (zI 0) false [0] Lm9 agR (fun s _ hZ=>hm9.own.has hZ)<|fp O4<|jw 3 (zI nk) (RZ aHy hlk)<|ja (nk+1) (by omega)<|aQ 6 fun adR aeG Im=>zD 1<|eo Im [0,1,2]<|aQ 7 fun aqy aqR O3=>jes 0 (zI (nk+1)) hm9 fun aUm aGn=>fp O3<|zD 2<|ja ((k:Int)+1) (by omega)<|zD 2<|bA bO (⟨k+1,_,aUm⟩) ⟨by dsimp only;omega,aGn,by dsimp only;rw[iF mU];exact hI.2.2.upd (by assumption) hlk hnk⟩ (by dsimp only;omega) [0,2] (Sub.refl _)
  refine zD 1<|fp Ky<|aQ 3 fun aqx aqQ WB=>jlu (kv:=JG) (F:=Fm9) (r:=GW) (K:=126) (pk Cg) (zI 0) false [0] Lm9 agR (fun s _ hZ=>hm9.own.has hZ)<|fp WB<|jw 3 (zI nk) (RZ aHy hlk)<|ja (nk+1) (by omega)<|aQ 7 fun aBD aCs WA=>jes 0 (zI (nk+1)) hm9 fun aUl aid=>fp WA<|zD 2<|ja ((k:Int)+1) (by omega)<|zD 2<|bA bO (⟨k+1,_,aUl⟩) ⟨by dsimp only;omega,aid,by dsimp only;rw[iF mU];exact hI.2.2.upd (by assumption) hlk hnk⟩ (by dsimp only;omega) [0,2] (Sub.refl _)
 refine zD 4<|jn fun b6=>jf [1] LM (fun aYA awu axn=>?_)
 have hCF:CF F zs:=by have:=hI.2.2;rwa[show k=zs.length by omega,List.take_length] at this
 obtain⟨Cp,JY,rfl,hE1⟩:=hI.2.1
 refine zD 5<|jmR (axn _ (.head _)) fun r27=>jg 0 [.b r27 (u7 GW JY [])]<|zD 2<|dV [1,1,1,1,0,1,0,0] [] (fun(zz:(List Nat)×fe)=>[(2,zP b2),(6,zP b6),(27,zP r27)]) (fun zz=>[.b r27 (u7 GW JY zz.1),.b b6 (.cells ⟨[zI (zz.2.c 0 0),zI (zz.2.c 0 1),zI (zz.2.c 0 2),zI (zz.2.c 0 3),zI (zz.2.c 1 0),zI (zz.2.c 1 1),zI (zz.2.c 1 2),zI (zz.2.c 1 3),zI (zz.2.c 2 0),zI (zz.2.c 2 1),zI (zz.2.c 2 2),zI (zz.2.c 2 3),zI (zz.2.c 3 0),zI (zz.2.c 3 1),zI (zz.2.c 3 2),zI (zz.2.c 3 3)]⟩ 122 (0,0)),.b b2 (.cells ⟨[zI 0,zI 0,zI 0,zI 0,zI 0,zI 0,zI 0,zI 0,zI 0,zI 0,zI 0,zI 0,zI 0,zI 0,zI 0,zI 0]⟩ 122 (0,0))]) (fun zz=>FE zz.2 (fun i j=>td i j (cO Cp zz.1)) (aD zs).c) (fun zz=>(cO Cp zz.1).length) (⟨[],⟨fun _ _=>0⟩⟩) (FE.init hCF hE1) [0,1,2] ?_
 rintro⟨seen,m⟩ hI K21 apq rest
 dsimp only at hI
 refine zD 2<|jmN (it:=r27) (kv:=JG) (seen:=seen) 0 (axn _ (.head _)) hE1 (fun k28 v28 e28 aGP ack axl aFs=>?_) (fun av3=>?_)
 ·
  obtain⟨Ho,arU,aGe⟩:=hCF.val _ aGP
  obtain⟨kV,av3,hkz⟩:=hCF.key _ aGP
  dsimp only at arU hkz
  subst arU
  subst hkz
  have hpz:=hp kV av3
  have cP:=Hw ack
  refine jg 0 [.b r27 (u7 GW JY (seen++[e28.born]))]<|zD 8<|jmE (it:=r27) 0 (axn _ (.head _)) hE1 ack axl aFs<|jg 0 [.b r27 (u7 GW JY (seen++[e28.born]))]<|zD 2<|jn fun b7=>jd 8 [0,0]<|jeq aOa (aTl kV)<|zD 1<|js 35 (kV.w0==0&&(kV.w1==0&&(kV.w2==0&&(kV.w3==0&&true)))) (fun h21=>?_) (fun h21=>?_)
  ·
   refine zD 2<|bA apq (⟨(seen++[e28.born]),m⟩) (hI.zero (n:=0) hE1 ack axl (adS (by assumption))) cP [1,2,3] (Sub.refl _)
  refine jd 8 [0]<|dV [1,1,1,1,0,1,0,0,1,1,0,1,1,1,0,0] [K21] (fun(zz:Nat×fe)=>[(2,zP b2),(6,zP b6),(8,zI Ho),(27,zP r27),(36,.agg ⟨[zI kV.w0,zI kV.w1,zI kV.w2,zI kV.w3]⟩),(37,zI (zz.1:Int))]) (fun zz=>[.b r27 (u7 GW JY (seen++[e28.born])),.b b6 (.cells ⟨[zI (zz.2.c 0 0),zI (zz.2.c 0 1),zI (zz.2.c 0 2),zI (zz.2.c 0 3),zI (zz.2.c 1 0),zI (zz.2.c 1 1),zI (zz.2.c 1 2),zI (zz.2.c 1 3),zI (zz.2.c 2 0),zI (zz.2.c 2 1),zI (zz.2.c 2 2),zI (zz.2.c 2 3),zI (zz.2.c 3 0),zI (zz.2.c 3 1),zI (zz.2.c 3 2),zI (zz.2.c 3 3)]⟩ 122 (0,0)),.b b7 (.cells ⟨[zI kV.w0,zI kV.w1,zI kV.w2,zI kV.w3]⟩ 126 (0,0)),.b b2 (.cells ⟨[zI 0,zI 0,zI 0,zI 0,zI 0,zI 0,zI 0,zI 0,zI 0,zI 0,zI 0,zI 0,zI 0,zI 0,zI 0,zI 0]⟩ 122 (0,0))]) (fun zz=>zz.1≤4∧FE zz.2 (inS kV Ho zz.1 (fun i j=>td i j (cO Cp (seen++[e28.born])))) (aD zs).c) (fun zz=>4-zz.1) (⟨0,m⟩) ⟨by dsimp only;omega,hI.open_ hE1 ack axl aFs⟩ [1,2,0,3] ?_
  rintro⟨q,m⟩ hJ K22 aHt rest
  dsimp only at hJ
  refine zD 5<|zJ 38 ((q:Int) <4) (fun AW=>?_) fun AW=>?_
  ·
   refine zD 7<|jai (l:=[zI kV.w0,zI kV.w1,zI kV.w2,zI kV.w3]) (q:Int) 4 1 false (by omega) (v:= zI (pI kV q)) (show nth [_,_,_,_] _=_ from auU (by omega))<|zD 8<|zJ 42 ((pI kV q)>0) (fun vN=>?_) fun vN=>?_
   ·
    refine zD 4<|ja ((pI kV q)-1) (by have:=hpz q;omega) ?_
    refine ME (b:=b6) (off:=0) (len:=4) (sz:=4) (q:Int) (by omega)<|ME (b:=b6) (off:=0+(q:Int).toNat*4) (len:=4) (sz:=1) ((pI kV q)-1) (by have:=hpz q;omega) ?_
    refine mT (b:=b6) (off:=0+(q:Int).toNat*4+((pI kV q)-1).toNat*1) (m:=1) (vs:=[zI (m.c q (pI kV q-1).toNat)]) 0 [1] [(b6,.cells ⟨[zI (m.c 0 0),zI (m.c 0 1),zI (m.c 0 2),zI (m.c 0 3),zI (m.c 1 0),zI (m.c 1 1),zI (m.c 1 2),zI (m.c 1 3),zI (m.c 2 0),zI (m.c 2 1),zI (m.c 2 2),zI (m.c 2 3),zI (m.c 3 0),zI (m.c 3 1),zI (m.c 3 2),zI (m.c 3 3)]⟩ 122 (0,0))] (fun s _ hZ=>tt (hZ _ (.head _)) (ago (m:=m) (by omega) (by have:=hpz q;omega))) ?_
    refine zD 1<|ja ((m.c q (pI kV q-1).toNat)+Ho) (by have h7:=hJ.2.bound (fun i j=>QL (amJ hCF hE1)) aGe.1 (i:=q) (j:=(pI kV q-1).toNat) (by omega) (by have:=hpz q;omega);have h8:=I0 zs q (pI kV q-1).toNat;omega) ?_
    refine ME (b:=b6) (off:=0) (len:=4) (sz:=4) (q:Int) (by omega)<|ME (b:=b6) (off:=0+(q:Int).toNat*4) (len:=4) (sz:=1) ((pI kV q)-1) (by have:=hpz q;omega) ?_
    refine aQ 10 fun aBC aCr Wz=>jsx 1 b6 (0+(q:Int).toNat*4+((pI kV q)-1).toNat*1) [zI (m.c 0 0),zI (m.c 0 1),zI (m.c 0 2),zI (m.c 0 3),zI (m.c 1 0),zI (m.c 1 1),zI (m.c 1 2),zI (m.c 1 3),zI (m.c 2 0),zI (m.c 2 1),zI (m.c 2 2),zI (m.c 2 3),zI (m.c 3 0),zI (m.c 3 1),zI (m.c 3 2),zI (m.c 3 3)] [zI ((m.c q (pI kV q-1).toNat)+Ho)] 122 (by intro v hv;rw[List.mem_singleton] at hv;subst hv;rfl) (agp (m:=m) (by omega) (by have:=hpz q;omega)) ?_
    refine jmw 0 [.b b6 (.cells ⟨[zI ((sr m q (pI kV q-1).toNat (m.c q (pI kV q-1).toNat+Ho)).c 0 0),zI ((sr m q (pI kV q-1).toNat (m.c q (pI kV q-1).toNat+Ho)).c 0 1),zI ((sr m q (pI kV q-1).toNat (m.c q (pI kV q-1).toNat+Ho)).c 0 2),zI ((sr m q (pI kV q-1).toNat (m.c q (pI kV q-1).toNat+Ho)).c 0 3),zI ((sr m q (pI kV q-1).toNat (m.c q (pI kV q-1).toNat+Ho)).c 1 0),zI ((sr m q (pI kV q-1).toNat (m.c q (pI kV q-1).toNat+Ho)).c 1 1),zI ((sr m q (pI kV q-1).toNat (m.c q (pI kV q-1).toNat+Ho)).c 1 2),zI ((sr m q (pI kV q-1).toNat (m.c q (pI kV q-1).toNat+Ho)).c 1 3),zI ((sr m q (pI kV q-1).toNat (m.c q (pI kV q-1).toNat+Ho)).c 2 0),zI ((sr m q (pI kV q-1).toNat (m.c q (pI kV q-1).toNat+Ho)).c 2 1),zI ((sr m q (pI kV q-1).toNat (m.c q (pI kV q-1).toNat+Ho)).c 2 2),zI ((sr m q (pI kV q-1).toNat (m.c q (pI kV q-1).toNat+Ho)).c 2 3),zI ((sr m q (pI kV q-1).toNat (m.c q (pI kV q-1).toNat+Ho)).c 3 0),zI ((sr m q (pI kV q-1).toNat (m.c q (pI kV q-1).toNat+Ho)).c 3 1),zI ((sr m q (pI kV q-1).toNat (m.c q (pI kV q-1).toNat+Ho)).c 3 2),zI ((sr m q (pI kV q-1).toNat (m.c q (pI kV q-1).toNat+Ho)).c 3 3)]⟩ 122 (0,0))] (L:=[(b6,.cells ⟨dE [zI (m.c 0 0),zI (m.c 0 1),zI (m.c 0 2),zI (m.c 0 3),zI (m.c 1 0),zI (m.c 1 1),zI (m.c 1 2),zI (m.c 1 3),zI (m.c 2 0),zI (m.c 2 1),zI (m.c 2 2),zI (m.c 2 3),zI (m.c 3 0),zI (m.c 3 1),zI (m.c 3 2),zI (m.c 3 3)] (0+(q:Int).toNat*4+((pI kV q)-1).toNat*1) [zI ((m.c q (pI kV q-1).toNat)+Ho)]⟩ 122 (0,0))]) (by rw[agn (m:=m) (by omega) (by have:=hpz q;omega)];rfl) ?_
    refine fJ Wz []<|zD 2<|ja ((q:Int)+1) (by omega)<|zD 2<|bA aHt (⟨q+1,(sr m q (pI kV q-1).toNat (m.c q (pI kV q-1).toNat+Ho))⟩) ⟨by dsimp only;omega,hJ.2.add aGe.1 (by assumption) (by omega)⟩ (by dsimp only;omega) [1,0,2,3] (Sub.refl _)
   refine zD 3<|ja ((q:Int)+1) (by omega)<|zD 2<|bA aHt (⟨q+1,m⟩) ⟨by dsimp only;omega,hJ.2.skip (by assumption)⟩ (by dsimp only;omega) (zN 0 4) (Sub.refl _)
  refine zD 2<|bA apq (⟨(seen++[e28.born]),m⟩) (FE.close (z:=kV) (n:=Ho) (by have:=hJ.2;rwa[show q=4 by omega] at this)) cP [0,1,3] (Sub.refl _)
 refine jg 0 [.b r27 (u7 GW JY seen)]<|jd 11 [1,2]<|aO q0.a (.agg ⟨[zI (m.c 0 0),zI (m.c 0 1),zI (m.c 0 2),zI (m.c 0 3),zI (m.c 1 0),zI (m.c 1 1),zI (m.c 1 2),zI (m.c 1 3),zI (m.c 2 0),zI (m.c 2 1),zI (m.c 2 2),zI (m.c 2 3),zI (m.c 3 0),zI (m.c 3 1),zI (m.c 3 2),zI (m.c 3 3)]⟩) [2] [] [] awu ⟨_,_,rfl,rfl,by rw[←hI.fin av3],rfl⟩
theorem B1:xL:=fun hl hn hp=>ahc hl hn hp
theorem BR:∀(l:List Int) (a:Int),l.foldl min a=a∨l.foldl min a∈l
 | [],_=> .inl rfl
 |y::l,a=>by
  simp only[List.foldl_cons]
  rcases BR l (min a y) with h|h
  ·rw[h]
   rcases(by omega:min a y=a∨min a y=y) with e|e
   ·exact .inl e
   rw[e];exact .inr List.mem_cons_self
  exact .inr (List.mem_cons_of_mem _ h)
theorem RR:∀ {l:List Int},l≠[]→vw l∈l
 | [],h=>absurd rfl h
 |y::l,_=>by
  show l.foldl min y∈_
  rcases BR l y with h|h
  ·rw[h];exact List.mem_cons_self
  exact List.mem_cons_of_mem _ h
theorem Mt{l m:List Int}(h:l.Perm m)(hl:l≠[]):vw l=vw m:=by
 have h1:=Oo (h.mem_iff.1 (RR hl))
 have h2:=Oo (h.mem_iff.2 (RR (fun e=>hl (by rw[e] at h;exact h.eq_nil))))
 omega
theorem IE:∀(l:List Int) (a:Int),a≤l.foldl max a∧∀x∈l,x≤l.foldl max a
 | [],a=>⟨Int.le_refl _,fun _ h=>(by cases h)⟩
 |y::l,a=>by
  obtain⟨h1,h2⟩:=IE l (max a y)
  refine⟨by simp only[List.foldl_cons];omega,fun x hx=>?_⟩
  rcases List.mem_cons.1 hx with rfl|hx
  ·simp only[List.foldl_cons];omega
  exact h2 x hx
theorem BS:∀(l:List Int) (a:Int),l.foldl max a=a∨l.foldl max a∈l
 | [],_=> .inl rfl
 |y::l,a=>by
  simp only[List.foldl_cons]
  rcases BS l (max a y) with h|h
  ·rw[h]
   rcases(by omega:max a y=a∨max a y=y) with e|e
   ·exact .inl e
   rw[e];exact .inr List.mem_cons_self
  exact .inr (List.mem_cons_of_mem _ h)
theorem Zf{l:List Int}(h:x∈l):x≤C5 l:=by
 cases l with
 |nil=>cases h
 |cons y l=>
  rcases List.mem_cons.1 h with rfl|h
  ·exact(IE l _).1
  exact(IE l _).2 x h
theorem RS:∀ {l:List Int},l≠[]→C5 l∈l
 | [],h=>absurd rfl h
 |y::l,_=>by
  show l.foldl max y∈_
  rcases BS l y with h|h
  ·rw[h];exact List.mem_cons_self
  exact List.mem_cons_of_mem _ h
theorem abN{l m:List Int}(h:l.Perm m)(hl:l≠[]):C5 l=C5 m:=by
 have h1:=Zf (h.mem_iff.1 (RS hl))
 have h2:=Zf (h.mem_iff.2 (RS (fun e=>hl (by rw[e] at h;exact h.eq_nil))))
 omega
theorem Ow{f:α→β}{l:List α}(h:l≠[]):l.map f≠[]:=fun e=>h (List.map_eq_nil_iff.1 e)
abbrev fsT:List bZ:=[⟨2,1,true⟩,⟨0,1,true⟩]
theorem cC(h:0≤n∧n≤4):j6 (aW n):=asw (fs:=[]) h (by decide) (by simp) .nil
theorem cV:eR (aW n):=asv (fs:=[]) (by decide) (by simp)
theorem cCT:j6 (EL 2 fsT):=asw (by decide) (by decide) (by decide) (by decide)
theorem cVT:eR (EL 2 fsT):=asv (by decide) (by decide)
theorem rT:bF (aW 2)=4:=by kernel_rfl
theorem rL:vw ((cX (aW 1) (aF (aW 1)) (fun _=>true) (cK (aW 1))).map GF)=2:=by kernel_rfl
theorem rLn:(cX (aW 1) (aF (aW 1)) (fun _=>true) (cK (aW 1))).length=0→False:=by
 have e:Nat.beq (cX (aW 1) (aF (aW 1)) (fun _=>true) (cK (aW 1))).length 0=false:=by kernel_rfl
 intro h;rw[h] at e;cases e
theorem r1n:(cX (aW 1) (aF (aW 1)) (cm (aW 1).gone (aW 1).new (aW 1).af) (cK (aW 1))).length=0→False:=by
 have e:Nat.beq (cX (aW 1) (aF (aW 1)) (cm (aW 1).gone (aW 1).new (aW 1).af) (cK (aW 1))).length 0=false:=by kernel_rfl
 intro h;rw[h] at e;cases e
theorem r2n:(cX (aW 2) (aF (aW 2)) (cm (aW 2).gone (aW 2).new (aW 2).af) (cK (aW 2))).length=0→False:=by
 have e:Nat.beq (cX (aW 2) (aF (aW 2)) (cm (aW 2).gone (aW 2).new (aW 2).af) (cK (aW 2))).length 0=false:=by kernel_rfl
 intro h;rw[h] at e;cases e
theorem rM1:vw ((cX (aW 2) (aF (aW 2)) (cm (aW 2).gone (aW 2).new (aW 2).af) (cK (aW 2))).map fun x=>x.af)=0:=by kernel_rfl
theorem rM2:C5 ((cX (aW 2) (aF (aW 2)) (cm (aW 2).gone (aW 2).new (aW 2).af) (cK (aW 2))).map fun x=>x.af)=2:=by kernel_rfl
theorem rU:pQ (aD (cX (aW 1) (aF (aW 1)) (cm (aW 1).gone (aW 1).new (aW 1).af) (cK (aW 1)))) (((cX (aW 1) (aF (aW 1)) (cm (aW 1).gone (aW 1).new (aW 1).af) (cK (aW 1))).length:Nat):Int) (aW 1).after.length (aW 1).before.length=[[0,0],[2,1]]:=by kernel_rfl
theorem rW:Nn (EL 2 fsT) (cK (EL 2 fsT))=some 1:=by kernel_rfl
theorem rL1:mj 1 4=[0]:=by kernel_rfl
theorem rA:(Xt (ac1 (aD (cX (aW 2) (aF (aW 2)) (cm (aW 2).gone (aW 2).new (aW 2).af) (cK (aW 2)))) (((cX (aW 2) (aF (aW 2)) (cm (aW 2).gone (aW 2).new (aW 2).af) (cK (aW 2))).length:Nat):Int) (aW 2).after.length (aW 2).before.length)).2.2=(2,0):=by kernel_rfl
theorem abi(hK:fP ro l (aW 2)):Gb zT 12 [.agg ⟨l⟩] ro [] (fun r Y=>r= .tuple ⟨[zI 4,zI 0]⟩∧Y=[]):=
 (HB hK (cC (by decide)) cV).mono fun v X h=>⟨by rw[h.1,rT];rfl,h.2⟩
theorem afh(hK:fP ro l (aW 1)):Gb zT 48 [.agg ⟨l⟩] ro [] (fun r Y=>r= .tuple ⟨[zI 2,zI 0]⟩∧Y=[]):=
 (aoj hK (cC (by decide)) cV).mono fun v X ⟨zs,m,e,hz,hY,hr,h⟩=>by
  rcases h with ⟨h,_⟩| ⟨h,hm,he⟩
  ·exact(rLn (by rw[←hz.length_eq,h];rfl)).elim
  exact⟨by rw[hr,hm,he,Mt (hz.map GF) (Ow h),rL],hY⟩
theorem am9(hK:fP ro l (aW 1)):Gb zT 46 [.agg ⟨l⟩] ro [] (fun r Y=>∃v,r= .tuple ⟨[v,zI 0]⟩∧∀aJ,Knows aJ Y→LL aJ v [[0,0],[2,1]]):=
 (avH hK cV (mN (cC (by decide))) (xD hK (cC (by decide)) cV) B1).mono fun r X ⟨zs,v,e,hz,hr,h⟩=>by
  rcases h with ⟨h,_⟩| ⟨h,he,hl⟩
  ·exact(r1n (by rw[←hz.length_eq,h];rfl)).elim
  refine⟨v,by rw[hr,he],fun aJ hk=>?_⟩
  have:=hl aJ hk
  rwa[tN hz,hz.length_eq,rU] at this
theorem afg(hK:fP ro l (aW 2)):Gb zT 47 [.agg ⟨l⟩] ro [] (fun r Y=>r= .tuple ⟨[.agg ⟨[zI 0,zI 2]⟩,zI 0]⟩∧Y=[]):=
 (avJ hK cV (mN (cC (by decide))) (xD hK (cC (by decide)) cV)).mono fun r X ⟨zs,a,b,e,hz,hY,hr,h⟩=>by
  rcases h with ⟨h,_⟩| ⟨h,ha,hb,he⟩
  ·exact(r2n (by rw[←hz.length_eq,h];rfl)).elim
  exact⟨by rw[hr,ha,hb,he,Mt (hz.map _) (Ow h),abN (hz.map _) (Ow h),rM1,rM2],hY⟩
theorem aun(hK:fP ro l (aW 2)):Gb zT 50 [.agg ⟨l⟩] ro [] (fun r Y=>∃a b,r= .tuple ⟨[zI a,zI b,zI 2,zI 0]⟩∧Y=[]):=
 (aOs hK cV (mN (cC (by decide))) (xD hK (cC (by decide)) cV) B1).mono fun r X ⟨zs,a,b,w,e,hz,hY,hr,h⟩=>by
  rcases h with ⟨h,_⟩| ⟨h,ha⟩
  ·exact(r2n (by rw[←hz.length_eq,h];rfl)).elim
  rw[tN hz,hz.length_eq] at ha
  have h2:=congrArg (fun x:Int×Int×Int×Int=>x.2.2) ha
  dsimp only at h2
  rw[rA] at h2
  cases h2
  exact⟨a,b,hr,hY⟩
theorem aff(hK:fP ro l (EL 2 fsT)):eg zT 22 [.agg ⟨l⟩] ro [] (fun r Y=>∃v,r= .tuple ⟨[v,zI 0]⟩∧ay v 1 3 cB [0] Y):=
 Fn.mono (avt hK cVT (mN cCT) (xD hK cCT cVT) (by decide)) fun en s' ⟨r,X,h1,h2,v,e,hr,h⟩=>⟨r,X,h1,h2,by
  rcases h with ⟨m,hm,ho,he⟩| ⟨hm,_⟩
  ·rw[rW] at hm;cases hm
   rw[rL1] at ho
   exact⟨v,by rw[hr,he],ho⟩
  rw[rW] at hm;cases hm⟩
theorem agM{v4 vf:Value}{fa:Option Addr}(h:fP ro [v0,v1,.slice fa 0 fc,v3,v4,v5,v6,v7,zI 1,zI 1,zI n,vb] (aW n))(hf:bD ro vf 3 nz fs):fP ro [v0,v1,.slice fa 0 fc,v3,v4,v5,v6,v7,zI 1,zI 1,zI n,vf] (EL n fs):=by
 obtain⟨w0,w1,w3,w4,w5,w6,w7,wb,ga,gc,hv,e,h1,h2,h3,h4,h5,h6,h7,_⟩:=h
 cases e
 exact⟨_,_,_,_,_,_,_,_,_,_,hv,rfl,h1,h2,h3,h4,h5,h6,h7,hf⟩
theorem QB{v4:Value}{fa fb:Option Addr}(h:∀v∈[v0,v1,v3,v4,v5,v6,v7,vb],single v=true):∀v∈[v0,v1,.slice fa 0 fc,v3,v4,v5,v6,v7,zI 1,zI 1,zI 2,.slice fb fn fd],single v=true:=by
 simp only[List.mem_cons,List.not_mem_nil,or_false] at h ⊢
 rintro v (rfl|rfl|rfl|rfl|rfl|rfl|rfl|rfl|rfl|rfl|rfl|rfl)<;>first|rfl|exact h _ (by simp)
theorem LL.up{aJ:Nat→Option Obj}{v:Value}{W:List (List Int)}(h:LL ro v W)(hs:Sub ro aJ):LL aJ v W:=by
 obtain⟨ws,h1,h2⟩:=h
 exact⟨ws,h1.up hs,h2.imp fun _ _ k=>k.up hs⟩
theorem aH7(a b c d:Int):EqV zT 65 (.agg ⟨[zI a,zI b]⟩) (.agg ⟨[zI c,zI d]⟩) (a==c&&(b==d&&true)):=
 Pn (uR (dep:=9999) (nB Tryz.typeInfo65 Tryz.underlying65 rfl rfl rfl rfl rfl rfl) Tryz.stoodInHeld65 (.cons (by decide) (ky mL rfl) (ky mL rfl) (oE mL _ _) (.cons (by decide) (ky mL rfl) (ky mL rfl) (oE mL _ _) .nil)))
theorem aN9:oH zT 65:=by unfold oH;kernel_rfl
theorem am8:Gb zT 15 [] ro [] (fun r Y=>r= .bool true∧Y=[]):=by
 refine HD av [] [] bp fun fr=>zD 6<|jc (vs:=[zI 2]) [] (Ng) ?_
 rintro _ Y16 ⟨l16,rfl,aSj,Ky⟩
 refine jf [0] Y16 (fun zo bH iQ=>?_)
 have aSu:=aSj _ iQ
 refine P7 (vs:=[(.agg ⟨l16⟩)]) [] (fun _ _ h=>h) (abi aSu) ?_
 rintro _ _ ⟨rfl,rfl⟩
 refine jg 0 []<|zD 8<|jc (vs:=[zI 1]) [] (Ng) ?_
 rintro _ Y21 ⟨l21,rfl,aSi,acr⟩
 refine jf [0] Y21 (fun ro6 eT Qf=>?_)
 have apq:=aSi _ Qf
 refine P7 (vs:=[(.agg ⟨l21⟩)]) [] (fun _ _ h=>h) (am9 apq) ?_
 rintro _ Y22 ⟨v22,rfl,aQz⟩
 refine zD 5<|jf [0] Y22 (fun ro9 iD hk8=>?_)
 have aSk:=aQz _ hk8
 refine zD 3<|jc (vs:=[zI 2]) [] (Ng) ?_
 rintro _ Y26 ⟨wL,rfl,aSh,BL⟩
 refine jf [0] Y26 (fun aYD aFE aQK=>?_)
 have aSt:=aSh _ aQK
 refine P7 (vs:=[(.agg ⟨wL⟩)]) [] (fun _ _ h=>h) (afg aSt) ?_
 rintro _ _ ⟨rfl,rfl⟩
 refine jg 0 []<|zD 3<|jn fun b5=>jd 5 [0]<|jc (vs:=[zI 1]) [] (Ng) ?_
 rintro _ Y31 ⟨R8,rfl,aSg,Kx⟩
 refine jf [0] Y31 (fun aYC aFD aoZ=>?_)
 have aSs:=aSg _ aoZ
 refine P7 (vs:=[(.agg ⟨R8⟩)]) [] (fun _ _ h=>h) (afh aSs) ?_
 rintro _ _ ⟨rfl,rfl⟩
 refine jg 0 []<|zD 8<|jc (vs:=[zI 2]) [] (Ng) ?_
 rintro _ Y36 ⟨l36,rfl,aSf,Il⟩
 refine jp (vs:=[zI 2,zI 1,.bool true]) [] [] (fun aH hs hZ=>azt)<|jp (vs:=[zI 0,zI 1,.bool true]) [] [] (fun aH hs hZ=>azt)<|jn fun b39=>jf [1,0] (Y36++[(b39,.cells ⟨[zI 2,zI 1,.bool true,zI 0,zI 1,.bool true]⟩ 58 (0,0))]) (fun aYB aFC aci=>?_)
 have aSr:=aSf _ (Knows.left aci)
 have aQY:=bK (sz:=3) (enc:=nz) (T:=58) [⟨2,1,true⟩,⟨0,1,true⟩] (Knows.right aci _ (.head _)) (fun _ _=>rfl)
 obtain⟨v0,v1,v3,v4,v5,v6,v7,vb,fa,fc,rfl,aPE⟩:=Il
 refine jp (vs:=[.agg ⟨[v0,v1,(.slice fa 0 fc),v3,v4,v5,v6,v7,zI 1,zI 1,zI 2,vb]⟩,(.slice (some ⟨b39,0,none⟩) 2 2)]) [] [] (fun aH hs hZ=>aIn (QB aPE))<|jc (vs:=[.agg ⟨[v0,v1,(.slice fa 0 fc),v3,v4,v5,v6,v7,zI 1,zI 1,zI 2,(.slice (some ⟨b39,0,none⟩) 2 2)]⟩]) [] (aff (agM aSr aQY)) ?_
 rintro _ Y41 ⟨v41,rfl,aP9⟩
 refine zD 8<|jc (vs:=[zI 2]) [] (Ng) ?_
 rintro _ Y45 ⟨l45,rfl,aSe,apo⟩
 refine jf [0] Y45 (fun aC2 ab7 ach=>?_)
 have aSq:=aSe _ ach
 refine P7 (vs:=[(.agg ⟨l45⟩)]) [] (fun _ _ h=>h) (aun aSq) ?_
 rintro _ _ ⟨qa,qb,rfl,rfl⟩
 refine jg 0 []<|jd 49 [1]<|jeq aN9 (aH7 0 2 0 2)<|zD 3<|jn fun b92=>jn fun b93=>jn fun b94=>jf [2,1,0] ((b92,.cells ⟨[zI 0,zI 0]⟩ 3 (0,0))::((b93,.cells ⟨[zI 2,zI 1]⟩ 3 (0,0))::[(b94,.cells ⟨[.slice (some ⟨b92,0,none⟩) 2 2,.slice (some ⟨b93,0,none⟩) 2 2]⟩ 22 (0,0))])) (fun aYz aFB axm=>?_)
 obtain⟨wsM,hsM,haM⟩:=aSk.up ((((aFE.trans aFD).trans aFC).trans ab7).trans aFB)
 have aO9:=bK (sz:=1) (enc:=gz) (T:=22) [.slice (some ⟨b92,0,none⟩) 2 2,.slice (some ⟨b93,0,none⟩) 2 2] (axm _ (.tail _ (.tail _ (.head _)))) (fun _ _=>rfl)
 have aR7:=bK (sz:=1) (enc:=cB) (T:=3) [0,0] (axm _ (.head _)) (fun _ _=>rfl)
 have aR6:=bK (sz:=1) (enc:=cB) (T:=3) [2,1] (axm _ (.tail _ (.head _))) (fun _ _=>rfl)
 refine jp (vs:=[v22,(.slice (some ⟨b94,0,none⟩) 2 2)]) [] [] (fun aH hs hZ=>(show dK _ _ _ _ (.bool (Fx [[0,0],[2,1]] [[0,0],[2,1]])) from azg (hsM.up hs) (aO9.up hs) (haM.imp fun _ _ h=>h.up hs) (.cons (aR7.up hs) (.cons (aR6.up hs) .nil)) (by decide) (by decide) (by decide) (by decide)))<|zD 3<|jn fun b99=>jp (vs:=[v41,.slice (some ⟨b99,0,none⟩) 1 1]) [1,0] (Y41++[(b99,.cells ⟨([0].map cB).flatten⟩ 3 (0,0))]) (fun aH hs hZ=>(show dK _ _ _ _ (.bool (IT [0] [0])) from aky (aP9.jL hZ.left) (bK [0] hZ.right.head (by intro p hp;rfl)) (by decide) (by decide))) ?_
 refine zD 4<|Vz qC.a.a.a.a.a.a.a.a (.bool true) [3] [] (((((((bH.trans eT).trans iD).trans aFE).trans aFD).trans aFC).trans ab7).trans aFB) ⟨rfl,rfl⟩
theorem ZQ{n:Nat}(hn:n≤4)(hi:i <n):hasB (IntKind.u8.wrap (dG .u8 1 (n:Int)-1)) i=true:=by
 have h:(n=1∧i=0)∨(n=2∧(i=0∨i=1))∨(n=3∧(i=0∨i=1∨i=2))∨(n=4∧(i=0∨i=1∨i=2∨i=3)):=by omega
 rcases h with ⟨rfl,rfl⟩| ⟨rfl,rfl|rfl⟩| ⟨rfl,rfl|rfl|rfl⟩| ⟨rfl,rfl|rfl|rfl|rfl⟩<;>rfl
def qz(a b:Int)(l:List bZ):Bool:=l.any fun x=>(decide (x.a=a)&&decide (x.b=b))&& !x.same
def nO(p:Nat→Int)(l:List bZ):Bool:=l.all fun x=> !x.same||decide (p x.a.toNat=x.b+1)
theorem Yr{on:Int}{a b:Int}:∀ {l:List bZ} {k:Nat},(∀j,j <l.length→hasB on ((k+j:Nat):Int)=true)→yq on a b l k=qz a b l
 | [],_,_=>rfl
 |x::l,k,h=>by
  have h0:=h 0 (Nat.zero_lt_succ _)
  have ih:=Yr (a:=a) (b:=b) (l:=l) (k:=k+1) fun j hj=>by
   have:=h (j+1) (Nat.succ_lt_succ hj)
   rwa[show k+1+j=k+(j+1) by omega]
  simp only[Nat.add_zero] at h0
  simp only[yq,h0,ih,qz,List.any_cons,Bool.true_and]
theorem Lr{on:Int}{p:Nat→Int}:∀ {l:List bZ} {k:Nat},(∀j,j <l.length→hasB on ((k+j:Nat):Int)=true)→lO on p l k=nO p l
 | [],_,_=>rfl
 |x::l,k,h=>by
  have h0:=h 0 (Nat.zero_lt_succ _)
  have ih:=Lr (p:=p) (l:=l) (k:=k+1) fun j hj=>by
   have:=h (j+1) (Nat.succ_lt_succ hj)
   rwa[show k+1+j=k+(j+1) by omega]
  simp only[Nat.add_zero] at h0
  simp only[lO,h0,ih,nO,List.all_cons,Bool.true_and]
  cases x.same<;>cases decide (p x.a.toNat=x.b+1)<;>simp
def gu(F:Nat→Nat→Bool)(R:(Nat→Int)→Bool)(na:Nat):Nat→Nat→(Nat→Int)→List (Nat→Int)
 |0,_,p=>bif R p then [p] else []
 |n+1,a,p=>gu F R na n (a+1) p++(List.range na).flatMap fun b=>bif !F a b||qP p a ((b:Int)+1) then [] else gu F R na n (a+1) (iq p a ((b:Int)+1))
def pM(K:aB)(a b:Nat):Bool:=match K.before[a]?,K.after[b]? with
 |some x,some y=> !jz K x y&&(!kG K x y&& !qz a b K.facts)
 |_,_=>false
theorem apF(h:K.facts.length≤4)(a b:Nat):dv K (aF K) a b=pM K a b:=by
 have e:yq (aF K) a b K.facts 0=qz a b K.facts:=Yr fun j hj=>by
  rw[Nat.zero_add];exact ZQ h hj
 simp only[dv,pM,e]
 cases K.before[a]?<;>cases K.after[b]?<;>rfl
theorem oW(h:K.facts.length≤4):∀(n a:Nat) (p:Nat→Int),iJ K (aF K) n a p=gu (pM K) (fun p=>nO p K.facts) K.after.length n a p
 |0,a,p=>by
  have e:lO (aF K) p K.facts 0=nO p K.facts:=Lr fun j hj=>by
   rw[Nat.zero_add];exact ZQ h hj
  simp only[iJ,gu,e]
 |n+1,a,p=>by
  simp only[iJ,gu,apF h,oW h n]
theorem qT{R:(Nat→Int)→Bool}:∀(n a:Nat) (p q:Nat→Int),q∈gu F R na n a p→∀c,c <a→q c=p c
 |0,_,p,q,h,c,_=>by
  simp only[gu] at h
  cases hr:R p
  ·rw[hr] at h;simp at h
  rw[hr] at h;simp at h;rw[h]
 |n+1,a,p,q,h,c,hc=>by
  simp only[gu,List.mem_append,List.mem_flatMap] at h
  rcases h with h| ⟨b,_,h⟩
  ·exact qT n _ _ _ h c (by omega)
  cases hx: !F a b||qP p a ((b:Int)+1)
  ·rw[hx] at h
   rw[qT n _ _ _ h c (by omega)]
   simp only[iq]
   rw[if_neg (by omega)]
  rw[hx] at h;simp at h
theorem kN{r:bI}(hq:q <4):pI (cu K r i p) q=p q:=by
 rcases AO hq with rfl|rfl|rfl|rfl<;>rfl
noncomputable def sR(K:aB):fe:=aD (cX K (aF K) (cm K.gone K.new K.af) (cK K))
theorem IK{p:Int→Bool}:∀(l:List Int) (k:Nat),cw p l k≥0↔∃x∈l,p x=true
 | [],k=>by simp[cw]
 |x::l,k=>by
  have ih:=IK (p:=p) l (k+1)
  simp only[cw,List.mem_cons,exists_eq_or_imp]
  cases h:p x
  ·simp only[cond_false,Bool.false_eq_true,false_or];exact ih
  simp only[cond_true,true_or,iff_true];omega
theorem Yf(p:Nat→Int){a:Nat}(ha:a≤4)(v:Int):v∈(pL p).take a↔∃c,c <a∧p c=v:=by
 have h:a=0∨a=1∨a=2∨a=3∨a=4:=by omega
 constructor
 ·intro hv
  rcases h with rfl|rfl|rfl|rfl|rfl<;>simp[pL] at hv
  ·exact⟨0,by omega,hv.symm⟩
  ·rcases hv with h|h;exact⟨0,by omega,h.symm⟩;exact⟨1,by omega,h.symm⟩
  ·rcases hv with h|h|h;exact⟨0,by omega,h.symm⟩;exact⟨1,by omega,h.symm⟩;exact⟨2,by omega,h.symm⟩
  rcases hv with h|h|h|h;exact⟨0,by omega,h.symm⟩;exact⟨1,by omega,h.symm⟩;exact⟨2,by omega,h.symm⟩;exact⟨3,by omega,h.symm⟩
 rintro⟨c,hc,rfl⟩
 have hc4:c=0∨c=1∨c=2∨c=3:=by omega
 rcases h with rfl|rfl|rfl|rfl|rfl<;>rcases hc4 with rfl|rfl|rfl|rfl<;>first|omega|simp[pL]
theorem SO{a:Nat}{v:Int}(ha:a≤4):qP p a v=true↔∃c,c <a∧p c=v:=by
 simp only[qP,decide_eq_true_eq]
 rw[IK]
 constructor
 ·rintro⟨x,hx,h⟩
  obtain⟨c,hc,e⟩:=(Yf p ha x).1 hx
  exact⟨c,hc,by rw[e];exact(of_decide_eq_true h).symm⟩
 rintro⟨c,hc,e⟩
 exact⟨v,(Yf p ha v).2 ⟨c,hc,e⟩,decide_eq_true rfl⟩
theorem tA{R:(Nat→Int)→Bool}:∀(n a:Nat) (p q:Nat→Int),a+n≤4→(q∈gu F R na n a p↔(∀c,c <a∨a+n≤c→q c=p c)∧(∀c,a≤c→c <a+n→q c=p c∨∃b,b <na∧F c b=true∧q c=(b:Int)+1∧∀d,d <c→q d≠(b:Int)+1)∧R q=true)
 |0,a,p,q,_=>by
  simp only[gu,Nat.add_zero]
  constructor
  ·intro h
   cases hr:R p
   ·rw[hr] at h;simp at h
   rw[hr] at h;simp at h;subst h;exact⟨fun _ _=>rfl,fun c h1 h2=>by omega,hr⟩
  rintro⟨h1,_,h3⟩
  have e:q=p:=funext fun c=>h1 c (by omega)
  subst e
  rw[h3];simp
 |n+1,a,p,q,han=>by
  simp only[gu,List.mem_append,List.mem_flatMap,List.mem_range]
  constructor
  ·rintro(h| ⟨b,hb,h⟩)
   ·obtain⟨h1,h2,h3⟩:=(tA n (a+1) p q (by omega)).1 h
    refine⟨fun c hc=>h1 c (by omega),fun c hc1 SM=>?_,h3⟩
    by_cases e:c=a
    ·exact .inl (h1 c (by omega))
    exact h2 c (by omega) (by omega)
   cases hx: !F a b||qP p a ((b:Int)+1)
   ·rw[hx] at h
    simp only[cond_false] at h
    obtain⟨h1,h2,h3⟩:=(tA n (a+1) _ q (by omega)).1 h
    simp only[Bool.or_eq_false_iff,Bool.not_eq_false'] at hx
    have hp:∀c,c≠a→iq p a ((b:Int)+1) c=p c:=fun c hc=>by simp[iq,hc]
    refine⟨fun c hc=>by rw[h1 c (by omega),hp c (by omega)],fun c hc1 SM=>?_,h3⟩
    by_cases e:c=a
    ·subst e
     have hq:q c=(b:Int)+1:=by rw[h1 c (by omega)];simp[iq]
     refine .inr ⟨b,hb,hx.1,hq,fun d hd hqd=>?_⟩
     have:qP p c ((b:Int)+1)=true:=(SO (by omega)).2 ⟨d,hd,by rw[←hqd,h1 d (by omega),hp d (by omega)]⟩
     rw[hx.2] at this;cases this
    rcases h2 c (by omega) (by omega) with h|h
    ·exact .inl (by rw[h,hp c e])
    exact .inr h
   rw[hx] at h;simp at h
  rintro⟨h1,h2,h3⟩
  rcases h2 a (Nat.le_refl _) (by omega) with he| ⟨b,hb,hF,hq,hd⟩
  ·left
   exact(tA n (a+1) p q (by omega)).2 ⟨fun c hc=>by
    by_cases e:c=a
    ·rw[e];exact he
    exact h1 c (by omega),fun c hc1 SM=>h2 c (by omega) (by omega),h3⟩
  right
  refine⟨b,hb,?_⟩
  have hx:(!F a b||qP p a ((b:Int)+1))=false:=by
   cases hh:qP p a ((b:Int)+1)
   ·simp[hF]
   obtain⟨c,hc,e⟩:=(SO (by omega)).1 hh
   exact absurd (by rw[h1 c (by omega),e]) (hd c hc)
  rw[hx]
  simp only[cond_false]
  refine(tA n (a+1) _ q (by omega)).2 ⟨fun c hc=>?_,fun c hc1 SM=>?_,h3⟩
  ·by_cases e:c=a
   ·rw[e,hq];simp[iq]
   rw[h1 c (by omega)];simp[iq,e]
  have:iq p a ((b:Int)+1) c=p c:=by simp[iq,show c≠a by omega]
  rw[this]
  exact h2 c (by omega) (by omega)
theorem fX(h:K.facts.length≤4)(hb:K.before.length≤4){q:Nat→Int}:q∈aK K (aF K)↔(∀c,q c=0∨(c <K.before.length∧∃b,b <K.after.length∧pM K c b=true∧q c=(b:Int)+1))∧(∀c d,d <c→q c=q d→q c=0)∧nO q K.facts=true:=by
 rw[aK,oW h,tA _ _ _ _ (by omega)]
 constructor
 ·rintro⟨h1,h2,h3⟩
  have key:∀c,q c=0∨(c <K.before.length∧∃b,b <K.after.length∧pM K c b=true∧q c=(b:Int)+1∧∀d,d <c→q d≠(b:Int)+1):=fun c=>by
   by_cases hc:c <K.before.length
   ·rcases h2 c (Nat.zero_le _) (by omega) with e| ⟨b,h⟩
    ·exact .inl e
    exact .inr ⟨hc,b,h⟩
   exact .inl (h1 c (.inr (by omega)))
  refine⟨fun c=>?_,fun c d hd e=>?_,h3⟩
  ·rcases key c with e| ⟨hc,b,hb1,fT,hb3,_⟩
   ·exact .inl e
   exact .inr ⟨hc,b,hb1,fT,hb3⟩
  rcases key c with e2| ⟨hc,b,_,_,hq,dR⟩
  ·exact e2
  exact absurd (by rw[←e,hq]) (dR d hd)
 rintro⟨h1,h2,h3⟩
 refine⟨fun c hc=>?_,fun c _ hc=>?_,h3⟩
 ·rcases h1 c with e| ⟨SM,_⟩
  ·exact e
  omega
 rcases h1 c with e| ⟨_,b,hb1,fT,hq⟩
 ·exact .inl e
 refine .inr ⟨b,hb1,fT,hq,fun d hd e=>?_⟩
 have:=h2 c d hd (by rw[hq,e])
 omega
theorem xf{R:(Nat→Int)→Bool}:∀(n a:Nat) (p:Nat→Int),(∀c,a≤c→p c=0)→(gu F R na n a p).Nodup
 |0,_,p,_=>by
  simp only[gu]
  cases R p<;>simp
 |n+1,a,p,hp=>by
  simp only[gu]
  have h0:∀c,a+1≤c→p c=0:=fun c hc=>hp c (by omega)
  have hb:∀b:Nat,∀c,a+1≤c→iq p a ((b:Int)+1) c=0:=fun b c hc=>by
   simp[iq,show c≠a by omega,hp c (by omega)]
  have val:∀b q,q∈(bif !F a b||qP p a ((b:Int)+1) then [] else gu F R na n (a+1) (iq p a ((b:Int)+1)))→q a=(b:Int)+1:=fun b q h=>by
   cases hx: !F a b||qP p a ((b:Int)+1)
   ·rw[hx] at h
    simp only[cond_false] at h
    rw[qT n _ _ _ h a (by omega)];simp[iq]
   rw[hx] at h;simp at h
  refine List.nodup_append.2 ⟨xf n _ _ h0,?_,fun q hq q' FU e=>?_⟩
  ·refine List.pairwise_flatMap.2 ⟨fun b _=>?_,?_⟩
   ·cases !F a b||qP p a ((b:Int)+1)
    ·exact xf n _ _ (hb b)
    simp
   refine List.nodup_range.imp fun {b b'} Ij x hx y hy e=>?_
   have h1:=val b x hx
   have h2:=val b' y hy
   rw[e] at h1
   omega
  obtain⟨b,_,h⟩:=List.mem_flatMap.1 FU
  have h1:=val b q' h
  have h2:=qT n _ _ _ hq a (by omega)
  rw[hp a (Nat.le_refl _),e] at h2
  omega
theorem Rn(h:K.facts.length≤4):(aK K (aF K)).Nodup:=by
 rw[aK,oW h]
 exact xf _ _ _ fun _ _=>rfl
theorem yI{f:α→β}:∀ {l:List α} {m:List β},l.Nodup→(∀x∈l,f x∈m)→(∀x∈l,∀y∈l,f x=f y→x=y)→l.length≤m.length
 | [],_,_,_,_=>Nat.zero_le _
 |x::l,m,hn,hm,hi=>by
  obtain⟨m1,m2,rfl⟩:=List.append_of_mem (hm x List.mem_cons_self)
  have hn':=List.nodup_cons.1 hn
  have:=yI (f:=f) (l:=l) (m:=m1++m2) hn'.2 (fun y hy=>by
   have h1:=hm y (List.mem_cons_of_mem _ hy)
   simp only[List.mem_append,List.mem_cons] at h1 ⊢
   rcases h1 with h|h|h
   ·exact .inl h
   ·exact absurd (hi y (List.mem_cons_of_mem _ hy) x List.mem_cons_self h) (fun e=>hn'.1 (e▸hy))
   exact .inr h) (fun a ha b hb=>hi a (List.mem_cons_of_mem _ ha) b (List.mem_cons_of_mem _ hb))
  simp only[List.length_cons,List.length_append] at this ⊢
  omega
theorem imp_or{a b:Prop}[Decidable a](h:a→b):¬a∨b:=Decidable.byCases (fun ha=> .inr (h ha)) .inl
def me(n m:Int):Int:=if n=m then 1 else if n=0 then 2 else 3
theorem aEI{m:Int}:dK zT 53 [zI n,zI m] ro (zI (me n m)):=by
 refine zE<|zD 16<|zJ 6 (n=m) (fun h1=>?_) fun h1=>?_
 ·
  refine zD 6<|zX (zI 1) ⟨by rw[me,if_pos (by omega)],rfl⟩
 refine zD 6<|zJ 9 (n=0) (fun h2=>?_) fun h2=>?_
 ·
  refine zD 6<|zX (zI 2) ⟨by rw[me,if_neg (by omega),if_pos (by omega)],rfl⟩
 refine zD 7<|zX (zI 3) ⟨by rw[me,if_neg (by omega),if_neg (by omega)],rfl⟩
end Go.L
