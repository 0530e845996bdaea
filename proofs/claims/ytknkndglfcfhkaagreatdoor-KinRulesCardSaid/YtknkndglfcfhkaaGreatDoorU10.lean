/- Part 10 of the proof. -/
import Derived.Test.YtknkndglfcfhkaaGreatDoorU9
set_option maxRecDepth 100000
set_option linter.all false
namespace Go.L
open Go Go.Conc Go.Proofs
variable {ro:Nat→Option Obj} {l z z1:List Value} {K:aC} {ys xs:List Int} {n x f j y b:Int} {ways:List (List aN)} {T R:Nat→Nat→Int} {i k ck fc q bB sz r dep by1 fn fd:Nat} {κ α β:Type} {seen:List Nat} {fs:List cY} {p:Nat→Int} {vS vT v0 v1 v3 v5 v6 v7 vb:Value} {hd:List cm} {ag:Bool}
theorem Fy{S:List (List ah)}(hW:xZ ways):(da S ways).length≤3:=by
 match ways,hW with
 | [],_=>simp[da]
 |l::_,hW=>
  have:=(hW.ok l (by simp)).1.2
  simpa [da] using this
theorem ahY{fa:Option Addr}{S:List (List ah)}(hS:cS ro vS S)(hO:eQ S)(hT:nF ro vT ways)(hW:xZ ways):FnG zT 100 [.agg ⟨[vS,vT,.slice fa 0 fc]⟩] ro [] (fun r aH Y=>∃b vl ts Lt Z,r= .tuple ⟨[zP b,vl,zI 0]⟩∧Jh aH b S ways∧Y=Lt++Z∧ay vl 3 199 aiA ts Lt∧ts.length=(da S ways).length∧∀aI,Knows aI Z→dq (TrR (bF S) aI) ts (da S ways)):=by
 have xP:=hS
 obtain⟨gR,hs,e8⟩:=hS
 obtain⟨lX,TA,Ty,kX,rfl,Tz,Mp,Mo⟩:=hs
 obtain⟨iF,ht,eT⟩:=id hT
 obtain⟨eO,Ac,Aa,dP,rfl,Ab,rR,rQ⟩:=ht
 have Iq:=e8.len
 have Ei:=eT.len
 have I0:=hO.two
 have Az:=hW.one
 have Ot:∀(i:Nat) (p:c8),([]:List c8)[i]?=some p→cv ⟨ro,[]⟩ 0 (0+i*6) 6 (mB p):=fun _ _ h=>n6 h
 refine aBT (hm:=au) [] [] bn<|zD 2<|jn fun b1=>jd 7 [0]<|jc (vs:=[.agg ⟨[.slice lX gR.length kX,.slice eO iF.length dP,.slice fa 0 fc]⟩]) [] (aww xP hO hT hW) ?_
 rintro _ _ ⟨SI,ay5,aGi,rfl,rfl,auE⟩
 refine jg 0 [.b SI (.cells ⟨[.slice lX gR.length kX,.slice eO iF.length dP,.slice fa 0 fc,ay5]⟩ 195 (0,0)),.l aGi]<|zD 5<|jf [0,1] ((SI,.cells ⟨[.slice lX gR.length kX,.slice eO iF.length dP,.slice fa 0 fc,ay5]⟩ 195 (0,0))::aGi) (fun za bX iI=>?_)
 have Iv:Jh za SI S ways:=⟨_,_,_,_,_,iI _ (.head _),xP.up bX,hT.up bX,auE.kQ (Knows.tail iI)⟩
 refine zD 10 ?_
 have hLn:(da S ways).length≤3:=Fy hW
 refine zD 1<|jn fun b7=>zD 5<|jc (vs:=[zP SI]) [] (ahS) ?_
 rintro _ _ ⟨apr,rfl,rfl⟩
 refine jg 0 [.b apr (.cells ⟨[zP SI]⟩ 190 (0,0))]<|jf [0] [(apr,.cells ⟨[zP SI]⟩ 190 (0,0))] fun ro6 j5 XP=>zD 2<|oR<|oR<|jrf [] (aaT (XP _ (.head _)) (Iv.up j5) hO hW) (by rintro _ _ _ _ ⟨_,_,_,rfl,_⟩;rfl) (fun(zz:Value×Cells×(List VL)×Cells)=>[.b b7 (.cells ⟨[zz.1]⟩ 191 (0,0)),.l zz.2.1,.l zz.2.2.2]) (fun kk=>(fun(zz:Value×Cells×(List VL)×Cells)=>ay zz.1 3 199 aiA zz.2.2.1 zz.2.1∧zz.2.2.1.length=kk∧(∀aI,Knows aI zz.2.2.2→dq (TrR (bF S) aI) zz.2.2.1 ((da S ways).take kk))∧(da S ways).length≤3)) (fun jump=>(fun(zz:Value×Cells×(List VL)×Cells)=>False)) (⟨zS,[],[],[]⟩) ⟨ay.nil _ _ _,rfl,fun _ _=> .nil,hLn⟩ [2,0,1] ?_ ?_ ?_
 ·
  rintro bl7 bd7 kk7 vs7 LL7 ⟨vl,Lt,ts,Z⟩ ro7 hk7 aOe hI rF
  obtain⟨x7,t7,hx7,rfl,hR7⟩:=aOe
  dsimp only at hI
  have bV:=(List.getElem?_eq_some_iff.1 hx7).1
  refine zD 1<|jn fun b8=>jd 2 [0]<|aBW<|jd 4 [2,0]<|jn fun Oa=>iC (sz:=3) (ps:=ts) (qs:=[(⟨t7.a,t7.n,t7.c,t7.ea,t7.en,t7.ec,t7.r⟩:VL)]) (enc:=aiA) (w:= .slice (some ⟨Oa,0,none⟩) 1 1) [4] [0] [(Oa,.cells ⟨([(⟨t7.a,t7.n,t7.c,t7.ea,t7.en,t7.ec,t7.r⟩:VL)].map aiA).flatten⟩ 199 (0,0))] (hI.1) (fun s _ hZ=>bN [(⟨t7.a,t7.n,t7.c,t7.ea,t7.en,t7.ec,t7.r⟩:VL)] (hZ _ (.head _)) (by intro p hp;rfl)) (fun p _=>ai rfl) (by simp only[List.length_cons,List.length_nil];omega) (fun v23 L23 yK=>?_)
  obtain⟨aJl,aI1,avu⟩:=yK.form
  subst avu
  refine jd 2 [4]<|jyn ZF (Sub.refl _) ⟨(.slice aJl ((ts++[(⟨t7.a,t7.n,t7.c,t7.ea,t7.en,t7.ec,t7.r⟩:VL)])).length aI1),L23,(ts++[(⟨t7.a,t7.n,t7.c,t7.ea,t7.en,t7.ec,t7.r⟩:VL)]),LL7++Z⟩ ⟨yK,by simp only[zM];omega,fun aI hk=>py (hI.2.2.1 aI (Knows.right hk)) hx7 (hR7 aI (Knows.left hk)),hI.2.2.2⟩ [3,4,0,6,5]
 ·
  rintro bd7 ⟨vl,Lt,ts,Z⟩ Z7 hI hZ7
  dsimp only at hI
  subst hZ7
  refine jd 9 [2]<|aLF qm0.a.a.m (.tuple ⟨[zP SI,vl,zI 0]⟩) [0] [] [2,3] (Lt++Z) (Sub.refl _) ⟨_,_,_,rfl,rfl,(bX.trans j5),SI,vl,ts,Lt,Z,rfl,Iv.up j5,rfl,hI.1,hI.2.1,by have:=hI.2.2.1;rwa[List.take_of_length_le (Nat.le_refl _)] at this⟩
 rintro bd7 ⟨vl,Lt,ts,Z⟩ Z7 jump hS hZ7
 exact hS.elim
def wv(t:VL):Value:= .slice t.a t.n t.c
theorem dq.maps{γ δ:Type}{R:α→β→Prop}{T:γ→δ→Prop}{f:α→γ}{g:β→δ}(h:∀a b,R a b→T (f a) (g b)):∀ {l:List α} {m:List β},dq R l m→dq T (l.map f) (m.map g)
 | [],[],.nil=> .nil
 |_::_,_::_,.cons h1 h2=> .cons (h _ _ h1) (dq.maps h h2)
theorem ZM{y:an}{l:List an}(h:y∈l):cb (oO y.h y.n y.l) l 0≥0:=by
 have key:∀(l:List an) (k:Nat),y∈l→cb (oO y.h y.n y.l) l k≥0:=by
  intro l
  induction l with
  |nil=>intro k h;cases h
  |cons x l ih=>
   intro k h
   simp only[cb]
   cases hx:oO y.h y.n y.l x with
   |true=>simp
   |false=>
    simp only[cond_false]
    rcases List.mem_cons.1 h with rfl|h
    ·simp[oO] at hx
    exact ih _ h
 exact key l 0 h
theorem anB{fa:Option Addr}{S:List (List ah)}(hS:cS ro vS S)(hO:eQ S)(hT:nF ro vT ways)(hW:xZ ways):dR zT 95 [.agg ⟨[vS,vT,.slice fa 0 fc]⟩] ro [] (fun r Y=>∃a n c,r= .tuple ⟨[.slice a n c,zI 0]⟩∧n=((da S ways).map (·.ways)).length∧∀kU,Knows kU Y→ajl kU (.slice a n c) ((da S ways).map (·.ways))):=by
 have xP:=hS
 obtain⟨gR,hs,e8⟩:=hS
 obtain⟨lX,TA,Ty,kX,rfl,Tz,Mp,Mo⟩:=hs
 obtain⟨iF,ht,eT⟩:=id hT
 obtain⟨eO,Ac,Aa,dP,rfl,Ab,rR,rQ⟩:=ht
 have Iq:=e8.len
 have Ei:=eT.len
 have I0:=hO.two
 have Az:=hW.one
 have Ot:∀(i:Nat) (p:c8),([]:List c8)[i]?=some p→cv ⟨ro,[]⟩ 0 (0+i*6) 6 (mB p):=fun _ _ h=>n6 h
 have hLn:=Fy (S:=S) hW
 refine zE<|zD 2<|jn fun b1=>jd 6 [0]<|jcG (vs:=[.agg ⟨[.slice lX gR.length kX,.slice eO iF.length dP,.slice fa 0 fc]⟩]) [] (ahY xP hO hT hW) ?_
 rintro _ aH _ bX ⟨wz,vl,ts,Lt,Z,rfl,Iv,rfl,hL,htl,hA⟩
 obtain⟨uS,uT,uH,ua,uc,gb,_,_,hh⟩:=Iv
 obtain⟨dG,uD,uC,dr,rfl,wP,qB,qA⟩:=hh
 obtain⟨aJn,aI3,aOs⟩:=hL.form
 subst aOs
 refine jg 0 [.l Lt,.l Z]<|zD 28<|oR<|dS [1,1,1,1,0,1,0,0] [] (fun(zz:Nat×Value×Cells)=>[(2,zS),(3,zI 0),(7,zz.2.1),(19,(.slice aJn ts.length aI3)),(20,zI (ts.length:Int)),(21,zI (zz.1:Int))]) (fun zz=>[.l zz.2.2,.l Lt,.l Z,.b b1 (.cells ⟨[.slice lX gR.length kX,.slice eO iF.length dP,.slice fa 0 fc]⟩ 31 (0,0))]) (fun zz=>zz.1≤ts.length∧ay zz.2.1 1 22 gv ((ts.take zz.1).map wv) zz.2.2) (fun zz=>ts.length-zz.1) (⟨0,zS,[]⟩) ⟨by dsimp only;omega,ay.nil _ _ _⟩ (zN 0 4) ?_
 rintro⟨k,vO,LO⟩ hI K1 bL rest
 dsimp only at hI
 refine zD 5<|zJ 22 ((k:Int) <(ts.length:Int)) (fun h2=>?_) fun h2=>?_
 ·
  refine zD 6 ?_
  obtain⟨uP,sJ⟩:=zG ts k
  refine jxo 3 hL sJ fun b23 aPf=>oH 0 [1] Lt (fun s _ hZ=>cw hL aPf hZ sJ)<|jn fun b9=>jd 6 [0,0]<|jn fun b28=>iC (sz:=1) (ps:=((ts.take k).map wv)) (qs:=[(.slice uP.a uP.n uP.c:Value)]) (enc:=gv) (w:= .slice (some ⟨b28,0,none⟩) 1 1) [2] [0] [(b28,.cells ⟨([(.slice uP.a uP.n uP.c:Value)].map gv).flatten⟩ 22 (0,0))] (hI.2) (fun s _ hZ=>bN [(.slice uP.a uP.n uP.c:Value)] (hZ _ (.head _)) (by intro p hp;rfl)) (by intro p hp;rw[List.mem_singleton] at hp;subst hp;exact ai rfl) (by simp only[List.length_map,List.length_take,List.length_cons,List.length_nil];omega) (fun v29 L29 GZ=>?_)
  obtain⟨acy,acr,agJ⟩:=GZ.form
  subst agJ
  refine zD 3<|ja ((k:Int)+1) (by omega)<|zD 2<|bJ bL (⟨k+1,(.slice acy ((((ts.take k).map wv)++[(.slice uP.a uP.n uP.c:Value)])).length acr),L29⟩) ⟨by dsimp only;omega,by rw[ee sJ,List.map_append];exact GZ⟩ (by dsimp only;omega) [0,3,4,5] (Sub.refl _)
 refine zD 3 ?_
 obtain⟨va3,vc3,he3⟩:=hI.2.form
 subst he3
 refine zD 6<|aM q0.a (.tuple ⟨[(.slice va3 (((ts.take k).map wv)).length vc3),zI 0]⟩) [] [0,2] (LO++Z) bX ⟨_,_,rfl,rfl,_,_,_,rfl,by simp only[List.length_map,List.length_take];omega,fun kU hk=>⟨_,hI.2.kQ (Knows.left hk),by rw[List.take_of_length_le (by omega)];exact(hA kU (Knows.right hk)).maps fun _ _ h=>h.1⟩⟩
theorem awo{fa:Option Addr}{S:List (List ah)}{y:an}{x:TrD}(hS:cS ro vS S)(hO:eQ S)(hT:nF ro vT ways)(hW:xZ ways)(hy:y∈bF S)(hLx:da S ways=[x]):dR zT 72 [.agg ⟨[vS,vT,.slice fa 0 fc]⟩,.agg ⟨[zI y.h,zI y.n,zI y.l]⟩] ro [] (fun r Y=>∃a n c,r= .tuple ⟨[.slice a n c,zI 0]⟩∧∀kU,Knows kU Y→bI kU (.slice a n c) 3 cH [x.g y]):=by
 have xP:=hS
 obtain⟨gR,hs,e8⟩:=hS
 obtain⟨lX,TA,Ty,kX,rfl,Tz,Mp,Mo⟩:=hs
 obtain⟨iF,ht,eT⟩:=id hT
 obtain⟨eO,Ac,Aa,dP,rfl,Ab,rR,rQ⟩:=ht
 have Iq:=e8.len
 have Ei:=eT.len
 have I0:=hO.two
 have Az:=hW.one
 have Ot:∀(i:Nat) (p:c8),([]:List c8)[i]?=some p→cv ⟨ro,[]⟩ 0 (0+i*6) 6 (mB p):=fun _ _ h=>n6 h
 have hhl:=tQ hO
 have hph:=ZM hy
 have Bh:(da S ways).length=1:=by rw[hLx];rfl
 refine zE<|zD 2<|jn fun b2=>jn fun b3=>jd 6 [1]<|jcG (vs:=[.agg ⟨[.slice lX gR.length kX,.slice eO iF.length dP,.slice fa 0 fc]⟩]) [] (ahY xP hO hT hW) ?_
 rintro _ aH _ bX ⟨YE,vl,ts,Lt,Z,rfl,Iv,rfl,hL,htl,hA⟩
 obtain⟨uS,uT,uH,ua,uc,gb,_,_,hh⟩:=Iv
 obtain⟨dG,uD,uC,dr,rfl,wP,qB,qA⟩:=hh
 obtain⟨Fu,DU,uJ⟩:=hL.form
 subst uJ
 refine jg 0 [.l Lt,.l Z]<|zD 22<|jl (b:=YE) (off:=0) (m:=4) (vs:=[uS,uT,.slice ua 0 uc,.slice dG ((bF S).length) dr]) 3 ⟨_,_,_,.inl gb,rfl⟩<|jd 1 [2]<|jp (vs:=[.slice dG ((bF S).length) dr,.agg ⟨[zI y.h,zI y.n,zI y.l]⟩]) [] [] (fun aH hs hZ=>Kx ((show bI _ _ _ _ _ from ⟨dG,uD,uC,dr,rfl,wP,qB,qA⟩).up hs) (by omega))<|zD 2<|js 27 (!(decide (cb (oO y.h y.n y.l) (bF S) 0≥0))) (fun h2=>?_) (fun h2=>?_)
 ·
  exfalso;simp_all
 refine zD 9<|zJ 30 ((ts.length:Int)=0) (fun h3=>?_) fun h3=>?_
 ·
  exfalso;omega
 refine zD 5<|jf [0,1] (Lt++Z) (fun ro6 j5 XP=>?_)
 have hLs:=hL.kQ (Knows.left XP)
 have hAs:=hA _ (Knows.right XP)
 obtain⟨kH,Ik,Ij,kG,Su,Ou,FW,FV⟩:=hLs
 simp only[Value.slice.injEq] at Su
 obtain⟨rfl,_,rfl⟩:=Su
 refine zD 9<|oR<|dS [1,1,1,1,1,1,0,1,0,0] [] (fun(zz:Nat×Value×Cells)=>[(3,zP b3),(4,zS),(5,zI 0),(9,zz.2.1),(31,.slice Fu ts.length DU),(32,zI (ts.length:Int)),(33,zI (zz.1:Int))]) (fun zz=>[.l zz.2.2,.b b3 (.cells ⟨[zI y.h,zI y.n,zI y.l]⟩ 158 (0,0)),.b b2 (.cells ⟨[.slice lX gR.length kX,.slice eO iF.length dP,.slice fa 0 fc]⟩ 31 (0,0))]) (fun zz=>zz.1≤ts.length∧ay zz.2.1 3 158 cH ([x.g y].take zz.1) zz.2.2) (fun zz=>ts.length-zz.1) (⟨0,zS,[]⟩) ⟨by dsimp only;omega,ay.nil _ _ _⟩ [0,1,2] ?_
 rintro⟨k,vO,LO⟩ hI K1 bL rest
 dsimp only at hI
 refine zD 5<|zJ 34 ((k:Int) <(ts.length:Int)) (fun h7=>?_) fun h7=>?_
 ·
  refine zD 6 ?_
  obtain⟨x35,Un⟩:=zG ts k
  refine iB DU 3 FW Un<|jl 0 (FV _ _ Un)<|jn fun SI=>jd 2 [0] ?_
  obtain⟨q35,aCB,_,baN,baQ,F35,aNC,aP1,aNO,aMv⟩:=hAs.get Un
  obtain⟨hqe,hk0⟩:=Gh (by rw[hLx] at aCB;exact aCB)
  replace hqe:=hqe.symm
  subst hqe
  refine jd 5 [0,2]<|jlu (kv:=oF) (F:=F35) (r:=x35.r) (K:=158) y (zS) false [] [] Dp (fun s he _=>⟨_,_,he _ _ (.inl aNC),aP1⟩) ?_
  obtain⟨w41,aMm,aNA⟩:=Xf (k:=y) (F:=F35) (aNO y hy)
  have hww:bI _ w41 3 cH [x.g y]:=aMv _ aNA
  obtain⟨Tx,qwb,qwo,Mk,rfl,qwk,qwh,qwl⟩:=hww
  refine jw 41 (.slice Tx ([x.g y].length) Mk) (show Qn (zS) false y F35=_ from by simp only[Qn,aMm];rfl) ?_
  refine iC (sz:=3) (ps:=([x.g y].take k)) (qs:=[x.g y]) (enc:=cH) (w:= .slice Tx ([x.g y].length) Mk) [1] [] [] (hI.2) (fun s he _=>⟨Tx,qwb,qwo,Mk,rfl,qwh,fun i p hp=>(qwl i p hp).ext he⟩) (fun p _=>ai rfl) (by simp only[List.length_take,List.length_cons,List.length_nil];omega) (fun v42 L42 af2=>?_)
  obtain⟨aJf,aIV,aOn⟩:=af2.form
  subst aOn
  refine zD 3<|ja ((k:Int)+1) (by omega)<|zD 2<|bJ bL (⟨k+1,(.slice aJf ((([x.g y].take k)++[x.g y])).length aIV),L42⟩) ⟨by dsimp only;omega,by have:=af2;rw[hk0] at this ⊢;exact this⟩ (by dsimp only;omega) [0,2,3] (Sub.refl _)
 refine zD 5<|OA (vs:=[vO]) [] [0] LO (fun aH hs hZ=>X9 (hI.2.kQ hZ) (by simp only[List.length_take,List.length_cons,List.length_nil];omega)) ?_
 rintro v45 L45 aCN
 obtain⟨arl,ara,avq⟩:=aCN.form
 subst avq
 refine zD 4<|aM q0.a.a (.tuple ⟨[(.slice arl (([x.g y].take k)).length ara),zI 0]⟩) [] [0] L45 (bX.trans j5) ⟨_,_,rfl,rfl,_,_,_,rfl,fun kU hk=>by have:=aCN.kQ hk;have e: [x.g y].take k=[x.g y]:=List.take_of_length_le (by simp only[List.length_cons,List.length_nil];omega);simpa only[e] using this⟩
def TN(S:List (List ah))(ways:List (List aN))(w:List Int)(x:aA):List an:=match ways,w with
 |l::_,i::_=>(match l[i.toNat]? with
  |some c=>[yA S c ⟨x.st,x.no,0⟩]
  |none=>[])
 |_,_=>[⟨x.st,x.no,0⟩]
def WW(K:aC):List (List Int):=(da K.str K.ways).map (·.ways)
theorem VK{l:List aN}{w:List Int}(h:K.ways=[l])(hw:w∈WW K):∃(i:Nat) (c:aN),l[i]?=some c∧w=[(i:Int)]:=by
 simp only[WW,h,da,List.map_map,List.mem_map,List.mem_range,Function.comp,arA] at hw
 obtain⟨i,hi,rfl⟩:=hw
 exact⟨i,l[i],List.getElem?_eq_getElem hi,rfl⟩
theorem ju.wp(h:ju K):xZ K.ways:=⟨h.ways.1,fun l hl=>⟨⟨(h.ways.2 l hl).1.1,by have:=(h.ways.2 l hl).1.2;omega⟩,(h.ways.2 l hl).2⟩⟩
theorem WS(h:ju K):K.ways=[]∨∃l,K.ways=[l]:=by
 have:=h.ways.1
 match hw:K.ways,this with
 | [],_=>exact .inl rfl
 | [l],_=>exact .inr ⟨l,rfl⟩
theorem acf(h:ju K):VJ K (WW K):=by
 rcases WS h with e| ⟨l,e⟩
 ·exact⟨by simp[WW,e,da],fun w hw=>by simp[WW,e,da] at hw;simp[hw,e],fun w hw k l n hl=>by simp[e] at hl⟩
 have hl:=(h.ways.2 l (by simp[e])).1
 refine⟨by simp[WW,e,da];omega,fun w hw=>?_,fun w hw k l' n hk hn=>?_⟩
 ·obtain⟨i,c,_,rfl⟩:=VK e hw;simp[e]
 obtain⟨i,c,hi,rfl⟩:=VK e hw
 rw[e] at hk
 obtain⟨rfl,rfl⟩:=Gh hk
 obtain⟨rfl,_⟩:=Gh hn
 have:=(List.getElem?_eq_some_iff.1 hi).1
 omega
theorem acE(hK:fP ro l K)(hO:ju K):qt ro l (WW K):=by
 obtain⟨vS,vT,vc,vh,vr,vb,va,vf,fa,fc,hv,rfl,hS,hT,_⟩:=hK
 intro aH hs
 exact anB (hS.up hs) hO.oD (hT.up hs) hO.wp
theorem ZV{S:List (List ah)}{x:aA}(h:aog S hd x):(⟨x.st,x.no,0⟩:an)∈bF S:=by
 obtain⟨l,h1,h2⟩:=h.2
 have:=G2 h1 h2
 simp only[mo] at this
 rwa[show ((x.st.toNat:Nat):Int)=x.st by have:=h.1.2.2.1;omega] at this
theorem anQ{l:List aN}{c:aN}(h:l[i]?=some c):(l.take ((i:Int).toNat+1)).drop (i:Int).toNat=[c]:=by
 rw[Int.toNat_natCast,ee h,List.drop_append_of_le_length (by have:=(List.getElem?_eq_some_iff.1 h).1;rw[List.length_take];omega),List.drop_eq_nil_of_le (by rw[List.length_take];omega)];rfl
theorem akz(hK:fP ro l K)(hO:ju K):xj ro l K (WW K) (TN K.str K.ways):=by
 obtain⟨vS,vT,vc,vh,vr,vb,va,vf,fa,fc,hv,rfl,hS,hT,_⟩:=hK
 intro w hw x hx
 have hy:=ZV (hO.before.2 x hx)
 have fin:∀(t:TrD),xZ (AU K.ways w)→da K.str (AU K.ways w)=[t]→TN K.str K.ways w x=[t.g ⟨x.st,x.no,0⟩]→(TN K.str K.ways w x).length≤1000∧∀aH,Sub ro aH→∀v vS' vT' vU r,[vS,vT,.slice fa 0 fc,vc,vh,vr,vb,va,zI K.gone,zI K.new,zI K.af,vf]=vS'::vT'::vU::r→nF aH v (AU K.ways w)→
  dR zT 72 [.agg ⟨[vS',v,vU]⟩,.agg ⟨[zI x.st,zI x.no,zI 0]⟩] aH [] (fun r Y=>∃a n c,r= .tuple ⟨[.slice a n c,zI 0]⟩∧∀kU,Knows kU Y→bI kU (.slice a n c) 3 cH (TN K.str K.ways w x)):=by
  intro t h1 h2 h3
  rw[h3]
  refine⟨by simp,fun aH hs v vS' vT' vU r he hv=>?_⟩
  simp only[List.cons.injEq] at he
  obtain⟨rfl,_,rfl,_⟩:=he
  exact awo (hS.up hs) hO.oD hv h1 hy h2
 rcases WS hO with e| ⟨l,e⟩
 ·refine fin ⟨[],id⟩ ?_ ?_ ?_
  ·rw[e];exact⟨by simp[AU],by simp[AU]⟩
  ·rw[e];simp[AU,da]
  rw[e];rfl
 obtain⟨i,c,hi,rfl⟩:=VK e hw
 have hc:AU K.ways [(i:Int)]=[[c]]:=by rw[e];simp only[AU,List.zipWith_cons_cons,List.zipWith_nil_right,anQ hi]
 refine fin ⟨[0],yA K.str c⟩ ?_ ?_ ?_
 ·rw[hc]
  refine⟨by simp,fun l' hl=>?_⟩
  rw[List.mem_singleton] at hl;subst hl
  exact⟨by simp,fun c' sO=>by rw[List.mem_singleton] at sO;subst sO;exact(hO.ways.2 l (by simp[e])).2 _ (zL hi)⟩
 ·rw[hc];rfl
 rw[e];simp only[TN,Int.toNat_natCast,hi]
def dv(K:aC):List bG:=(WW K).map (j8 K (TN K.str K.ways))
theorem pH(h:ju K):(dv K).length≤2:=by
 rw[dv,List.length_map];exact(acf h).n.2
theorem wy(hK:fP ro l K)(hO:ju K)(hV:eN K):jE ro l K (dv K):=
 an8 hK hO hV (acf hO) (acE hK hO) (akz hK hO)
def cJ(K:aC):Nat:=(cW K (aD K) (cE K.gone K.new K.af) (dv K)).length
theorem Hm:∀(l:List Int) (a:Int),l.foldl min a≤a∧∀x∈l,l.foldl min a≤x
 | [],a=>⟨Int.le_refl _,fun _ h=>(by cases h)⟩
 |y::l,a=>by
  obtain⟨h1,h2⟩:=Hm l (min a y)
  refine⟨by simp only[List.foldl_cons];omega,fun x hx=>?_⟩
  rcases List.mem_cons.1 hx with rfl|hx
  ·simp only[List.foldl_cons];omega
  exact h2 x hx
theorem MQ{l:List Int}(h:x∈l):uG l≤x:=by
 cases l with
 |nil=>cases h
 |cons y l=>
  rcases List.mem_cons.1 h with rfl|h
  ·exact(Hm l _).1
  exact(Hm l _).2 x h
theorem amh(hK:fP ro l K)(hO:ju K)(hV:eN K):Fb zT 48 [.agg ⟨l⟩] ro [] (fun r Y=>∃zs m e,zs.Perm (cW K (aD K) (fun _=>true) (dv K))∧Y=[]∧r= .tuple ⟨[zI m,zI e]⟩∧((zs=[]∧m=0∧e=9)∨(zs≠[]∧m=uG (zs.map FE)∧e=0))):=
 fun fr=>Fn.mono (atz hK hV (pH hO) (wy hK hO hV) fr) fun en s' ⟨v,Y,h1,h2,zs,h3,h4,h5⟩=>⟨v,Y,h1,h2,by
  rcases h5 with ⟨h5,h6⟩| ⟨h5,h6⟩
  ·exact⟨zs,0,9,h3,h4,h6,.inl ⟨h5,rfl,rfl⟩⟩
  exact⟨zs,_,0,h3,h4,h6,.inr ⟨h5,rfl,rfl⟩⟩⟩
theorem GC(hK:fP ro l K)(hO:ju K)(hV:eN K):Fb zT 12 [.agg ⟨l⟩] ro [] (fun r Y=>r= .tuple ⟨[zI (cJ K:Int),zI 0]⟩∧Y=[]):=ae3 hK hV (pH hO) (wy hK hO hV)
def Hz:List Int→List Int→Bool
 | [],[]=>true
 |x::l,y::m=>decide (x=y)&&Hz l m
 |_,_=>false
theorem ait:∀ {l m:List Int},¬l.length=m.length→Hz l m=false
 | [],[],h=>absurd rfl h
 | [],_::_,_=>rfl
 |_::_,[],_=>rfl
 |x::l,y::m,h=>by rw[Hz,ait (l:=l) (m:=m) (by simpa using h),Bool.and_false]
theorem aiu(hx:xs[k]?=some x) (hy:ys[k]?=some y):Hz (xs.drop k) (ys.drop k)=(decide (x=y)&&Hz (xs.drop (k+1)) (ys.drop (k+1))):=by rw[fo hx,fo hy];rfl
theorem anJ(hx:¬k <xs.length)(h:xs.length=ys.length):Hz (xs.drop k) (ys.drop k)=true:=by rw[eo hx,eo (by omega)];rfl
def Et:List (List Int)→List (List Int)→Bool
 | [],[]=>true
 |x::l,y::m=>Hz x y&&Et l m
 |_,_=>false
theorem Yi:∀ {l m:List (List Int)},¬l.length=m.length→Et l m=false
 | [],[],h=>absurd rfl h
 | [],_::_,_=>rfl
 |_::_,[],_=>rfl
 |x::l,y::m,h=>by rw[Et,Yi (l:=l) (m:=m) (by simpa using h),Bool.and_false]
theorem Yj{xs ys:List (List Int)}{x y:List Int}(hx:xs[k]?=some x) (hy:ys[k]?=some y):Et (xs.drop k) (ys.drop k)=(Hz x y&&Et (xs.drop (k+1)) (ys.drop (k+1))):=by rw[fo hx,fo hy];rfl
theorem ais{xs ys:List (List Int)}(hx:¬k <xs.length)(h:xs.length=ys.length):Et (xs.drop k) (ys.drop k)=true:=by rw[eo hx,eo (by omega)];rfl
def xW:List Int→List Int→Int
 | [],[]=>0
 | [],_::_=> -1
 |_::_,[]=>1
 |x::xs,y::ys=>if qG x y=0 then xW xs ys else qG x y
theorem RN(hx:xs[k]?=some x) (hy:ys[k]?=some y):xW (xs.drop k) (ys.drop k)=if qG x y=0 then xW (xs.drop (k+1)) (ys.drop (k+1)) else qG x y:=by rw[fo hx,fo hy];rfl
theorem aa9(hx:xs[k]?=some x) (hy:¬k <ys.length):xW (xs.drop k) (ys.drop k)=1:=by rw[fo hx,eo hy];rfl
theorem Lh(hx:¬k <xs.length):xW (xs.drop k) (ys.drop k)=if k <ys.length then-1 else 0:=by
 rw[eo hx]
 split
 ·rename_i h
  rw[List.drop_eq_getElem_cons h];rfl
 rename_i h
 rw[eo h];rfl
def lP(f:Int):Nat→List Int
 |0=>[]
 |k+1=>lP f k++(bif hasB f k then [(k:Int)] else [])
theorem al0(h:hasB f (k:Int)=true):lP f (k+1)=lP f k++[(k:Int)]:=by rw[lP,h];rfl
theorem al1(h:hasB f (k:Int)=false):lP f (k+1)=lP f k:=by rw[lP,h];exact List.append_nil _
theorem Ku(f:Int)(n:Nat):(lP f n).length≤n:=by
 induction n with
 |zero=>exact Nat.le_refl _
 |succ n ih=>rw[lP,List.length_append];cases hasB f (n:Int)<;>simp<;>omega
def yt(f:Int):Int:=([0,1,1,2,1,2,2,3,1,2,2,3,2,3,3,4]:List Int).getD f.toNat 0
theorem WL(h:0≤f∧f <16):0≤yt f∧yt f≤8:=by
 obtain⟨n,rfl⟩:=Int.eq_ofNat_of_zero_le h.1
 have h2:n <16:=by omega
 revert h2
 exact(by decide:∀n:Nat,n <16→0≤yt (n:Int)∧yt (n:Int)≤8) n
def RL(x y:Int):Int:=if yt x-yt y=0 then xW (lP x 4) (lP y 4) else yt x-yt y
theorem aiB{v w:Value}(hv:bI ro v 1 cz xs)(hw:bI ro w 1 cz ys)(hx:xs.length≤1000)(hy:ys.length≤1000):dD zT 25 [v,w] ro (.bool (Hz xs ys)):=by
 obtain⟨Ml,qvb,qvo,Be,rfl,qvk,PC,PB⟩:=hv
 obtain⟨Tx,qwb,qwo,Mk,rfl,qwk,qwh,qwl⟩:=hw
 refine zE<|zD 13<|js 10 (!decide ((xs.length:Int)=(ys.length:Int))) (fun h1=>?_) (fun h1=>?_)
 ·
  replace h1:=of_decide_eq_false (by simpa using h1)
  refine zD 6<|zX (.bool false) ⟨by rw[ait (by omega)],rfl⟩
 replace h1:=of_decide_eq_true (by simpa using h1)
 refine zD 8<|dS [1,1,0,1,0,0] [] (fun(zz:Nat)=>[(0,.slice Ml xs.length Be),(1,.slice Tx ys.length Mk),(5,zI (zz:Int))]) (fun zz=>[]) (fun zz=>zz≤xs.length∧Hz xs ys=Hz (xs.drop zz) (ys.drop zz)) (fun zz=>xs.length-zz) 0 ⟨by omega,rfl⟩ [] ?_
 rintro k hI K1 bL rest
 refine zD 8<|zJ 14 ((k:Int) <(xs.length:Int)) (fun h2=>?_) fun h2=>?_
 ·
  refine zD 8 ?_
  obtain⟨EI,xC⟩:=zG xs k
  refine iB Be 1 PC xC<|jl 0 (PB _ _ xC)<|zD 2 ?_
  obtain⟨uP,sJ⟩:=zG ys k
  refine iB Mk 1 qwh sJ<|jl 0 (qwl _ _ sJ)<|zD 2<|js 25 (!decide (EI=uP)) (fun h3=>?_) (fun h3=>?_)
  ·
   replace h3:=of_decide_eq_false (by simpa using h3)
   refine zD 6<|zX (.bool false) ⟨by rw[hI.2,aiu xC sJ,decide_eq_false (by omega),Bool.false_and],rfl⟩
  replace h3:=of_decide_eq_true (by simpa using h3)
  refine zD 4<|ja ((k:Int)+1) (by omega)<|zD 2<|bJ bL (k+1) ⟨by omega,by rw[hI.2,aiu xC sJ,decide_eq_true (by omega),Bool.true_and]⟩ (by omega) [] (Sub.refl _)
 refine zD 7<|zX (.bool true) ⟨by rw[hI.2,anJ (by omega) (by omega)],rfl⟩
theorem aL0{v w:Value}(hv:bI ro v 1 cz xs)(hw:bI ro w 1 cz ys)(hx:xs.length≤1000)(hy:ys.length≤1000):dD zT 88 [v,w] ro (zI (xW xs ys)):=by
 obtain⟨Ml,qvb,qvo,Be,rfl,qvk,PC,PB⟩:=hv
 obtain⟨Tx,qwb,qwo,Mk,rfl,qwk,qwh,qwl⟩:=hw
 refine zE<|zD 12<|dS [1,0,1,0,0] [] (fun(zz:Nat)=>[(0,.slice Ml xs.length Be),(1,.slice Tx ys.length Mk),(9,.slice Ml xs.length Be),(10,zI (xs.length:Int)),(11,zI (zz:Int))]) (fun zz=>[]) (fun zz=>(zz≤xs.length∧zz≤ys.length)∧xW xs ys=xW (xs.drop zz) (ys.drop zz)) (fun zz=>xs.length-zz) 0 ⟨by omega,rfl⟩ [] ?_
 rintro k hI K1 bL rest
 refine zD 5<|zJ 12 ((k:Int) <(xs.length:Int)) (fun h1=>?_) fun h1=>?_
 ·
  refine zD 7 ?_
  obtain⟨fD,eC⟩:=zG xs k
  refine iB Be 1 PC eC<|jl 0 (PB _ _ eC)<|zD 11<|zJ 19 ((k:Int)≥(ys.length:Int)) (fun h2=>?_) fun h2=>?_
  ·
   refine zD 6<|zX (zI 1) ⟨by rw[hI.2,aa9 eC (by omega)],rfl⟩
  refine zD 6 ?_
  obtain⟨rP,tN⟩:=zG ys k
  refine iB Mk 1 qwh tN<|jl 0 (qwl _ _ tN)<|zD 6<|jp (vs:=[zI fD,zI rP]) [] [] (fun aH hs hZ=>awu)<|zD 7<|js 28 (!decide ((qG fD rP)=0)) (fun h3=>?_) (fun h3=>?_)
  ·
   replace h3:=of_decide_eq_false (by simpa using h3)
   refine zD 7<|zX (zI (qG fD rP)) ⟨by rw[hI.2,RN eC tN,if_neg (by omega)],rfl⟩
  replace h3:=of_decide_eq_true (by simpa using h3)
  refine zD 3<|ja ((k:Int)+1) (by omega)<|zD 2<|bJ bL (k+1) ⟨by omega,by rw[hI.2,RN eC tN,if_pos (by omega)]⟩ (by omega) [] (Sub.refl _)
 refine zD 11<|zJ 35 ((xs.length:Int) <(ys.length:Int)) (fun h4=>?_) fun h4=>?_
 ·
  refine zD 6<|zX (zI (-1)) ⟨by rw[hI.2,Lh (by omega),if_pos (by omega)],rfl⟩
 refine zD 7<|zX (zI 0) ⟨by rw[hI.2,Lh (by omega),if_neg (by omega)],rfl⟩
theorem aid:dR zT 63 [.int .u8 f] ro [] (fun r Y=>∃L,ay r 1 3 cz (lP f 4) L∧Y=L):=by
 refine zE<|zD 14<|oR<|dS [1,1,0,1,0,0] [] (fun(zz:Nat×Value×Cells)=>[(0,.int .u8 f),(2,zS),(3,zz.2.1),(5,zI (zz.1:Int))]) (fun zz=>[.l zz.2.2]) (fun zz=>zz.1≤4∧ay zz.2.1 1 3 cz (lP f zz.1) zz.2.2) (fun zz=>4-zz.1) (⟨0,zS,[]⟩) ⟨by dsimp only;omega,ay.nil _ _ _⟩ [0] ?_
 rintro⟨k,v,L⟩ hI K1 bL rest
 dsimp only at hI
 have hll:=Ku f k
 refine zD 5<|zJ 6 ((k:Int) <4) (fun h1=>?_) fun h1=>?_
 ·
  refine zD 13<|jp (vs:=[.int .u8 f,zI (k:Int)]) [] [] (fun aH hs hZ=>(atB (by omega)))<|zD 1<|js 10 (hasB f (k:Int)) (fun h2=>?_) (fun h2=>?_)
  ·
   refine zD 4<|jn fun zi=>iC (sz:=1) (ps:=(lP f k)) (qs:=[(k:Int)]) (enc:=cz) (w:= .slice (some ⟨zi,0,none⟩) 1 1) [1] [0] [(zi,.cells ⟨([(k:Int)].map cz).flatten⟩ 3 (0,0))] (hI.2) (fun s _ hZ=>bN [(k:Int)] (hZ _ (.head _)) (by intro p hp;rfl)) (fun p _=>ai rfl) (by simp<;>omega) (fun v14 L14 tP=>?_)
   obtain⟨Fu,DU,uJ⟩:=tP.form
   subst uJ
   refine zD 3<|ja ((k:Int)+1) (by omega)<|zD 2<|bJ bL (⟨k+1,(.slice Fu (((lP f k)++[(k:Int)])).length DU),L14⟩) ⟨by dsimp only;omega,by dsimp only;rw[al0 (by assumption)];exact tP⟩ (by dsimp only;omega) [0] (Sub.refl _)
  refine zD 3<|ja ((k:Int)+1) (by omega)<|zD 2<|bJ bL (⟨k+1,v,L⟩) ⟨by dsimp only;omega,by dsimp only;rw[al1 (by assumption)];exact hI.2⟩ (by dsimp only;omega) [0] (Sub.refl _)
 refine zD 8<|zR (v) [] [0] L ⟨_,(by rw[←show k=4 by omega];exact hI.2),rfl⟩
theorem atv:dD zT 91 [.int .u8 0] ro (zI 0):=by
 refine zE<|zD 12<|zX (zI 0) ⟨rfl,rfl⟩
theorem atu:dD zT 91 [.int .u8 1] ro (zI 1):=by
 refine zE<|zD 12<|zX (zI 1) ⟨rfl,rfl⟩
theorem att:dD zT 91 [.int .u8 2] ro (zI 1):=by
 refine zE<|zD 12<|zX (zI 1) ⟨rfl,rfl⟩
theorem atr:dD zT 91 [.int .u8 3] ro (zI 2):=by
 refine zE<|zD 12<|zX (zI 2) ⟨rfl,rfl⟩
theorem atq:dD zT 91 [.int .u8 4] ro (zI 1):=by
 refine zE<|zD 12<|zX (zI 1) ⟨rfl,rfl⟩
theorem atp:dD zT 91 [.int .u8 5] ro (zI 2):=by
 refine zE<|zD 12<|zX (zI 2) ⟨rfl,rfl⟩
theorem ato:dD zT 91 [.int .u8 6] ro (zI 2):=by
 refine zE<|zD 12<|zX (zI 2) ⟨rfl,rfl⟩
theorem atn:dD zT 91 [.int .u8 7] ro (zI 3):=by
 refine zE<|zD 12<|zX (zI 3) ⟨rfl,rfl⟩
theorem atm:dD zT 91 [.int .u8 8] ro (zI 1):=by
 refine zE<|zD 12<|zX (zI 1) ⟨rfl,rfl⟩
theorem atl:dD zT 91 [.int .u8 9] ro (zI 2):=by
 refine zE<|zD 12<|zX (zI 2) ⟨rfl,rfl⟩
theorem amd:dD zT 91 [.int .u8 10] ro (zI 2):=by
 refine zE<|zD 12<|zX (zI 2) ⟨rfl,rfl⟩
theorem amc:dD zT 91 [.int .u8 11] ro (zI 3):=by
 refine zE<|zD 12<|zX (zI 3) ⟨rfl,rfl⟩
theorem amb:dD zT 91 [.int .u8 12] ro (zI 2):=by
 refine zE<|zD 12<|zX (zI 2) ⟨rfl,rfl⟩
theorem ama:dD zT 91 [.int .u8 13] ro (zI 3):=by
 refine zE<|zD 12<|zX (zI 3) ⟨rfl,rfl⟩
theorem al9:dD zT 91 [.int .u8 14] ro (zI 3):=by
 refine zE<|zD 12<|zX (zI 3) ⟨rfl,rfl⟩
theorem al8:dD zT 91 [.int .u8 15] ro (zI 4):=by
 refine zE<|zD 12<|zX (zI 4) ⟨rfl,rfl⟩
theorem apx(h:0≤f∧f <16):dD zT 91 [.int .u8 f] ro (zI (yt f)):=by
 obtain rfl|rfl|rfl|rfl|rfl|rfl|rfl|rfl|rfl|rfl|rfl|rfl|rfl|rfl|rfl|rfl:=(by omega:f=0∨f=1∨f=2∨f=3∨f=4∨f=5∨f=6∨f=7∨f=8∨f=9∨f=10∨f=11∨f=12∨f=13∨f=14∨f=15)
 ·exact atv
 ·exact atu
 ·exact att
 ·exact atr
 ·exact atq
 ·exact atp
 ·exact ato
 ·exact atn
 ·exact atm
 ·exact atl
 ·exact amd
 ·exact amc
 ·exact amb
 ·exact ama
 ·exact al9
 exact al8
def LL(ro:Nat→Option Obj)(v:Value)(W:List (List Int)):Prop:=∃ws,bI ro v 1 gv ws∧dq (fun w l=>bI ro w 1 cz l) ws W
theorem awF{v w:Value}{ws us:List Value}{W U:List (List Int)}(hv:bI ro v 1 gv ws)(hw:bI ro w 1 gv us)(ha:dq (fun w l=>bI ro w 1 cz l) ws W)(hb:dq (fun w l=>bI ro w 1 cz l) us U)(hx:W.length≤1000)(hy:U.length≤1000)(hW:∀l∈W,l.length≤1000)(hU:∀l∈U,l.length≤1000):dD zT 51 [v,w] ro (.bool (Et W U)):=by
 obtain⟨Ml,qvb,qvo,Be,rfl,qvk,PC,PB⟩:=hv
 obtain⟨Tx,qwb,qwo,Mk,rfl,qwk,qwh,qwl⟩:=hw
 have hla:=ha.len
 have hlb:=hb.len
 refine zE<|zD 13<|js 10 (!decide ((ws.length:Int)=(us.length:Int))) (fun h1=>?_) (fun h1=>?_)
 ·
  replace h1:=of_decide_eq_false (by simpa using h1)
  refine zD 6<|zX (.bool false) ⟨by rw[Yi (by omega)],rfl⟩
 replace h1:=of_decide_eq_true (by simpa using h1)
 refine zD 8<|dS [1,1,0,1,0,0] [] (fun(zz:Nat)=>[(0,.slice Ml ws.length Be),(1,.slice Tx us.length Mk),(5,zI (zz:Int))]) (fun zz=>[]) (fun zz=>zz≤W.length∧Et W U=Et (W.drop zz) (U.drop zz)) (fun zz=>W.length-zz) 0 ⟨by omega,rfl⟩ [] ?_
 rintro k hI K1 bL rest
 refine zD 8<|zJ 14 ((k:Int) <(ws.length:Int)) (fun h2=>?_) fun h2=>?_
 ·
  refine zD 8 ?_
  obtain⟨EI,xC⟩:=zG ws k
  refine iB Be 1 PC xC ?_
  obtain⟨l20,auX,h20⟩:=ha.get xC
  obtain auP:=hW _ (zL auX)
  obtain⟨aAQ,aKD,aKz,aAP,rfl,aKB,aKC,aKA⟩:=h20
  refine jl 0 (PB _ _ xC)<|zD 2 ?_
  obtain⟨uP,sJ⟩:=zG us k
  refine iB Mk 1 qwh sJ ?_
  obtain⟨T9,UE,h24⟩:=hb.get sJ
  obtain aC9:=hU _ (zL UE)
  obtain⟨asA,aAJ,aAH,adI,rfl,aAI,aln,alm⟩:=h24
  refine jl 0 (qwl _ _ sJ)<|jp (vs:=[.slice aAQ l20.length aAP,.slice asA T9.length adI]) [] [] (fun aH hs hZ=>aiB ((show bI _ _ _ _ _ from ⟨aAQ,aKD,aKz,aAP,rfl,aKB,aKC,aKA⟩).up hs) ((show bI _ _ _ _ _ from ⟨asA,aAJ,aAH,adI,rfl,aAI,aln,alm⟩).up hs) auP aC9)<|zD 2<|js 26 (!(Hz l20 T9)) (fun h3=>?_) (fun h3=>?_)
  ·
   try simp only[zB] at h3
   refine zD 6<|zX (.bool false) ⟨by rw[hI.2,Yj auX UE];simp_all,rfl⟩
  try simp only[zB] at h3
  refine zD 4<|ja ((k:Int)+1) (by omega)<|zD 2<|bJ bL (k+1) ⟨by omega,by rw[hI.2,Yj auX UE];simp_all⟩ (by omega) [] (Sub.refl _)
 refine zD 7<|zX (.bool true) ⟨by rw[hI.2,ais (by omega) (by omega)],rfl⟩
theorem Qo:(lP f 4).length≤1000:=Nat.le_trans (Ku f 4) (by decide)
def D8:Nat→List Int→List Int
 |0,ys=>ys
 |j+1,ys=>if RL (ys.getD (j+1) 0) (ys.getD j 0) <0 then D8 j ((ys.set (j+1) (ys.getD j 0)).set j (ys.getD (j+1) 0)) else ys
def FI:Nat→Nat→List Int→List Int
 |0,_,ys=>ys
 |n+1,i,ys=>FI n (i+1) (D8 i ys)
def C9(xs:List Int):List Int:=FI (xs.length-1) 1 xs
theorem aaj(h:¬j>0):D8 j.toNat ys=ys:=by rw[show j.toNat=0 by omega];rfl
theorem anz(h:ys[i]?=some x):ys.getD i 0=x:=by rw[List.getD_eq_getElem?_getD,h];rfl
theorem aak(hj:j>0)(hx:ys[j.toNat]?=some x) (hy:ys[(j-1).toNat]?=some y) (h:¬RL x y <0):D8 j.toNat ys=ys:=by
 have e:j.toNat=(j-1).toNat+1:=by omega
 rw[e] at hx ⊢
 rw[D8,anz hx,anz hy,if_neg h]
theorem Xu{x' y':Int}(hj:j>0)(hx:ys[j.toNat]?=some x) (hy:ys[(j-1).toNat]?=some y) (lG:ys[j.toNat]?=some x') (hy':ys[(j-1).toNat]?=some y') (h:RL x y <0):D8 j.toNat ys=D8 (j-1).toNat ((ys.set j.toNat y').set (j-1).toNat x'):=by
 rw[hx] at lG;rw[hy] at hy';cases lG;cases hy'
 have e:j.toNat=(j-1).toNat+1:=by omega
 rw[e] at hx ⊢
 rw[D8,anz hx,anz hy,if_pos h]
def Of(v:Value)(xs:List Int)(Y:Cells):Prop:=∃ys,ys=C9 xs∧ay v 1 105 SH ys Y
theorem Tb{n:Nat}{i:Int}(h:C9 xs=FI (n-i.toNat) i.toNat ys)(hi:0≤i∧i <n):C9 xs=FI (n-(i+1).toNat) (i+1).toNat (D8 i.toNat ys):=by
 rw[h,show n-i.toNat=(n-(i+1).toNat)+1 by omega,show (i+1).toNat=i.toNat+1 by omega];rfl
theorem Zk{n:Nat}{i:Int}(h:C9 xs=FI (n-i.toNat) i.toNat ys)(hi:¬i <n):ys=C9 xs:=by
 rw[h,show n-i.toNat=0 by omega];rfl
theorem aLr(hx:0≤x∧x <16)(hy:0≤y∧y <16):dD zT 90 [.int .u8 x,.int .u8 y] ro (zI (RL x y)):=by
 have hpx:=WL hx
 have hpy:=WL hy
 refine zE<|zD 8<|jp (vs:=[.int .u8 x]) [] [] (fun aH hs hZ=>(apx hx))<|zD 1<|jp (vs:=[.int .u8 y]) [] [] (fun aH hs hZ=>(apx hy))<|ja ((yt x)-(yt y)) (by omega)<|zD 7<|js 12 (!decide (((yt x)-(yt y))=0)) (fun h1=>?_) (fun h1=>?_)
 ·
  replace h1:=of_decide_eq_false (by simpa using h1)
  refine zD 7<|zX (zI ((yt x)-(yt y))) ⟨by rw[RL,if_neg (by omega)],rfl⟩
 replace h1:=of_decide_eq_true (by simpa using h1)
 refine zD 5<|jc (vs:=[.int .u8 x]) [] (aid) ?_
 rintro v15 L15 ⟨_,auD,rfl⟩
 refine zD 1<|jc (vs:=[.int .u8 y]) [] (aid) ?_
 rintro v17 L17 ⟨_,B5,rfl⟩
 refine jp (vs:=[v15,v17]) [1,0] (L15++L17) (fun aH hs hZ=>aL0 (auD.kQ hZ.left) (B5.kQ hZ.right) Qo Qo)<|zD 3<|zX (zI (xW (lP x 4) (lP y 4))) ⟨by rw[RL,if_pos (by omega)],rfl⟩
theorem aLq{v:Value}{L:Cells}(ho:ay v 1 105 SH xs L)(hN:xs.length≤12)(hM:∀m∈xs,0≤m∧m <16):dR zT 152 [v,zI 0,zI (xs.length:Int),.func (.func 90) ⟨[]⟩ ⟨[]⟩] ro L (fun r Y=>Of v xs Y):=by
 refine zC [.l L]<|zD 7<|dS [1,0,0] [] (fun(zz:Int×(List Int)×Cells)=>[(0,v),(1,zI 0),(2,zI (xs.length:Int)),(3,.func (.func 90) ⟨[]⟩ ⟨[]⟩),(8,zI zz.1)]) (fun zz=>[.l zz.2.2]) (fun zz=>(1≤zz.1)∧ay v 1 105 SH zz.2.1 zz.2.2∧zz.2.1.Perm xs∧C9 xs=FI (xs.length-zz.1.toNat) zz.1.toNat zz.2.1) (fun zz=>((xs.length:Int)-zz.1).toNat) (⟨1,xs,L⟩) ⟨by dsimp only;omega,ho,.refl _,rfl⟩ [0] ?_
 rintro⟨i,ys,L⟩ hI K1 bL rest
 dsimp only at hI
 have Xw:=hI.2.2.1.length_eq
 have hym:∀m∈ys,0≤m∧m <16:=fun m hm=>hM m (hI.2.2.1.mem_iff.1 hm)
 refine zD 7<|zJ 14 (i <(xs.length:Int)) (fun h1=>?_) fun h1=>?_
 ·
  refine zD 10<|dS [1,0,0,1,0,0,1,0,0] [K1] (fun(zz:Int×(List Int)×Cells)=>[(0,v),(1,zI 0),(2,zI (xs.length:Int)),(3,.func (.func 90) ⟨[]⟩ ⟨[]⟩),(8,zI i),(9,zI zz.1)]) (fun zz=>[.l zz.2.2]) (fun zz=>(0≤zz.1∧zz.1≤i)∧ay v 1 105 SH zz.2.1 zz.2.2∧zz.2.1.Perm xs∧C9 xs=FI (xs.length-(i+1).toNat) (i+1).toNat (D8 zz.1.toNat zz.2.1)) (fun zz=>zz.1.toNat) (⟨i,ys,L⟩) ⟨by dsimp only;omega,hI.2.1,hI.2.2.1,Tb hI.2.2.2 (by omega)⟩ [0] ?_
  rintro⟨j,ys,L⟩ hJ K2 mb rest
  dsimp only at hJ
  have Xw:=hJ.2.2.1.length_eq
  have hym:∀m∈ys,0≤m∧m <16:=fun m hm=>hM m (hJ.2.2.1.mem_iff.1 hm)
  refine zD 7<|js 3 (decide (j>0)) (fun h2=>?_) (fun h2=>?_)
  ·
   have me:=h2
   replace me:=of_decide_eq_true me
   refine zD 3 ?_
   obtain⟨x5,k8⟩:=zG ys (j.toNat) (by first|omega| (simp only[List.length_set];omega))
   refine pP j 1 hJ.2.1 k8 (Int.toNat_of_nonneg (show 0≤j∧j <((ys).length:Int) from (by first|omega| (simp only[List.length_set];omega))).1).symm (fun nQ agW=>?_)
   refine oH 0 [0] L (fun s _ hZ=>cw hJ.2.1 agW hZ k8)<|zD 2<|ja (j-1) (by omega) ?_
   obtain⟨nT,iO⟩:=zG ys ((j-1).toNat) (by first|omega| (simp only[List.length_set];omega))
   refine pP (j-1) 1 hJ.2.1 iO (Int.toNat_of_nonneg (show 0≤(j-1)∧(j-1) <((ys).length:Int) from (by first|omega| (simp only[List.length_set];omega))).1).symm (fun b30 UR=>?_)
   refine oH 0 [0] L (fun s _ hZ=>cw hJ.2.1 UR hZ iO)<|aS 14 fun q9 ri p8=>jp (vs:=[.int .u8 x5,.int .u8 nT]) [] [] (fun aH hs hZ=>(aLr (hym _ (zL k8)) (hym _ (zL iO))))<|ez p8 [0]<|zD 3<|zJ 34 ((RL x5 nT) <0) (fun h4=>?_) fun h4=>?_
   ·
    refine zD 9<|ja (j-1) (by omega)<|zD 2<|ja (j-1) (by omega) ?_
    obtain⟨xo,Ed⟩:=zG ys ((j-1).toNat) (by first|omega| (simp only[List.length_set];omega))
    refine pP (j-1) 1 hJ.2.1 Ed (Int.toNat_of_nonneg (show 0≤(j-1)∧(j-1) <((ys).length:Int) from (by first|omega| (simp only[List.length_set];omega))).1).symm (fun b45 agV=>?_)
    refine oH 0 [0] L (fun s _ hZ=>cw hJ.2.1 agV hZ Ed)<|zD 2 ?_
    obtain⟨IF,Ec⟩:=zG ys (j.toNat) (by first|omega| (simp only[List.length_set];omega))
    refine pP j 1 hJ.2.1 Ec (Int.toNat_of_nonneg (show 0≤j∧j <((ys).length:Int) from (by first|omega| (simp only[List.length_set];omega))).1).symm (fun b49 agS=>?_)
    refine oH 0 [0] L (fun s _ hZ=>cw hJ.2.1 agS hZ Ec) ?_
    obtain⟨x51,Eb⟩:=zG ys (j.toNat) (by first|omega| (simp only[List.length_set];omega))
    refine pP j 1 hJ.2.1 Eb (Int.toNat_of_nonneg (show 0≤j∧j <((ys).length:Int) from (by first|omega| (simp only[List.length_set];omega))).1).symm (fun b51 agR=>?_)
    refine aS 15 fun rY sb qE=>So 0 0 [.int .u8 xo] xo hJ.2.1 agR Eb rfl rfl (Nat.le_of_ble_eq_true rfl) fun L6 ho7=>fS qE [] ?_
    obtain⟨x52,vy⟩:=zG ((ys.set j.toNat xo)) ((j-1).toNat) (by first|omega| (simp only[List.length_set];omega))
    refine pP (j-1) 1 ho7 vy (Int.toNat_of_nonneg (show 0≤(j-1)∧(j-1) <(((ys.set j.toNat xo)).length:Int) from (by first|omega| (simp only[List.length_set];omega))).1).symm (fun b52 agQ=>?_)
    refine aS 17 fun Bo Bu Cc=>So 0 0 [.int .u8 IF] IF ho7 agQ vy rfl rfl (Nat.le_of_ble_eq_true rfl) fun L9 agh=>fT Cc<|zD 3<|ja (j-1) (by omega)<|zD 2<|bJ mb (⟨(j-1),((ys.set j.toNat xo).set ((j-1).toNat) IF),L9⟩) ⟨by dsimp only;omega,agh,(nj Ec Ed).trans hJ.2.2.1,by dsimp only;rw[hJ.2.2.2,Xu (by omega) k8 iO Ec Ed (by assumption)]⟩ (by dsimp only;omega) [0] (Sub.refl _)
   refine zD 4<|ja (i+1) (by omega)<|zD 2<|bJ bL (⟨(i+1),ys,L⟩) ⟨by dsimp only;omega,hJ.2.1,hJ.2.2.1,by dsimp only;rw[hJ.2.2.2,aak (by omega) k8 iO (by assumption)]⟩ (by dsimp only;omega) [0] (Sub.refl _)
  have me:=h2
  replace me:=of_decide_eq_false me
  refine zD 18<|ja (i+1) (by omega)<|zD 2<|bJ bL (⟨(i+1),ys,L⟩) ⟨by dsimp only;omega,hJ.2.1,hJ.2.2.1,by dsimp only;rw[hJ.2.2.2,aaj (by omega)]⟩ (by dsimp only;omega) [0] (Sub.refl _)
 refine zD 2<|zR (.tuple ⟨[]⟩) [] [0] L ⟨ys,Zk hI.2.2.2 (by omega),hI.2.1⟩
theorem aod(h:K.facts.length≤3):IntKind.u8.wrap (aD K+1)=((2^K.facts.length:Nat):Int):=by
 unfold aD
 generalize K.facts.length=n at h
 obtain rfl|rfl|rfl|rfl:n=0∨n=1∨n=2∨n=3:=by omega
 all_goals decide
theorem alq{n:Nat}(h:n≤3):2^n≤8:=by
 obtain rfl|rfl|rfl|rfl:n=0∨n=1∨n=2∨n=3:=by omega
 all_goals decide
theorem aze{n:Nat}(h:n≤255):Value.int .u8 (IntKind.u8.wrap (n:Int))= .int .u8 (n:Int):=by
 rw[r5 .u8 rfl _ (by omega) (by simp[IntKind.bits];omega)]
def oQ(n:Nat):List Int:=C9 (cy (2^n))
theorem ZC{n:Nat}(h:n≤8):∀m∈cy n,0≤m∧m <16:=fun m hm=>by have:=ng hm;omega
theorem aLp{v:Value}{L:Cells}{lim:Int}(ho:ay v 1 105 SH xs L)(hN:xs.length≤12)(hM:∀m∈xs,0≤m∧m <16):dR zT 113 [v,zI 0,zI (xs.length:Int),zI lim,.func (.func 90) ⟨[]⟩ ⟨[]⟩] ro L (fun r Y=>Of v xs Y):=by
 refine zC [.l L]<|zD 9<|dS [1,1,0,0] [] (fun(zz:Nat)=>[(0,v),(1,zI 0),(2,zI (xs.length:Int)),(3,zI lim),(4,.func (.func 90) ⟨[]⟩ ⟨[]⟩),(10,.bool true),(11,.bool true)]) (fun zz=>[.l L]) (fun zz=>True) (fun zz=>zz) 0 trivial [0] ?_
 rintro z hI K1 bL rest
 refine zD 5<|ja ((xs.length:Int)-0) (by omega)<|zD 8<|zJ 25 (((xs.length:Int)-0)≤12) (fun h1=>?_) fun h1=>?_
 ·
  refine zD 7<|jc (vs:=[v,zI 0,zI (xs.length:Int),.func (.func 90) ⟨[]⟩ ⟨[]⟩]) [0] (aLq ho hN hM) ?_
  rintro azX Y30 ⟨aIo,auv,B4⟩
  refine zD 2<|zR (.tuple ⟨[]⟩) [] [0] Y30 ⟨_,auv,B4⟩
 exfalso;omega
theorem aBu{v:Value}{L:Cells}(ho:ay v 1 105 SH xs L)(hN:xs.length≤12)(hM:∀m∈xs,0≤m∧m <16):dR zT 89 [v,.func (.func 90) ⟨[]⟩ ⟨[]⟩] ro L (fun r Y=>Of v xs Y):=by
 refine zC [.l L]<|zD 3<|B0 ho<|zD 6<|je (zU (xs.length:Int)) (aca (by omega))<|jp (vs:=[zU (xs.length:Int)]) [] [] (fun aH hs hZ=>(awt (by omega)))<|zD 1<|jc (vs:=[v,zI 0,zI (xs.length:Int),zI (aab xs.length),.func (.func 90) ⟨[]⟩ ⟨[]⟩]) [0] (aLp ho hN hM) ?_
 rintro azY Y13 ⟨aIq,aaw,UA⟩
 refine zD 1<|zR (.tuple ⟨[]⟩) [] [0] Y13 ⟨_,aaw,UA⟩
theorem aE6{f:Nat}{rows:List bG}(hF:oL ro f K rows)(hV:eN K)(hn3:K.facts.length≤3):dR zT 61 [zP f] ro [] (fun r Y=>∃L,ay r 1 105 SH (oQ K.facts.length) L∧Y=L):=by
 have hp8:=alq hn3
 refine zE<|zD 12<|jp (vs:=[zP f]) [] [] (fun aH hs hZ=>Dq hV (hF.up hs))<|je (.int .u8 ((2^K.facts.length:Nat):Int)) (congrArg (Value.int .u8) (aod hn3))<|zD 3<|oR<|dS [1,1,0,1,0,0] [] (fun(zz:Nat×Value×Cells)=>[(2,zS),(3,zz.2.1),(7,.int .u8 ((2^K.facts.length:Nat):Int)),(8,.int .u8 (zz.1:Int))]) (fun zz=>[.l zz.2.2]) (fun zz=>zz.1≤2^K.facts.length∧ay zz.2.1 1 105 SH (cy zz.1) zz.2.2) (fun zz=>2^K.facts.length-zz.1) (⟨0,zS,[]⟩) ⟨Nat.zero_le _,ay.nil _ _ _⟩ [0] ?_
 rintro⟨k,v,L⟩ hI K1 bL rest
 dsimp only at hI
 have hrl:=gH k
 refine zD 5<|zJ 9 ((k:Int) <((2^K.facts.length:Nat):Int)) (fun h1=>?_) fun h1=>?_
 ·
  refine zD 12<|jn fun zi=>iC (sz:=1) (ps:=(cy k)) (qs:=[(k:Int)]) (enc:=SH) (w:= .slice (some ⟨zi,0,none⟩) 1 1) [1] [0] [(zi,.cells ⟨([(k:Int)].map SH).flatten⟩ 105 (0,0))] (hI.2) (fun s _ hZ=>bN [(k:Int)] (hZ _ (.head _)) (by intro p hp;rfl)) (fun p _=>ai rfl) (by simp<;>omega) (fun v14 L14 tP=>?_)
  obtain⟨Fu,DU,uJ⟩:=tP.form
  subst uJ
  refine zD 3<|je (.int .u8 ((k:Int)+1)) (aze (n:=k+1) (by omega))<|zD 2<|bJ bL (⟨k+1,(.slice Fu (((cy k)++[(k:Int)])).length DU),L14⟩) ⟨by dsimp only;omega,by dsimp only;rw[u9];exact tP⟩ (by dsimp only;omega) [0] (Sub.refl _)
 refine zD 5<|jc (vs:=[v,.func (.func 90) ⟨[]⟩ ⟨[]⟩]) [0] (aBu hI.2 (by rw[gH];omega) (ZC (by omega))) ?_
 rintro aWG Y17 ⟨aVR,aM5,B5⟩
 refine zD 7<|zR (v) [] [0] Y17 ⟨_,by rw[oQ,show 2^K.facts.length=k by omega,←aM5];exact B5,rfl⟩
def Jg(K:aC)(rows:List bG)(p:Nat→Int):Nat→Bool
 |0=>false
 |i+1=>Jg K rows p i||cE K.gone K.new K.af (cq K ((rows[i]?).getD ⟨fun _ _=>false⟩) i p)
theorem YG{rows:List bG}{r:bG}(h:rows[i]?=some r):Jg K rows p (i+1)=(Jg K rows p i||cE K.gone K.new K.af (cq K r i p)):=by rw[Jg,h];rfl
theorem aoc{rows:List bG}{n:Nat}(h:Jg K rows p i=true)(hn:i≤n):Jg K rows p n=true:=by
 induction n with
 |zero=>rwa[show i=0 by omega] at h
 |succ n ih=>
  by_cases e:i=n+1
  ·rwa[e] at h
  rw[Jg,ih (by omega),Bool.true_or]
def abd(K:aC)(rows:List bG)(on:Int):Bool:=(aO K on).any fun p=>Jg K rows p rows.length
theorem ajc{f:α→Bool}{l:List α}{x:α}(h:l[k]?=some x) (h1:(l.take k).any f=false) (h2:f x=false):(l.take (k+1)).any f=false:=by
 rw[jh h,List.any_append,h1,List.any_cons,h2];rfl
theorem aQK{f:Nat}{rows:List bG}{on:Int}(hF:oL ro f K rows)(hV:eN K)(hR:rows.length≤1000):dR zT 62 [zP f,.int .u8 on] ro [] (fun r Y=>r= .bool (abd K rows on)∧Y=[]):=by
 obtain⟨c0,c1,c2,vc,vh,vr,vb,va,vf,vt,hv,hf,p7,nv,hr,Ek,I7,KG,bS⟩:=id hF
 obtain⟨hc,hh,dc⟩:=id p7
 obtain⟨ei,Ae,Ad,dW,rfl,De,yq,yp⟩:=hc
 obtain⟨dG,uD,uC,dr,rfl,wP,qB,qA⟩:=hh
 obtain⟨kH,Ik,Ij,kG,rfl,Ou,FW,FV⟩:=hr
 obtain⟨lA,Mw,Mu,kI,rfl,Mv,FY,FX⟩:=Ek
 obtain⟨lD,Mz,Mx,kJ,rfl,My,F3,FZ⟩:=I7
 obtain⟨lY,TE,TB,kY,rfl,TD,Mr,Mq⟩:=KG
 obtain⟨ni,DZ,DY,mH,rfl,PD,Mn,Mm⟩:=bS
 have Sx:=hV.rules.1
 have B6:=hV.before.1
 have EX:=hV.after.1
 have hnf:=hV.facts.1
 refine amn au [] [] bn<|zD 2<|jn fun b2=>zD 5<|jn fun b5=>jd 9 [0,1]<|jc (vs:=[zP f,.int .u8 on]) [] (Kv (on:=on) hF hV) ?_
 rintro _ _ ⟨q1,q2,q3,q4,rfl,rfl⟩
 refine jg 0 [.b q1 (.cells ⟨[zP f]⟩ 100 (0,0)),.b q2 (.cells ⟨[.func (.func 116) ⟨[]⟩ ⟨[zP q1,zP q4]⟩]⟩ 218 (0,0)),.b q3 (.cells ⟨[.bool (di K on 0 0),.bool (di K on 0 1),.bool (di K on 0 2),.bool (di K on 0 3),.bool (di K on 1 0),.bool (di K on 1 1),.bool (di K on 1 2),.bool (di K on 1 3),.bool (di K on 2 0),.bool (di K on 2 1),.bool (di K on 2 2),.bool (di K on 2 3),.bool (di K on 3 0),.bool (di K on 3 1),.bool (di K on 3 2),.bool (di K on 3 3)]⟩ 153 (0,0)),.b q4 (.cells ⟨[.int .u8 on]⟩ 105 (0,0))]<|jf [0,1,2,3,5] ((q1,.cells ⟨[zP f]⟩ 100 (0,0))::((q2,.cells ⟨[.func (.func 116) ⟨[]⟩ ⟨[zP q1,zP q4]⟩]⟩ 218 (0,0))::((q3,.cells ⟨[.bool (di K on 0 0),.bool (di K on 0 1),.bool (di K on 0 2),.bool (di K on 0 3),.bool (di K on 1 0),.bool (di K on 1 1),.bool (di K on 1 2),.bool (di K on 1 3),.bool (di K on 2 0),.bool (di K on 2 1),.bool (di K on 2 2),.bool (di K on 2 3),.bool (di K on 3 0),.bool (di K on 3 1),.bool (di K on 3 2),.bool (di K on 3 3)]⟩ 153 (0,0))::((q4,.cells ⟨[.int .u8 on]⟩ 105 (0,0))::[(b2,.cells ⟨[zP f]⟩ 100 (0,0))])))) fun za bX iI=>zD 2<|jrf [] (Xp (on:=on) (hF.up bX) hV (iI _ (.head _)) (iI _ (.tail _ (.head _))) (iI _ (.tail _ (.tail _ (.head _)))) (iI _ (.tail _ (.tail _ (.tail _ (.head _)))))) (by rintro _ _ _ _ ⟨_,_,rfl,_⟩;rfl) (fun(zz:Bool)=>[.b b5 (.cells ⟨[.bool zz]⟩ 4 (0,0))]) (fun kk=>(fun(zz:Bool)=>zz=false∧(((aO K on).take kk).any fun p=>Jg K rows p rows.length)=false)) (fun jump=>(fun(zz:Bool)=>jump= .exit 0∧zz=true∧abd K rows on=true)) false ⟨rfl,rfl⟩ [0] ?_ ?_ ?_
 ·
  rintro bl4 bd4 kk4 vs4 LL4 bo ro4 hk4 avm hI j5
  obtain⟨p4,hp4,rfl,rfl⟩:=avm
  have hpb:=(jT hV on).2 p4 (zL hp4)
  refine zD 1<|jn fun b6=>jd 2 [0]<|aBW<|zD 3<|jl (b:=b2) (off:=0) (m:=1) (vs:=[zP f]) 0 ⟨_,_,_,.inl (j5 _ _ (iI _ (.tail _ (.tail _ (.tail _ (.tail _ (.head _))))))),rfl⟩<|zD 2<|jl (b:=f) (off:=0) (m:=13) (vs:=[c0,c1,c2,.slice ei K.cs.length dW,.slice dG hv.length dr,.slice kH K.rules.length kG,.slice lA K.before.length kI,.slice lD K.after.length kJ,zI K.gone,zI K.new,zI K.af,.slice lY K.facts.length kY,.slice ni rows.length mH]) 12 ⟨_,_,_,.inl (j5 _ _ (bX _ _ hf)),rfl⟩<|zD 4<|aLN [1] [1,0,1,1,0,1,0,3,0,1,0,0] [] (fun(zz:Nat×Bool)=>[(2,zP b2),(4,.bool false),(5,zP b5),(6,zP b6),(16,zI (rows.length:Int)),(17,zI (zz.1:Int))]) (fun zz=>[.b b5 (.cells ⟨[.bool zz.2]⟩ 4 (0,0)),.b b6 (.cells ⟨[zI (p4 0),zI (p4 1),zI (p4 2),zI (p4 3)]⟩ 126 (0,0))]) (fun zz=>zz.1≤rows.length∧zz.2=false∧Jg K rows p4 zz.1=false) (fun zz=>rows.length-zz.1) (⟨0,bo⟩) ⟨Nat.zero_le _,hI.1,rfl⟩ [2,0,1] ?_
  rintro⟨i,bo⟩ hJ K1 bL rest
  dsimp only at hJ
  refine zD 5<|zJ 18 ((i:Int) <(rows.length:Int)) (fun h5=>?_) fun h5=>?_
  ·
   refine zD 5 ?_
   obtain⟨r_,B2⟩:∃r_,rows[i]?=some r_:=⟨_,List.getElem?_eq_getElem (by omega)⟩
   refine zD 6<|jl (b:=b2) (off:=0) (m:=1) (vs:=[zP f]) 0 ⟨_,_,_,.inl (j5 _ _ (iI _ (.tail _ (.tail _ (.tail _ (.tail _ (.head _))))))),rfl⟩<|jl (b:=b2) (off:=0) (m:=1) (vs:=[zP f]) 0 ⟨_,_,_,.inl (j5 _ _ (iI _ (.tail _ (.tail _ (.tail _ (.tail _ (.head _))))))),rfl⟩<|jd 2 [1]<|jp (vs:=[zP f,zI (i:Int),.agg ⟨[zI (p4 0),zI (p4 1),zI (p4 2),zI (p4 3)]⟩]) [] [] (fun aH hs hZ=>apz (hF.up (Sub.trans (bX.trans j5) hs)) hV B2 hpb)<|jp (vs:=[zP f,.agg ⟨[zI ((cq K r_ i p4).past),zI ((cq K r_ i p4).w0),zI ((cq K r_ i p4).w1),zI ((cq K r_ i p4).w2),zI ((cq K r_ i p4).w3),zI ((cq K r_ i p4).gone),zI ((cq K r_ i p4).new),zI ((cq K r_ i p4).af)]⟩]) [] [] (fun aH hs hZ=>afe (x:=(cq K r_ i p4)) (hs _ _ (j5 _ _ (bX _ _ hf))))<|aS 6 fun zl zt yR=>jd 1 [0]<|fT yR<|jd 5 [0]<|js 26 (cE K.gone K.new K.af (cq K r_ i p4)) (fun h7=>?_) (fun h7=>?_)
   ·
    refine zD 2<|jys ZF (Sub.refl _) (.exit 0) (cE K.gone K.new K.af (cq K r_ i p4)) ⟨rfl,by assumption,List.any_eq_true.2 ⟨p4,zL hp4,aoc (i:=i+1) (by rw[YG B2];simp[*]) (by omega)⟩⟩ [2,0]
   refine zD 3<|ja ((i:Int)+1) (by omega)<|zD 2<|bJ bL (⟨i+1,(cE K.gone K.new K.af (cq K r_ i p4))⟩) ⟨by dsimp only;omega,by assumption,by dsimp only;rw[YG B2,hJ.2.2,Bool.false_or];assumption⟩ (by dsimp only;omega) [0,1,2] (Sub.refl _)
  refine zD 2<|jyn ZF (Sub.refl _) bo ⟨hJ.2.1,ajc hp4 hI.2 (by have:=hJ.2.2;rwa[show i=rows.length by omega] at this)⟩ [2,0]
 ·
  rintro bd4 bo Z4 hI hZ4
  subst hZ4
  refine jd 6 [2]<|jrM qm0.a.m (.bool bo) [0] [] [] [] bX ⟨by have:=hI.2;rw[List.take_of_length_le (Nat.le_refl _)] at this;rw[hI.1,abd,this],rfl⟩
 rintro bd4 bo Z4 jump hS hZ4
 obtain⟨rfl,hS⟩:=hS
 subst hZ4
 refine jd 6 [2]<|jrM qm0.a.m (.bool bo) [0] [] [] [] bX ⟨by rw[hS.1,hS.2],rfl⟩
def iAn(k:IntKind)(a b:Int):Int:=k.wrap (BitVec.ofInt k.bits a&&& ~~~ BitVec.ofInt k.bits b).toNat
theorem as6:oQ 0=[0]:=by kernel_rfl
theorem as5:oQ 1=[0,1]:=by kernel_rfl
theorem as4:oQ 2=[0,1,2,3]:=by kernel_rfl
theorem as3:oQ 3=[0,1,2,4,3,5,6,7]:=by kernel_rfl
theorem aeC{n:Nat}(h:n≤3):(oQ n).length≤8∧∀m∈oQ n,0≤m∧m <16:=by
 obtain rfl|rfl|rfl|rfl:n=0∨n=1∨n=2∨n=3:=by omega
 ·rw[as6];decide
 ·rw[as5];decide
 ·rw[as4];decide
 rw[as3];decide
def LD(K:aC)(rows:List bG):Option Int:=(oQ K.facts.length).find? fun m=>abd K rows (iAn .u8 (aD K) m)
theorem Yf{p:α→Bool}{l:List α}{x:α}(hx:l[k]?=some x):(l.drop k).find? p=bif p x then some x else (l.drop (k+1)).find? p:=by rw[fo hx,List.find?_cons];cases p x<;>rfl
theorem ah6{p:α→Bool}{l:List α}(hx:¬k <l.length):(l.drop k).find? p=none:=by rw[eo hx];rfl
theorem ath{rows:List bG}(hK:fP ro l K)(hV:eN K)(hR:rows.length≤2)(hB:jE ro l K rows)(hn3:K.facts.length≤3):dR zT 22 [.agg ⟨l⟩] ro [] (fun r Y=>∃v e,r= .tuple ⟨[v,zI e]⟩∧((∃m,LD K rows=some m∧ay v 1 3 cz (lP m 4) Y∧e=0)∨(LD K rows=none∧v= zS∧e=11∧Y=[]))):=by
 obtain⟨v0,v1,v3,v4,v5,v6,v7,vb,fa,fc,hv,rfl,_⟩:=hK
 have QS:=aeC hn3
 have UD:=QS.1
 refine zE<|zD 2<|jn fun b1=>jd 6 [0]<|jc (vs:=[.agg ⟨[v0,v1,.slice fa 0 fc,v3,v4,v5,v6,v7,zI K.gone,zI K.new,zI K.af,vb]⟩]) [] (hB _ (Sub.refl _)) ?_
 rintro _ Y10 ⟨f10,rfl,awc⟩
 refine zD 5<|jf [0] Y10 (fun za bX iI=>?_)
 have En:=awc _ bX iI
 refine zD 13<|jc (vs:=[zP f10]) [] (aE6 En hV hn3) ?_
 rintro v17 L17 ⟨_,B5,rfl⟩
 refine B0 B5<|zD 3<|dS [1,1,1,0,1,0,0] [] (fun(zz:Nat)=>[(4,zP f10),(17,v17),(18,zI ((oQ K.facts.length).length:Int)),(19,zI (zz:Int))]) (fun zz=>[.l L17,.b b1 (.cells ⟨[v0,v1,.slice fa 0 fc,v3,v4,v5,v6,v7,zI K.gone,zI K.new,zI K.af,vb]⟩ 40 (0,0))]) (fun zz=>zz≤(oQ K.facts.length).length∧LD K rows=((oQ K.facts.length).drop zz).find? (fun m=>abd K rows (iAn .u8 (aD K) m))) (fun zz=>(oQ K.facts.length).length-zz) 0 ⟨Nat.zero_le _,rfl⟩ [0,1] ?_
 rintro k hI K1 bL rest
 refine zD 5<|zJ 20 ((k:Int) <((oQ K.facts.length).length:Int)) (fun h4=>?_) fun h4=>?_
 ·
  refine zD 6 ?_
  obtain⟨x6,pR⟩:=zG ((oQ K.facts.length)) k (by first|omega| (simp only[List.length_set,zM];omega))
  refine jxo 1 B5 pR fun b21 aPg=>oH 0 [0] L17 (fun s _ hZ=>cw B5 aPg hZ pR)<|zD 6<|jp (vs:=[zP f10]) [] [] (fun aH hs hZ=>Dq hV (En.up hs))<|zD 1<|je (.int .u8 (iAn .u8 (aD K) x6)) rfl<|jc (vs:=[zP f10,.int .u8 (iAn .u8 (aD K) x6)]) [] (aQK En hV (by omega)) ?_
  rintro _ _ ⟨rfl,rfl⟩
  refine jg 0 []<|zD 1<|js 28 (abd K rows (iAn .u8 (aD K) x6)) (fun h5=>?_) (fun h5=>?_)
  ·
   refine zD 4<|jc (vs:=[.int .u8 x6]) [] (aid) ?_
   rintro v30 L30 ⟨_,B4,rfl⟩
   refine zD 4<|aM q0.a (.tuple ⟨[v30,zI 0]⟩) [] [0] L30 bX ⟨_,_,rfl,rfl,_,_,rfl,.inl ⟨_,by rw[hI.2,Yf pR];simp only[*,cond_true],B4,rfl⟩⟩
  refine zD 3<|ja ((k:Int)+1) (by omega)<|zD 2<|bJ bL (k+1) ⟨by omega,by rw[hI.2,Yf pR];simp only[*,cond_false]⟩ (by omega) [0,1] (Sub.refl _)
 refine zD 8<|aM q0.a (.tuple ⟨[zS,zI 11]⟩) [] [] [] bX ⟨_,_,rfl,rfl,_,_,rfl,.inr ⟨by rw[hI.2,ah6 (by omega)],rfl,rfl,rfl⟩⟩
theorem afd{f:Nat}{rows:List bG}(hF:oL ro f K rows)(hV:eN K)(hR:rows.length≤2):Fb zT 52 [zP f] ro [] (fun r Y=>∃zs v e,r= .tuple ⟨[v,zI e]⟩∧zs.Perm (cW K (aD K) (cE K.gone K.new K.af) rows)∧ay v 8 128 cP zs Y∧((zs=[]∧e=9)∨(zs≠[]∧e=0))):=by
 refine GD au [] [] bn fun fr=>zD 9<|jp (vs:=[zP f]) [] [] (fun aH hs hZ=>Dq hV (hF.up hs))<|Sq (vs:=[zP f,.int .u8 (aD K)]) [] (fun _ _ h=>h) (Xn hV hF hR) ?_
 rintro v8 Y8 ⟨zs,hz,ho8⟩
 refine zD 6<|B0 ho8<|zD 2<|zJ 11 ((zs.length:Int)=0) (fun h1=>?_) fun h1=>?_
 ·
  refine zD 7<|Ub qC (.tuple ⟨[zS,zI 9]⟩) [1] [] (Sub.refl _) ⟨zs,_,_,rfl,hz,by rw[show zs=[] from List.eq_nil_of_length_eq_zero (by omega)];exact ay.nil _ _ _,.inl ⟨List.eq_nil_of_length_eq_zero (by omega),rfl⟩⟩
 refine zD 9<|Ub qC (.tuple ⟨[v8,zI 0]⟩) [0,1] Y8 (Sub.refl _) ⟨zs,_,_,rfl,hz,ho8,.inr ⟨fun e=>by subst e;simp at*,rfl⟩⟩
theorem afc{rows:List bG}(hK:fP ro l K)(hV:eN K)(hR:rows.length≤2)(hB:jE ro l K rows):axf zT 55 [.agg ⟨l⟩] ro [] (fun r aH Y=>∃f zs v e,r= .tuple ⟨[pV f,v,zI e]⟩∧oL aH f K rows∧zs.Perm (cW K (aD K) (cE K.gone K.new K.af) rows)∧ay v 8 128 cP zs Y∧((zs=[]∧e=9)∨(zs≠[]∧e=0))):=by
 obtain⟨v0,v1,v3,v4,v5,v6,v7,vb,fa,fc,hv,rfl,_⟩:=hK
 refine aBU (hm:=au) [] [] bn fun fr=>zD 2<|jn fun b1=>jd 7 [0]<|jc (vs:=[.agg ⟨[v0,v1,.slice fa 0 fc,v3,v4,v5,v6,v7,zI K.gone,zI K.new,zI K.af,vb]⟩]) [] (hB _ (Sub.refl _)) ?_
 rintro _ Y10 ⟨f10,rfl,awc⟩
 refine zD 5<|jf [0] Y10 (fun za bX iI=>?_)
 have En:=awc _ bX iI
 refine zD 12<|Sq (vs:=[zP f10]) [] (fun _ _ h=>h) (afd En hV hR) ?_
 rintro _ Y18 ⟨zs,v18,e18,rfl,hz,aaA,he⟩
 refine zD 16<|aLG qC.a (.tuple ⟨[zP f10,v18,zI e18]⟩) [0,2] Y18 bX ⟨f10,zs,v18,e18,rfl,En,hz,aaA,he⟩
theorem ame{x:aj}:dD zT 84 [.agg ⟨[zI x.past,zI x.w0,zI x.w1,zI x.w2,zI x.w3,zI x.gone,zI x.new,zI x.af]⟩] ro (zI x.af):=by
 refine zE<|zD 2<|jn fun b1=>jd 9 [0]<|zX (zI x.af) ⟨rfl,rfl⟩
theorem ae5{rows:List bG}(hK:fP ro l K)(hV:eN K)(hR:rows.length≤2)(hB:jE ro l K rows):Fb zT 59 [.agg ⟨l⟩,.func (.func 84) ⟨[]⟩ ⟨[]⟩] ro [] (fun r Y=>∃zs a b e,zs.Perm (cW K (aD K) (cE K.gone K.new K.af) rows)∧Y=[]∧r= .tuple ⟨[.agg ⟨[zI a,zI b]⟩,zI e]⟩∧((zs=[]∧a=0∧b=0∧e=9)∨(zs≠[]∧a=uG (zs.map fun x=>x.af)∧b=BT (zs.map fun x=>x.af)∧e=0))):=by
 obtain⟨v0,v1,v3,v4,v5,v6,v7,vb,fa,fc,hv,rfl,_⟩:=id hK
 refine GD au [] [] bn fun fr=>zD 2<|jn fun b2=>jn fun b4=>jd 5 [1]<|atL (vs:=[.agg ⟨[v0,v1,.slice fa 0 fc,v3,v4,v5,v6,v7,zI K.gone,zI K.new,zI K.af,vb]⟩]) [] (fun _ _ h=>h) (afc hK hV hR hB) ?_
 rintro _ aH Y14 bX ⟨f14,zs,v14,NR,rfl,En,hz,Uz,he⟩
 have Uv:∀x∈zs,(-4≤x.gone∧x.gone≤4)∧(-4≤x.new∧x.new≤4)∧(0≤x.af∧x.af≤4):=fun x hx=>by obtain⟨i,r,p,_,_,rfl,_⟩:=iz (hz.mem_iff.1 hx);exact pn hV r i p
 have hzl:zs.length≤1250:=by rw[hz.length_eq];exact qp hV _ _ hR
 refine zD 7<|jf [0] Y14 (fun ro4 pU hk3=>?_)
 have hZ1:=Uz.kQ hk3
 obtain⟨xw,TJ,TG,uF,rfl,TH,MB,MA⟩:=hZ1
 refine zD 7<|js 19 (!decide (NR=0)) (fun h5=>?_) (fun h5=>?_)
 ·
  replace h5:=of_decide_eq_false (by simpa using h5)
  have uU:zs=[]∧NR=9:=by rcases he with h| ⟨_,h⟩;exact h;omega
  refine jd 9 [0]<|atJ qC.a.a (.tuple ⟨[.agg ⟨[zI 0,zI 0]⟩,zI NR]⟩) [0] [2] [] (bX.trans pU) ⟨zs,_,_,_,hz,rfl,rfl,.inl ⟨uU.1,rfl,rfl,uU.2⟩⟩
 replace h5:=of_decide_eq_true (by simpa using h5)
 have uU:zs≠[]∧NR=0:=by rcases he with ⟨_,h⟩|h;omega;exact h
 have hzp:0 <zs.length:=List.length_pos_iff.2 uU.1
 refine zD 14<|oR<|dS [1,1,1,1,0,1,0,0] [] (fun(zz:Nat×Value×Cells)=>[(1,.func (.func 84) ⟨[]⟩ ⟨[]⟩),(4,zP b4),(5,zI 0),(9,zz.2.1),(22,.slice xw zs.length uF),(23,zI (zs.length:Int)),(24,zI (zz.1:Int))]) (fun zz=>[.l zz.2.2,.b b4 (.cells ⟨[zI 0,zI 0]⟩ 65 (0,0)),.b b2 (.cells ⟨[v0,v1,.slice fa 0 fc,v3,v4,v5,v6,v7,zI K.gone,zI K.new,zI K.af,vb]⟩ 40 (0,0)),.l fr]) (fun zz=>zz.1≤zs.length∧ay zz.2.1 1 3 cz ((zs.take zz.1).map fun x=>x.af) zz.2.2) (fun zz=>zs.length-zz.1) (⟨0,zS,[]⟩) ⟨by dsimp only;omega,ay.nil _ _ _⟩ (zN 0 4) ?_
 rintro⟨k,vS,LS⟩ hI K1 bL rest
 dsimp only at hI
 refine zD 5<|zJ 25 ((k:Int) <(zs.length:Int)) (fun h6=>?_) fun h6=>?_
 ·
  refine zD 6 ?_
  obtain⟨SM,aaq⟩:=zG zs k
  refine iB uF 8 MB aaq<|jl 0 (MA _ _ aaq)<|jn fun SI=>jd 6 [0,0]<|jp (vs:=[.agg ⟨[zI SM.past,zI SM.w0,zI SM.w1,zI SM.w2,zI SM.w3,zI SM.gone,zI SM.new,zI SM.af]⟩]) [] [] (fun aH hs hZ=>(ame (x:=SM)))<|jn fun b32=>iC (sz:=1) (ps:=((zs.take k).map fun x=>x.af)) (qs:=[SM.af]) (enc:=cz) (w:= .slice (some ⟨b32,0,none⟩) 1 1) [2] [0] [(b32,.cells ⟨([SM.af].map cz).flatten⟩ 3 (0,0))] (hI.2) (fun s _ hZ=>bN [SM.af] (hZ _ (.head _)) (by intro p hp;rfl)) (fun p _=>ai rfl) (by simp only[List.length_map,List.length_take,List.length_cons,List.length_nil];omega) (fun v33 L33 pX=>?_)
  obtain⟨S0,SU,UK⟩:=pX.form
  subst UK
  refine zD 3<|ja ((k:Int)+1) (by omega)<|zD 2<|bJ bL (⟨k+1,(.slice S0 ((((zs.take k).map fun x=>x.af)++[SM.af])).length SU),L33⟩) ⟨by dsimp only;omega,by rw[jh aaq,List.map_append];exact pX⟩ (by dsimp only;omega) [0,3,4,5] (Sub.refl _)
 refine zD 5<|jp (vs:=[vS]) [0] LS (fun aH hs hZ=>apw (hI.2.kQ hZ) ⟨by simp only[List.length_map,List.length_take];omega,by simp only[List.length_map,List.length_take];omega⟩) ?_
 refine jd 4 [1]<|atJ qC.a.a (.tuple ⟨[.agg ⟨[zI (uG ((zs.take k).map fun x=>x.af)),zI (BT ((zs.take k).map fun x=>x.af))]⟩,zI 0]⟩) [1] [3] [] (bX.trans pU) ⟨zs,_,_,_,hz,rfl,rfl,.inr ⟨uU.1,by rw[show k=zs.length by omega,List.take_length],by rw[show k=zs.length by omega,List.take_length],rfl⟩⟩
theorem aty{rows:List bG}(hK:fP ro l K)(hV:eN K)(hR:rows.length≤2)(hB:jE ro l K rows):Fb zT 47 [.agg ⟨l⟩] ro [] (fun r Y=>∃zs a b e,zs.Perm (cW K (aD K) (cE K.gone K.new K.af) rows)∧Y=[]∧r= .tuple ⟨[.agg ⟨[zI a,zI b]⟩,zI e]⟩∧((zs=[]∧a=0∧b=0∧e=9)∨(zs≠[]∧a=uG (zs.map fun x=>x.af)∧b=BT (zs.map fun x=>x.af)∧e=0))):=by
 obtain⟨v0,v1,v3,v4,v5,v6,v7,vb,fa,fc,hv,rfl,_⟩:=id hK
 refine GD au [] [] bn fun fr=>zD 2<|jn fun b1=>jn fun b2=>jd 5 [1]<|Sq (vs:=[.agg ⟨[v0,v1,.slice fa 0 fc,v3,v4,v5,v6,v7,zI K.gone,zI K.new,zI K.af,vb]⟩,.func (.func 84) ⟨[]⟩ ⟨[]⟩]) [] (fun _ _ h=>h) (ae5 hK hV hR hB) ?_
 rintro _ _ ⟨zs,a5,c5,e5,hz,rfl,rfl,he⟩
 refine jg 0 []<|jd 6 [0]<|atJ qC (.tuple ⟨[.agg ⟨[zI a5,zI c5]⟩,zI e5]⟩) [0] [2] [] (Sub.refl _) ⟨zs,_,_,_,hz,rfl,rfl,he⟩
theorem atx{a:Int}:dD zT 83 [zI a,zI b] ro (.bool (decide (a=b))):=by
 refine zE<|zD 12<|zX (.bool (decide (a=b))) ⟨rfl,rfl⟩
theorem aFq{a:Int}{s:Bool}:dD zT 17 [zI a,zI b,.bool s] ro (.agg ⟨[zI a,zI b,.bool s]⟩):=by
 refine zE<|zD 2<|jn fun b6=>jd 10 [0]<|zR (.agg ⟨[zI a,zI b,.bool s]⟩) [0] [] [] ⟨rfl,rfl⟩
theorem cAt{w:ByteArray}{a c:Int}:dD zT 81 [.string w,zI a,zI b,zI c] ro (.agg ⟨[.string w,zI a,zI b,zI c,.bool false]⟩):=by
 refine zE<|zD 2<|jn fun b8=>jd 11 [0]<|zR (.agg ⟨[.string w,zI a,zI b,zI c,.bool false]⟩) [0] [] [] ⟨rfl,rfl⟩
theorem aFr{w:ByteArray}{a:Int}:dD zT 80 [.string w,zI a] ro (.agg ⟨[.string w,zI (-1),zI a,(zS)]⟩):=by
 refine zE<|zD 2<|jn fun b4=>jd 9 [0]<|zR (.agg ⟨[.string w,zI (-1),zI a,zS]⟩) [0] [] [] ⟨rfl,rfl⟩
theorem cIs{w:ByteArray}{a:Int}{va:Option Addr}{vn vc:Nat}:dD zT 79 [.string w,zI a,(.slice va vn vc)] ro (.agg ⟨[.string w,zI a,zI (-1),(.slice va vn vc)]⟩):=by
 refine zE<|zD 2<|jn fun b6=>jd 10 [0]<|zR (.agg ⟨[.string w,zI a,zI (-1),(.slice va vn vc)]⟩) [0] [] [] ⟨rfl,rfl⟩
def Vs:List bO:=[⟨(bs [102,111,111,100]),-1⟩,⟨(bs [98,114,101,97,100]),0⟩,⟨(bs [99,108,111,116,104]),-1⟩,⟨(bs [104,97,116,115]),2⟩]
def Cw:List cm:=[⟨(bs [98,97,107,101,114]),1,-1,[]⟩,⟨(bs [98,111,110,110,101,116,115]),-1,3,[]⟩,⟨(bs [99,111,110,102,101,99,116,105,111,110,101,114]),0,-1,[0]⟩,⟨(bs [104,97,116,116,101,114]),3,-1,[]⟩,⟨(bs [109,101,114,99,101,114]),2,-1,[3]⟩,⟨(bs [109,105,108,108,105,110,101,114]),-1,1,[]⟩]
def NZ:List aA:=[⟨(bs [115,109,105,116,104]),0,1,0,false⟩,⟨(bs [97,110,110,97]),0,2,3,false⟩,⟨(bs [115,109,121,116,104]),1,1,2,false⟩]
def N0:List aA:=[⟨(bs [115,109,121,116,104]),0,2,0,false⟩,⟨(bs [115,109,105,116,104]),1,1,-1,false⟩,⟨(bs [98,101,110]),0,1,4,false⟩]
abbrev aW(n:Int):aC where
 ways:=[[⟨1,0,0,0,0,0,0⟩,⟨2,0,0,0,0,0,0⟩]]
 cs:=Vs
 hd:=Cw
 rules:=[⟨(bs [121]),(bs [105])⟩]
 before:=NZ
 after:=N0
 gone:=1
 new:=1
 af:=n
 facts:=[]
 str:=[[⟨1,0⟩,⟨2,0⟩],[⟨1,0⟩]]
abbrev DC(nQ ID b9 y5 rN qH Bn:Nat)(n:Int):List Value:=[.slice (some ⟨nQ,0,none⟩) 2 2,.slice (some ⟨ID,0,none⟩) 1 1,zS,.slice (some ⟨b9,0,none⟩) 4 4,.slice (some ⟨y5,0,none⟩) 6 6,.slice (some ⟨rN,0,none⟩) 1 1,.slice (some ⟨qH,0,none⟩) 3 3,.slice (some ⟨Bn,0,none⟩) 3 3,zI 1,zI 1,zI n,zS]
abbrev HJ(nQ Oa H4 ID IE b9 y5 wz H6 rN qH Bn:Nat):Cells:=[(nQ,.cells ⟨[.slice (some ⟨Oa,0,none⟩) 2 2,.slice (some ⟨H4,0,none⟩) 1 1]⟩ 80 (0,0)),(Oa,.cells ⟨[zI 1,zI 0,zI 2,zI 0]⟩ 79 (0,0)),(H4,.cells ⟨[zI 1,zI 0]⟩ 79 (0,0)),(ID,.cells ⟨[.slice (some ⟨IE,0,none⟩) 2 2]⟩ 87 (0,0)),(IE,.cells ⟨[zI 1,zI 0,zI 0,zI 0,zI 0,zI 0,zI 0,zI 2,zI 0,zI 0,zI 0,zI 0,zI 0,zI 0]⟩ 83 (0,0)),(b9,.cells ⟨[.string (bs [102,111,111,100]),zI (-1),.string (bs [98,114,101,97,100]),zI 0,.string (bs [99,108,111,116,104]),zI (-1),.string (bs [104,97,116,115]),zI 2]⟩ 142 (0,0)),(y5,.cells ⟨[.string (bs [98,97,107,101,114]),zI 1,zI (-1),zS,.string (bs [98,111,110,110,101,116,115]),zI (-1),zI 3,zS,.string (bs [99,111,110,102,101,99,116,105,111,110,101,114]),zI 0,zI (-1),.slice (some ⟨wz,0,none⟩) 1 1,.string (bs [104,97,116,116,101,114]),zI 3,zI (-1),zS,.string (bs [109,101,114,99,101,114]),zI 2,zI (-1),.slice (some ⟨H6,0,none⟩) 1 1,.string (bs [109,105,108,108,105,110,101,114]),zI (-1),zI 1,zS]⟩ 145 (0,0)),(wz,.cells ⟨[zI 0]⟩ 3 (0,0)),(H6,.cells ⟨[zI 3]⟩ 3 (0,0)),(rN,.cells ⟨[.string (bs [121]),.string (bs [105])]⟩ 45 (0,0)),(qH,.cells ⟨[.string (bs [115,109,105,116,104]),zI 0,zI 1,zI 0,.bool false,.string (bs [97,110,110,97]),zI 0,zI 2,zI 3,.bool false,.string (bs [115,109,121,116,104]),zI 1,zI 1,zI 2,.bool false]⟩ 55 (0,0)),(Bn,.cells ⟨[.string (bs [115,109,121,116,104]),zI 0,zI 2,zI 0,.bool false,.string (bs [115,109,105,116,104]),zI 1,zI 1,zI (-1),.bool false,.string (bs [98,101,110]),zI 0,zI 1,zI 4,.bool false]⟩ 55 (0,0))]
abbrev aiO(wz H6:Nat):List bx:=[⟨(bs [98,97,107,101,114]),1,-1,zS⟩,⟨(bs [98,111,110,110,101,116,115]),-1,3,zS⟩,⟨(bs [99,111,110,102,101,99,116,105,111,110,101,114]),0,-1,.slice (some ⟨wz,0,none⟩) 1 1⟩,⟨(bs [104,97,116,116,101,114]),3,-1,zS⟩,⟨(bs [109,101,114,99,101,114]),2,-1,.slice (some ⟨H6,0,none⟩) 1 1⟩,⟨(bs [109,105,108,108,105,110,101,114]),-1,1,zS⟩]
theorem Li{nQ Oa H4 ID IE b9 y5 wz H6 rN qH Bn:Nat}(hk:Knows ro (HJ nQ Oa H4 ID IE b9 y5 wz H6 rN qH Bn)):fP ro (DC nQ ID b9 y5 rN qH Bn n) (aW n):=
 ⟨_,_,_,_,_,_,_,_,none,0,aiO wz H6,rfl,
  ⟨[.slice (some ⟨Oa,0,none⟩) 2 2,.slice (some ⟨H4,0,none⟩) 1 1],bC (enc:=gv) (T:=80) [.slice (some ⟨Oa,0,none⟩) 2 2,.slice (some ⟨H4,0,none⟩) 1 1] (hk _ (.head _)) (fun _ _=>rfl),
   .cons (bC (enc:=cG) (T:=79) [⟨1,0⟩,⟨2,0⟩] (hk _ (.tail _ (.head _))) (fun _ _=>rfl)) (.cons (bC (enc:=cG) (T:=79) [⟨1,0⟩] (hk _ (.tail _ (.tail _ (.head _)))) (fun _ _=>rfl)) .nil)⟩,
  ⟨[.slice (some ⟨IE,0,none⟩) 2 2],bC (enc:=gv) (T:=87) [.slice (some ⟨IE,0,none⟩) 2 2] (hk _ (.tail _ (.tail _ (.tail _ (.head _))))) (fun _ _=>rfl),
   .cons (bC (enc:=kA) (T:=83) [⟨1,0,0,0,0,0,0⟩,⟨2,0,0,0,0,0,0⟩] (hk _ (.tail _ (.tail _ (.tail _ (.tail _ (.head _)))))) (fun _ _=>rfl)) .nil⟩,
  ⟨bC (enc:=oK) (T:=142) Vs (hk _ (.tail _ (.tail _ (.tail _ (.tail _ (.tail _ (.head _))))))) (fun _ _=>rfl),bC (enc:=lS) (T:=145) (aiO wz H6) (hk _ (.tail _ (.tail _ (.tail _ (.tail _ (.tail _ (.tail _ (.head _)))))))) (fun _ _=>rfl),
   .cons ⟨rfl,rfl,rfl,bI.nil _ _ _ _ _⟩ (.cons ⟨rfl,rfl,rfl,bI.nil _ _ _ _ _⟩ (.cons ⟨rfl,rfl,rfl,bC (enc:=cz) (T:=3) [0] (hk _ (.tail _ (.tail _ (.tail _ (.tail _ (.tail _ (.tail _ (.tail _ (.head _))))))))) (fun _ _=>rfl)⟩ (.cons ⟨rfl,rfl,rfl,bI.nil _ _ _ _ _⟩ (.cons ⟨rfl,rfl,rfl,bC (enc:=cz) (T:=3) [3] (hk _ (.tail _ (.tail _ (.tail _ (.tail _ (.tail _ (.tail _ (.tail _ (.tail _ (.head _)))))))))) (fun _ _=>rfl)⟩ (.cons ⟨rfl,rfl,rfl,bI.nil _ _ _ _ _⟩ .nil)))))⟩,
  .cons ⟨rfl,rfl,rfl⟩ (.cons ⟨rfl,rfl,rfl⟩ (.cons ⟨rfl,rfl,rfl⟩ (.cons ⟨rfl,rfl,rfl⟩ (.cons ⟨rfl,rfl,rfl⟩ (.cons ⟨rfl,rfl,rfl⟩ .nil))))),
  bC (enc:=e9) (T:=45) [⟨(bs [121]),(bs [105])⟩] (hk _ (.tail _ (.tail _ (.tail _ (.tail _ (.tail _ (.tail _ (.tail _ (.tail _ (.tail _ (.head _))))))))))) (fun _ _=>rfl),bC (enc:=eA) (T:=55) NZ (hk _ (.tail _ (.tail _ (.tail _ (.tail _ (.tail _ (.tail _ (.tail _ (.tail _ (.tail _ (.tail _ (.head _)))))))))))) (fun _ _=>rfl),bC (enc:=eA) (T:=55) N0 (hk _ (.tail _ (.tail _ (.tail _ (.tail _ (.tail _ (.tail _ (.tail _ (.tail _ (.tail _ (.tail _ (.tail _ (.head _))))))))))))) (fun _ _=>rfl),bI.nil _ _ _ _ _⟩
theorem Lj(nQ ID b9 y5 rN qH Bn:Nat)(n:Int):VT (aW n) (DC nQ ID b9 y5 rN qH Bn n):=
 ⟨_,_,_,_,_,_,_,_,none,0,rfl,zw rfl rfl rfl rfl rfl rfl rfl rfl⟩
theorem Lq:dR zT 45 [zI n] ro [] (fun r Y=>∃l,r= .agg ⟨l⟩∧(∀aI,Knows aI Y→fP aI l (aW n))∧VT (aW n) l):=by
 refine zE<|zD 2<|jn fun b2=>zD 7<|jn fun b9=>jp (vs:=[.string (bs [98,97,107,101,114]),zI 1,zS]) [] [] (fun aH hs hZ=>cIs)<|jp (vs:=[.string (bs [98,111,110,110,101,116,115]),zI 3]) [] [] (fun aH hs hZ=>aFr)<|jn fun wz=>jp (vs:=[.string (bs [99,111,110,102,101,99,116,105,111,110,101,114]),zI 0,.slice (some ⟨wz,0,none⟩) 1 1]) [] [] (fun aH hs hZ=>cIs)<|jp (vs:=[.string (bs [104,97,116,116,101,114]),zI 3,zS]) [] [] (fun aH hs hZ=>cIs)<|jn fun H6=>jp (vs:=[.string (bs [109,101,114,99,101,114]),zI 2,.slice (some ⟨H6,0,none⟩) 1 1]) [] [] (fun aH hs hZ=>cIs)<|jp (vs:=[.string (bs [109,105,108,108,105,110,101,114]),zI 1]) [] [] (fun aH hs hZ=>aFr)<|jn fun y5=>zD 1<|jn fun b3=>jd 6 [0]<|jn fun Oa=>zD 1<|jn fun H4=>jn fun nQ=>zD 3<|jn fun IE=>zD 1<|jn fun ID=>zD 1<|jn fun b4=>jd 8 [0,0,6]<|jp (vs:=[.string (bs [115,109,105,116,104]),zI 0,zI 1,zI 0]) [] [] (fun aH hs hZ=>cAt)<|jp (vs:=[.string (bs [97,110,110,97]),zI 0,zI 2,zI 3]) [] [] (fun aH hs hZ=>cAt)<|jp (vs:=[.string (bs [115,109,121,116,104]),zI 1,zI 1,zI 2]) [] [] (fun aH hs hZ=>cAt)<|jp (vs:=[.string (bs [115,109,121,116,104]),zI 0,zI 2,zI 0]) [] [] (fun aH hs hZ=>cAt)<|jp (vs:=[.string (bs [115,109,105,116,104]),zI 1,zI 1,zI (-1)]) [] [] (fun aH hs hZ=>cAt)<|jp (vs:=[.string (bs [98,101,110]),zI 0,zI 1,zI 4]) [] [] (fun aH hs hZ=>cAt)<|ET [3,7,11] ⟨fun z1 t2 p8=>?_,fun z4 t5 hL6=>?_,fun z7 t8 UY=>?_,trivial⟩
 ·
  refine jn fun rN=>ez p8 (zN 1 12)<|ET [7,11] ⟨fun z10 t11 Ci=>?_,fun z13 t14 ahi=>?_,trivial⟩
  ·
   refine jn fun qH=>ez Ci (zN 1 13)<|aS 11 fun ayB azu Em=>jn fun Bn=>ez Em (zN 1 14)<|zD 1<|aS 14 fun V0 Wc Cg=>jd 1 [14]<|fT Cg<|zD 2<|zR (.agg ⟨DC nQ ID b9 y5 rN qH Bn n⟩) [14] [6,8,7,4,5,13,10,12,11,2,1,0] (HJ nQ Oa H4 ID IE b9 y5 wz H6 rN qH Bn) ⟨_,rfl,fun _ hk=>Li hk,Lj _ _ _ _ _ _ _ _⟩
  refine jn fun Bn=>ez ahi (zN 1 13)<|aS 7 fun ab4 acO Nw=>jn fun qH=>ez Nw (zN 1 14)<|zD 1<|aS 14 fun ab3 acN Nv=>jd 1 [14]<|fT Nv<|zD 2<|zR (.agg ⟨DC nQ ID b9 y5 rN qH Bn n⟩) [14] [6,8,7,4,5,13,10,12,11,2,0,1] (HJ nQ Oa H4 ID IE b9 y5 wz H6 rN qH Bn) ⟨_,rfl,fun _ hk=>Li hk,Lj _ _ _ _ _ _ _ _⟩
 ·
  refine jn fun qH=>ez hL6 (zN 1 12)<|ET [3,11] ⟨fun z20 t21 U0=>?_,fun z23 t24 Ns=>?_,trivial⟩
  ·
   refine jn fun rN=>ez U0 (zN 1 13)<|aS 11 fun VZ Wb AF=>jn fun Bn=>ez AF (zN 1 14)<|zD 1<|aS 14 fun Jm Ju Cf=>jd 1 [14]<|fT Cf<|zD 2<|zR (.agg ⟨DC nQ ID b9 y5 rN qH Bn n⟩) [14] [6,8,7,4,5,13,10,12,11,1,2,0] (HJ nQ Oa H4 ID IE b9 y5 wz H6 rN qH Bn) ⟨_,rfl,fun _ hk=>Li hk,Lj _ _ _ _ _ _ _ _⟩
  refine jn fun Bn=>ez Ns (zN 1 13)<|aS 3 fun Jl Jt Ce=>jn fun rN=>ez Ce (zN 1 14)<|zD 1<|aS 14 fun Jk Js Cd=>jd 1 [14]<|fT Cd<|zD 2<|zR (.agg ⟨DC nQ ID b9 y5 rN qH Bn n⟩) [14] [6,8,7,4,5,13,10,12,11,0,2,1] (HJ nQ Oa H4 ID IE b9 y5 wz H6 rN qH Bn) ⟨_,rfl,fun _ hk=>Li hk,Lj _ _ _ _ _ _ _ _⟩
 refine jn fun Bn=>ez UY (zN 1 12)<|ET [3,7] ⟨fun z30 t31 Nq=>?_,fun z33 t34 ahg=>?_,trivial⟩
 ·
  refine jn fun rN=>ez Nq (zN 1 13)<|aS 7 fun ab1 acL Np=>jn fun qH=>ez Np (zN 1 14)<|zD 1<|aS 14 fun ab0 acK UZ=>jd 1 [14]<|fT UZ<|zD 2<|zR (.agg ⟨DC nQ ID b9 y5 rN qH Bn n⟩) [14] [6,8,7,4,5,13,10,12,11,1,0,2] (HJ nQ Oa H4 ID IE b9 y5 wz H6 rN qH Bn) ⟨_,rfl,fun _ hk=>Li hk,Lj _ _ _ _ _ _ _ _⟩
 refine jn fun qH=>ez ahg (zN 1 13)<|aS 3 fun aov aoQ ahf=>jn fun rN=>ez ahf (zN 1 14)<|zD 1<|aS 14 fun aou aoP ahe=>jd 1 [14]<|fT ahe<|zD 2<|zR (.agg ⟨DC nQ ID b9 y5 rN qH Bn n⟩) [14] [6,8,7,4,5,13,10,12,11,0,1,2] (HJ nQ Oa H4 ID IE b9 y5 wz H6 rN qH Bn) ⟨_,rfl,fun _ hk=>Li hk,Lj _ _ _ _ _ _ _ _⟩
instance (nc nh i:Nat)(x:cm):Decidable (gA nc nh i x):=by unfold gA;infer_instance
instance (w:ByteArray):Decidable (Script w):=by unfold Script;infer_instance
theorem VC{p:Nat→α→Prop}{l:List α}(h:∀i (hi:i <l.length),p i l[i]):∀(i:Nat) (x:α),l[i]?=some x→p i x:=fun i x hx=>by
 obtain⟨h1,rfl⟩:=List.getElem?_eq_some_iff.1 hx
 exact h i h1
theorem HI:∀(i:Nat) (x:cm),Cw[i]?=some x→gA 4 6 i x:=VC (by decide)
theorem Vr:∀(i:Nat) (x:cm),Cw[i]?=some x→zp x.word=true:=VC (of_decide_eq_true (by kernel_rfl))
theorem aiN:∀(i:Nat) (x:bO),Vs[i]?=some x→zp x.name=true∧ -1≤x.under∧x.under <i:=VC (of_decide_eq_true (by kernel_rfl))
def auA(hd:List cm)(i:Int):Bool:=decide (i= -1)||(decide (0≤i)&&match hd[i.toNat]? with
 |some x=>decide (0≤x.cls)
 |none=>false)
theorem eZ{i:Int}(h:auA hd i=true):nH hd i:=by
 simp only[auA,Bool.or_eq_true,Bool.and_eq_true,decide_eq_true_eq] at h
 rcases h with h| ⟨h1,h2⟩
 ·exact .inl h
 split at h2
 ·rename_i x hx;exact .inr ⟨h1,x,hx,of_decide_eq_true h2⟩
 cases h2
def PM(p:aA):Bool:=decide (((1≤p.name.size∧p.name.size≤6)∧Script p.name)∧(0≤p.st∧p.st≤1)∧p.bold=false)&&auA Cw p.head
theorem MI{p:aA}(h:PM p=true):E9 Cw p:=by
 simp only[PM,Bool.and_eq_true,decide_eq_true_eq] at h
 exact⟨h.1.1,eZ h.2,h.1.2⟩
theorem adR{p:aA}(h:PM p=true):q5 p.name∧nH Cw p.head:=by
 have:=MI h
 exact⟨⟨this.1.1,this.1.2⟩,this.2.1⟩
theorem Yq:∀p∈NZ,PM p=true:=by decide
theorem Yr:∀p∈N0,PM p=true:=by decide
abbrev DD(n:Int)(fs:List cY):aC:={aW n with facts:=fs}
theorem aqy(h:0≤n∧n≤4)(hf:fs.length≤3)(h1:∀x∈fs,(0≤x.a∧x.a <3)∧(0≤x.b∧x.b <3))(h2:fs.Pairwise fun x y=>¬(x.a=y.a∧x.b=y.b)):ju (DD n fs) where
 oD:=⟨rfl,by simp,by simp[A7],by simp[alr]⟩
 ways:=⟨(by decide:(1:Nat)≤1),by simp[jb]⟩
 cZ:=⟨(by decide:(0:Nat) <4∧4≤6),(by decide:(6:Nat)≤6),HI⟩
 rules:=(by decide:(1:Nat)≤4)
 before:=⟨(by decide:(3:Nat)≤4),fun p hp=>⟨MI (Yq p hp),by
  simp only[NZ,List.mem_cons,List.not_mem_nil,or_false] at hp
  rcases hp with rfl|rfl|rfl
  ·exact⟨_,rfl,by simp⟩
  ·exact⟨_,rfl,by simp⟩
  exact⟨_,rfl,by simp⟩⟩⟩
 after:=⟨(by decide:(3:Nat)≤4),fun p hp=>⟨MI (Yr p hp),by
  simp only[N0,List.mem_cons,List.not_mem_nil,or_false] at hp
  rcases hp with rfl|rfl|rfl<;>decide⟩⟩
 tJ:=⟨(by decide:(0:Int)≤1∧(1:Int)≤4),(by decide:(0:Int)≤1∧(1:Int)≤4),h⟩
 facts:=⟨by show fs.length≤4;omega,h1⟩
 apart:=h2
theorem aqx(hf:fs.length≤3)(h1:∀x∈fs,(0≤x.a∧x.a <3)∧(0≤x.b∧x.b <3)):eN (DD n fs) where
 rules:=⟨(by decide:(1:Nat)≤4),by
  intro r hr
  rw[List.mem_singleton] at hr;subst hr
  have e:FM ⟨bs [121],bs [105]⟩=true:=by kernel_rfl
  simp only[FM,Bool.and_eq_true,Nat.ble_eq,Bool.not_eq_true'] at e
  exact⟨e.1,e.2.1,yD e.2.2.1,yD e.2.2.2.1,e.2.2.2.2⟩⟩
 before:=⟨(by decide:(3:Nat)≤4),fun p hp=>adR (Yq p hp)⟩
 after:=⟨(by decide:(3:Nat)≤4),fun p hp=>adR (Yr p hp)⟩
 cZ:=⟨(by decide:(0:Nat) <4∧4≤6),(by decide:(6:Nat)≤6),aiN,by simp only[zu];decide,fun i x hx=>⟨Vr i x hx,HI i x hx⟩,by simp only[zu,Pj];decide⟩
 facts:=⟨by show fs.length≤4;omega,h1⟩
theorem aFp{v4:Value}{fa fb:Option Addr}{g0 g1 g2:Int}(hs:∀v∈[v0,v1,(.slice fa 0 fc),v3,v4,v5,v6,v7,zI g0,zI g1,zI g2,(.slice fb fn fd)],single v=true):dD zT 49 [.agg ⟨[v0,v1,(.slice fa 0 fc),v3,v4,v5,v6,v7,zI g0,zI g1,zI g2,vb]⟩,(.slice fb fn fd)] ro (.agg ⟨[v0,v1,(.slice fa 0 fc),v3,v4,v5,v6,v7,zI g0,zI g1,zI g2,(.slice fb fn fd)]⟩):=by
 refine zE<|zD 2<|jn fun b2=>jn fun b4=>jd 10 [1,1]<|jsx 0 b4 0 zO [v0,v1,(.slice fa 0 fc),v3,v4,v5,v6,v7,zI g0,zI g1,zI g2,(.slice fb fn fd)] 40 hs rfl<|zD 2<|zR (.agg ⟨[v0,v1,(.slice fa 0 fc),v3,v4,v5,v6,v7,zI g0,zI g1,zI g2,(.slice fb fn fd)]⟩) [0] [] [] ⟨rfl,rfl⟩
def ajz[DecidableEq κ](r:Nat)(kv:κ→Value)(k:κ)(F:List (κ×Value))(b:Nat)(L:Cells):Prop:=
 ∃es ck i u,L=[(r,.map es ck)]∧sY kv F es ck∧rV k F 0=some (i,u)∧(es.toList.map (·.born))[i]?=some b
theorem ajz.own[DecidableEq κ]{kv:κ→Value}{k:κ}{F:List (κ×Value)}{b:Nat}{L:Cells}(h:ajz r kv k F b L):jJ r kv F L:=by
 obtain⟨es,ck,_,_,h1,h2,_⟩:=h
 exact⟨es,ck,h1,h2⟩
def meV(P:Program)(n:Nat)(p:Oper)(e:Env):Option (TypeId×TypeId×Value×Value):=match p.op with
 | .mapEntry T x y=>match aZ P T with
  |some ⟨.map K E,_,_,_⟩=>match bp n e x with
   |some m=>match bp n e y with
    |some k=>some (K,E,m,k)
    |none=>none
   |none=>none
  |_=>none
 |_=>none
def esV(n:Nat)(p:Oper)(e:Env):Option (Value×Value×Value):=match p.op with
 | .entryStore _ x y z=>match bp n e x with
  |some m=>match bp n e y with
   |some b=>match bp n e z with
    |some v=>some (m,b,v)
    |none=>none
   |none=>none
  |none=>none
 |_=>none
theorem AM[DecidableEq κ]{k:κ}{v:Value}:∀ {F:List (κ×Value)} {i:Nat},rV k F i=none→rV k (F++[(k,v)]) i=some (i+F.length,v)
 | [],i,_=>by simp[rV]
 |x::l,i,h=>by
  simp only[rV] at h
  split at h
  ·cases h
  rename_i hk
  rw[List.cons_append,rV,if_neg hk,AM h,List.length_cons,show i+1+l.length=i+(l.length+1) by omega]
theorem W9{kv:κ→Value}{k:κ}{v:Value}:∀(es:List MapEntry) (F:List (κ×Value)) (i:Nat) {u:Value},F[i]?=some (k,u)→es.map (fun e=>(e.key,e.val))=F.map (fun x=>(kv x.1,x.2))→(es.modify i fun e=>{e with val:=v}).map (fun e=>(e.key,e.val))=(tq k v F i).map (fun x=>(kv x.1,x.2))
 | [],[],_,_,h,_=>by simp at h
 | [],_::_,_,_,_,h=>by simp at h
 |_::_,[],_,_,_,h=>by simp at h
 |e::es,x::F,0,_,h1,h=>by
  simp only[List.map_cons,List.cons.injEq,Prod.mk.injEq] at h
  simp at h1;subst h1
  simp[tq,h.2,h.1.1]
 |e::es,x::F,i+1,_,h1,h=>by
  simp only[List.map_cons,List.cons.injEq] at h
  simp at h1
  simp[tq,h.1,W9 es F i h1 h.2]
theorem HV{v:Value}:∀(es:List MapEntry) (i:Nat),(es.modify i fun e=>{e with val:=v}).map (·.born)=es.map (·.born)
 | [],i=>by simp
 |e::es,0=>by simp
 |e::es,i+1=>by simp[HV es i]
theorem A2{kx:Value}:∀(es:List MapEntry) (i:Nat),(es.modify i fun e=>{e with key:=kx}).map (·.born)=es.map (·.born)
 | [],i=>by simp
 |e::es,0=>by simp
 |e::es,i+1=>by simp[A2 es i]
theorem Xa{kv:κ→Value}{k:κ}:∀(es:List MapEntry) (F:List (κ×Value)) (i:Nat) {u:Value},F[i]?=some (k,u)→es.map (fun e=>(e.key,e.val))=F.map (fun x=>(kv x.1,x.2))→(es.modify i fun e=>{e with key:=kv k}).map (fun e=>(e.key,e.val))=F.map (fun x=>(kv x.1,x.2))
 | [],[],_,_,h,_=>by simp at h
 | [],_::_,_,_,_,h=>by simp at h
 |_::_,[],_,_,_,h=>by simp at h
 |e::es,x::F,0,_,h1,h=>by
  simp only[List.map_cons,List.cons.injEq,Prod.mk.injEq] at h
  simp at h1;subst h1
  simp[h.2,h.1.2]
 |e::es,x::F,i+1,_,h1,h=>by
  simp only[List.map_cons,List.cons.injEq] at h
  simp at h1
  simp[h.1,Xa es F i h1 h.2]
theorem Yu{es dY:Array MapEntry}(h:∀e∈es.toList,e.born <ck)(hb:dY.toList.map (·.born)=es.toList.map (·.born)):∀e∈dY.toList,e.born <ck:=fun e he=>by
 have:e.born∈dY.toList.map (·.born):=List.mem_map_of_mem he
 rw[hb] at this
 obtain⟨e2,h3,h4⟩:=List.mem_map.1 this
 rw[←h4];exact h e2 h3
section
variable {X:Cx} {o:Option JS}
theorem jSk{f:Oper→Env→Option β}{r:β}{Φ:Cells→Prop}(ps:List Nat)(B:Cells)(hv:eR X.n f o=some r)(hB:dL ps o=some B)
 (hy:∀p e,f p e=some r→(∀c,p.op≠ .defer c)∧∀(R:Cells) (Q:Next→St→Prop) (E:Halt→St→Prop),(∀L',Φ L'→Q .skip ⟨X.ro,L'++R⟩)→bP X.P (execOp (ev X.n e) p) ⟨X.ro,B++R⟩ Q E)
 (hj:∀L',Φ L'→J X (mL ps undef L' o)):J X o:=by
 obtain⟨ops,i,todo,k,e,w,kn,p,rfl,ho,hw,hc⟩:=du hv
 intro bV
 have hp:=bH hB
 obtain⟨hd,ht⟩:=hy p e hc
 have:ab X.C X.fn X.az ops (i::todo) (KQ X k) (A X.n e X.D) ⟨X.ro,B++den (dA ps 0 w)⟩:=by
  refine bR X.hC ho hw hd<|ht _ _ _ fun L' pQ=>?_
  have:=hj L' pQ
  rw[nP ho] at this
  have:=this bV
  simp only[JP,fZ] at this
  show ab _ _ _ _ _ _ _ _
  rw[←aY] at this
  exact this
 have hle:(⟨X.ro,B++den (dA ps 0 w)⟩:St).le ⟨X.ro,den w⟩:=⟨[],by rw[List.append_nil];exact hp,fun b o hb=> .inl hb⟩
 exact this.more X.hC hle
theorem jme[DecidableEq κ]{kv:κ→Value}{F:List (κ×Value)}{K E:TypeId}{L:Cells}{d:TypeDesc}(i:Nat)(k:κ)(hk:Sf X.P K kv)(te:TF X.P E d sz bB z ag)(hm:jJ r kv F L)
 (hj:∀F1 b c L',(((∃u,rV k F 0=some u)∧F1=F)∨(rV k F 0=none∧F1=F++[(k,OO z ag)]))→ajz r kv k F1 b L'→J X (mL [i] (.tuple ⟨[c,zI (b:Int)]⟩) L' o))
 (hv:eR X.n (meV X.P X.n) o=some (K,E,.map (some r),kv k):=by kernel_rfl)(hB:dL [i] o=some L:=by kernel_rfl):J X o:=by
 refine jS (Φ:=fun v L'=>∃F1 b c,(((∃u,rV k F 0=some u)∧F1=F)∨(rV k F 0=none∧F1=F++[(k,OO z ag)]))∧ajz r kv k F1 b L'∧v= .tuple ⟨[c,zI (b:Int)]⟩) [i] _ hv hB (fun p e hf=>?_) (fun v L' pQ=>?_)
 ·unfold meV at hf
  split at hf<;>try (cases hf;done)
  rename_i T x y ax
  split at hf<;>try (cases hf;done)
  rename_i K' E' _ _ _ dJ
  split at hf<;>try (cases hf;done)
  rename_i m hx
  split at hf<;>try (cases hf;done)
  rename_i k' hy
  simp only[Option.some.injEq,Prod.mk.injEq] at hf
  obtain⟨rfl,rfl,rfl,rfl⟩:=hf
  obtain⟨baY,tf⟩:=av dJ
  refine⟨by rw[ax];simp,fun R Q E hQ=>?_⟩
  obtain⟨es,ck,rfl,B7⟩:=hm
  simp only[execOp,ax,Instr.mapEntry,aa,a8 tf,aF hx,aF hy]
  refine cD (.inr (List.mem_append_left _ List.mem_cons_self)) rfl rfl ?_
  simp only[aa]
  refine hk.chk _ _ ?_
  simp only[aa]
  refine hk.find k _ F B7.1 ?_
  cases xE:rV k F 0 with
  |some u=>
   obtain⟨j,u⟩:=u
   have SC:=qg xE
   simp only[Nat.sub_zero] at SC
   have h1:(es.toList.map (fun e=>(e.key,e.val)))[j]?=some (kv k,u):=by rw[B7.1];simp[SC.2]
   simp only[List.getElem?_map,Array.getElem?_toList] at h1
   cases he:es[j]? with
   |none=>rw[he] at h1;cases h1
   |some e1=>
    rw[he] at h1
    simp only[Option.map_some,Option.some.injEq,Prod.mk.injEq] at h1
    simp only[aa,Instr.keyThatStays,he,Option.map_some,Option.getD_some,h1.1,hk.stay,if_true,ae]
    refine eg (L:=[]) rfl rfl rfl ?_
    simp only[ae]
    refine hQ _ [(r,_)] ⟨F,e1.born,u,.inl ⟨⟨_,xE⟩,rfl⟩,⟨_,_,j,u,rfl,⟨?_,?_,?_⟩,xE,?_⟩,rfl⟩
    ·rw[Array.toList_modify];exact Xa _ _ _ SC.2 B7.1
    ·rw[Array.toList_modify,A2];exact B7.2.1
    ·exact Yu B7.2.2 (by rw[Array.toList_modify,A2])
    rw[Array.toList_modify,A2,List.getElem?_map,Array.getElem?_toList,he];rfl
  |none=>
   simp only[aa,jN te]
   refine eg (L:=[]) rfl rfl rfl ?_
   simp only[ae]
   have hlen:es.toList.length=F.length:=by have:=congrArg List.length B7.1;simpa using this
   refine hQ _ [(r,_)] ⟨_,ck,_,.inr ⟨xE,rfl⟩,⟨_,_,F.length,_,rfl,⟨?_,?_,?_⟩,by have:=AM (v:=OO z ag) xE;rwa[Nat.zero_add] at this,?_⟩,rfl⟩
   ·simp only[Array.toList_push,List.map_append,B7.1];rfl
   ·simp only[Array.toList_push,List.map_append,List.map_cons,List.map_nil]
    refine List.nodup_append.2 ⟨B7.2.1,by simp,?_⟩
    intro a ha b hb
    obtain⟨e2,h3,rfl⟩:=List.mem_map.1 ha
    have:=B7.2.2 e2 h3
    simp only[List.mem_singleton] at hb
    omega
   ·intro e1 h1
    simp only[Array.toList_push,List.mem_append,List.mem_singleton] at h1
    rcases h1 with h1|rfl
    ·have:=B7.2.2 e1 h1;omega
    exact Nat.lt_succ_self _
   simp only[Array.toList_push,List.map_append,List.map_cons,List.map_nil]
   rw[List.getElem?_append_right (by simp[hlen])]
   simp[hlen]
 obtain⟨F1,b,c,h1,h2,rfl⟩:=pQ
 exact hj F1 b c L' h1 h2
theorem jes[DecidableEq κ]{kv:κ→Value}{F:List (κ×Value)}{b:Nat}{L:Cells}{k:κ}(i:Nat)(v:Value)(hm:ajz r kv k F b L)(hj:∀L',jJ r kv (lV k v F) L'→J X (mL [i] undef L' o))
 (hv:eR X.n (esV X.n) o=some (.map (some r),zI (b:Int),v):=by kernel_rfl)(hB:dL [i] o=some L:=by kernel_rfl):J X o:=by
 refine jSk (Φ:=jJ r kv (lV k v F)) [i] _ hv hB (fun p e hf=>?_) hj
 unfold esV at hf
 split at hf<;>try (cases hf;done)
 rename_i T x y zz ax
 split at hf<;>try (cases hf;done)
 rename_i m hx
 split at hf<;>try (cases hf;done)
 rename_i b' hy
 split at hf<;>try (cases hf;done)
 rename_i v' hz
 simp only[Option.some.injEq,Prod.mk.injEq] at hf
 obtain⟨rfl,rfl,rfl⟩:=hf
 refine⟨by rw[ax];simp,fun R Q E hQ=>?_⟩
 obtain⟨es,ck,j,u,rfl,B7,xE,hb⟩:=hm
 have SC:=qg xE
 simp only[Nat.sub_zero] at SC
 simp only[execOp,ax,Instr.entryStore,aa,aF hx,aF hy,aF hz]
 refine cD (.inr (List.mem_append_left _ List.mem_cons_self)) rfl rfl ?_
 have aNY:es.findIdx? (fun e=>(e.born:Int)==(b:Int))=some j:=by
  rw[List.getElem?_map,Array.getElem?_toList] at hb
  obtain⟨e1,he,rfl⟩:=Option.map_eq_some_iff.1 hb
  obtain⟨h1,h2⟩:=Array.getElem?_eq_some_iff.1 he
  refine Array.findIdx?_eq_some_iff_getElem.2 ⟨h1,by simp[h2],fun q hq=>?_⟩
  have lQ:=B7.2.1
  have:=List.pairwise_iff_getElem.1 lQ q j (by simp;omega) (by simp;omega) hq
  simp only[List.getElem_map,Array.getElem_toList,h2] at this
  simp only[beq_iff_eq]
  omega
 simp only[aa,asInt,asIntOf,ae,aNY]
 refine eg (L:=[]) rfl rfl rfl ?_
 show Q .skip _
 refine hQ [(r,_)] ⟨_,_,rfl,?_,?_,?_⟩
 ·rw[Array.toList_modify,lV,xE];exact W9 _ _ _ SC.2 B7.1
 ·rw[Array.toList_modify,HV];exact B7.2.1
 exact Yu B7.2.2 (by rw[Array.toList_modify,HV])
end
abbrev v4(a b c d:Int):Value:= .agg ⟨[zI a,zI b,zI c,zI d]⟩
theorem aFc{P:Program}{T:TypeId}(tf:TF P T (.array 4 3) sz bB z ag)(t3:TF P 3 (.int .i64) 1 by1 z1 false)(a b c d a' b' c' d':Int):
 EqD P (dep+2) T (v4 a b c d) (v4 a' b' c' d') (a==a'&&(b==b'&&(c==c'&&(d==d'&&true)))):=by
 intro α s k Q E
 rw[Op.equalIn]
 simp only[aa,a8 tf,cd t3]
 simp only[Std.Legacy.Range.forIn_eq_forIn_range',Std.Legacy.Range.size,Nat.sub_zero,Nat.add_sub_cancel,Nat.div_one,List.range'_succ,List.range'_zero,List.forIn_cons,List.forIn_nil,aa,Nat.zero_add,Nat.mul_one]
 have p (l:List Value) (o:Nat) (v:Value) (h:nth l o=some v):Ic P 3 l o v:=jR t3 h
 rw[p _ 0 (zI a) rfl];simp only[aa]
 rw[p _ 0 (zI a') rfl];simp only[aa]
 rw[nO t3 a a']
 cases ha:a==a' with
 |false=>simp only[Bool.not_false,if_true,ae,aa,Bool.false_and]
 |true=>
 simp only[Bool.not_true,Bool.false_eq_true,if_false,ae,Bool.true_and,aa]
 rw[p _ 1 (zI b) rfl];simp only[aa]
 rw[p _ 1 (zI b') rfl];simp only[aa]
 rw[nO t3 b b']
 cases hb:b==b' with
 |false=>simp only[Bool.not_false,if_true,ae,aa,Bool.false_and]
 |true=>
 simp only[Bool.not_true,Bool.false_eq_true,if_false,ae,Bool.true_and,aa]
 rw[p _ 2 (zI c) rfl];simp only[aa]
 rw[p _ 2 (zI c') rfl];simp only[aa]
 rw[nO t3 c c']
 cases hc:c==c' with
 |false=>simp only[Bool.not_false,if_true,ae,aa,Bool.false_and]
 |true=>
 simp only[Bool.not_true,Bool.false_eq_true,if_false,ae,Bool.true_and,aa]
 rw[p _ 3 (zI d) rfl];simp only[aa]
 rw[p _ 3 (zI d') rfl];simp only[aa]
 rw[nO t3 d d']
 cases hd:d==d' with
 |false=>simp only[Bool.not_false,if_true,ae,aa,Bool.false_and]
 |true=>simp only[Bool.not_true,Bool.false_eq_true,if_false,ae,Bool.true_and,aa]
theorem ck4{P:Program}{T:TypeId}(tf:TF P T (.array 4 3) sz bB z ag)(t3:TF P 3 (.int .i64) 1 by1 z1 false)(a b c d:Int):CkD P (dep+2) T (v4 a b c d):=by
 intro bb α K s Q E
 rw[Instr.checkKey]
 simp only[aa,a8 tf]
 simp only[Std.Legacy.Range.forIn_eq_forIn_range',Std.Legacy.Range.size,Nat.sub_zero,Nat.add_sub_cancel,Nat.div_one,List.range'_succ,List.range'_zero,List.forIn_cons,List.forIn_nil,aa,Nat.zero_add,cd t3,Nat.zero_mul,Nat.mul_one]
 have p (l:List Value) (o:Nat) (v:Value) (h:nth l o=some v):Ic P 3 l o v:=jR t3 h
 rw[p _ 0 (zI a) rfl];simp only[aa];rw[HK t3 a bb];simp only[ae,aa,cd t3,Nat.mul_one]
 rw[p _ 1 (zI b) rfl];simp only[aa];rw[HK t3 b bb];simp only[ae,aa,cd t3,Nat.mul_one]
 rw[p _ 2 (zI c) rfl];simp only[aa];rw[HK t3 c bb];simp only[ae,aa,cd t3,Nat.mul_one]
 rw[p _ 3 (zI d) rfl];simp only[aa];rw[HK t3 d bb];simp only[ae,aa]
abbrev P4:=Int×Int×Int×Int
abbrev Il(x:P4):Value:=v4 x.1 x.2.1 x.2.2.1 x.2.2.2
theorem ae2:Sf zT 126 Il:=ae1 (mN Tryz.typeInfo126 Tryz.underlying126 rfl rfl rfl rfl rfl rfl) (fun k=>⟨_,rfl⟩)
 (fun k=>ck4 (dep:=9998) (mN Tryz.typeInfo126 Tryz.underlying126 rfl rfl rfl rfl rfl rfl) mh _ _ _ _)
 (fun a b=>by
  have h:=aFc (dep:=9998) (mN Tryz.typeInfo126 Tryz.underlying126 rfl rfl rfl rfl rfl rfl) mh a.1 a.2.1 a.2.2.1 a.2.2.2 b.1 b.2.1 b.2.2.1 b.2.2.2
  have e:(a.1==b.1&&(a.2.1==b.2.1&&(a.2.2.1==b.2.2.1&&(a.2.2.2==b.2.2.2&&true))))=decide (a=b):=by
   rcases a with ⟨x,y,z,t⟩;rcases b with ⟨u,v,w,r⟩
   rw[Bool.eq_iff_iff];simp
  rwa[e] at h)
 (fun k=>by simp[Instr.sameBits])
structure eW where
 c:Nat→Nat→Int
abbrev yX(m:eW):List Value:=[zI (m.c 0 0),zI (m.c 0 1),zI (m.c 0 2),zI (m.c 0 3),zI (m.c 1 0),zI (m.c 1 1),zI (m.c 1 2),zI (m.c 1 3),zI (m.c 2 0),zI (m.c 2 1),zI (m.c 2 2),zI (m.c 2 3),zI (m.c 3 0),zI (m.c 3 1),zI (m.c 3 2),zI (m.c 3 3)]
theorem ES{m:eW}{a b:Nat}(h:a <4)(k:b <4):nth (yX m) (0+(a:Int).toNat*4+(b:Int).toNat*1)=some (zI (m.c a b)):=by
 rcases Ap h with rfl|rfl|rfl|rfl<;>rcases Ap k with rfl|rfl|rfl|rfl<;>rfl
def rh(m:eW)(a b:Nat)(v:Int):eW:=⟨fun i j=>if i=a∧j=b then v else m.c i j⟩
theorem alT{m:eW}{a b:Nat}{v:Int}(h:a <4)(k:b <4):dw (yX m) (0+(a:Int).toNat*4+(b:Int).toNat*1) [zI v]=yX (rh m a b v):=by
 rcases Ap h with rfl|rfl|rfl|rfl<;>rcases Ap k with rfl|rfl|rfl|rfl<;>rfl
theorem alU{m:eW}{a b:Nat}{v:Value}(h:a <4)(k:b <4):Nat.ble ((0+(a:Int).toNat*4+(b:Int).toNat*1)+[v].length) (yX m).length=true:=by
 rcases Ap h with rfl|rfl|rfl|rfl<;>rcases Ap k with rfl|rfl|rfl|rfl<;>rfl
def pI(x:aj):Nat→Int
 |0=>x.w0
 |1=>x.w1
 |2=>x.w2
 |_=>x.w3
def aE(zs:List aj):eW:=⟨fun i j=>((zs.filter fun x=>decide (pI x i=(j:Int)+1)).length:Int)⟩
theorem HH(zs:List aj)(i j:Nat):0≤(aE zs).c i j∧(aE zs).c i j≤zs.length:=by
 have:=List.length_filter_le (fun x=>decide (pI x i=(j:Int)+1)) zs
 simp only[aE];omega
theorem AV{zs ys:List aj}(h:zs.Perm ys):aE zs=aE ys:=by
 simp only[aE,(h.filter _).length_eq]
theorem MY{r:bG}(hp:∀i,0≤p i∧p i≤4)(q:Nat):0≤pI (cq K r i p) q∧pI (cq K r i p) q≤4:=match q with
 |0=>hp 0
 |1=>hp 1
 |2=>hp 2
 |_+3=>hp 3
def wH:Prop:=∀ {ro:Nat→Option Obj} {v:Value} {zs:List aj},bI ro v 8 cP zs→zs.length≤100000→(∀x∈zs,∀q,0≤pI x q∧pI x q≤4)→dR zT 54 [v] ro [] (fun r Y=>r= .agg ⟨yX (aE zs)⟩∧Y=[])
def mr(m:eW)(n:Int)(i:Nat):Nat→List (List Int)
 |0=>[]
 |j+1=>mr m n i j++(bif decide (m.c i j=n) then [[(i:Int),(j:Int)]] else [])
def oP(m:eW)(n:Int)(w:Nat):Nat→List (List Int)
 |0=>[]
 |i+1=>oP m n w i++mr m n i w
theorem W0{m:eW}{j:Nat}(h:m.c i j=n):mr m n i (j+1)=mr m n i j++[[(i:Int),(j:Int)]]:=by rw[mr,decide_eq_true h];rfl
theorem W5{m:eW}{j:Nat}(h:¬m.c i j=n):mr m n i (j+1)=mr m n i j:=by rw[mr,decide_eq_false h];exact List.append_nil _
theorem BO(m:eW)(n:Int)(i:Nat):∀j,(mr m n i j).length≤j
 |0=>Nat.le_refl _
 |j+1=>by have:=BO m n i j;rw[mr,List.length_append];cases decide (m.c i j=n)<;>simp<;>omega
theorem Km(m:eW)(n:Int){w:Nat}(hw:w≤4):∀i,(oP m n w i).length≤4*i
 |0=>Nat.le_refl _
 |i+1=>by have:=Km m n hw i;have:=BO m n i w;rw[oP,List.length_append];omega
theorem amf{rows:List bG}(hK:fP ro l K)(hV:eN K)(hR:rows.length≤2)(hB:jE ro l K rows)(hCt:wH):Fb zT 82 [.agg ⟨l⟩,.func (.func 83) ⟨[]⟩ ⟨[]⟩] ro [] (fun r Y=>∃zs v e,zs.Perm (cW K (aD K) (cE K.gone K.new K.af) rows)∧r= .tuple ⟨[v,zI e]⟩∧((zs=[]∧v= zS∧e=9∧Y=[])∨(zs≠[]∧e=0∧∀aI,Knows aI Y→LL aI v (oP (aE zs) ((zs.length:Nat):Int) K.after.length K.before.length)))):=by
 obtain⟨v0,v1,v3,v4,v5,v6,v7,vb,fa,fc,hv,rfl,_⟩:=id hK
 refine GD au [] [] bn fun fr=>zD 2<|jn fun b2=>jd 6 [0]<|atL (vs:=[.agg ⟨[v0,v1,.slice fa 0 fc,v3,v4,v5,v6,v7,zI K.gone,zI K.new,zI K.af,vb]⟩]) [] (fun _ _ h=>h) (afc hK hV hR hB) ?_
 rintro _ aH Y15 bX ⟨f15,zs,v15,e15,rfl,En,hz,auD,he⟩
 have Uv:∀x∈zs,(-4≤x.gone∧x.gone≤4)∧(-4≤x.new∧x.new≤4)∧(0≤x.af∧x.af≤4):=fun x hx=>by obtain⟨i,r,p,_,_,rfl,_⟩:=iz (hz.mem_iff.1 hx);exact pn hV r i p
 have hzl:zs.length≤1250:=by rw[hz.length_eq];exact qp hV _ _ hR
 have hpr:∀x∈zs,∀q,0≤pI x q∧pI x q≤4:=fun x hx=>by obtain⟨i,r,p,_,hp,rfl,_⟩:=iz (hz.mem_iff.1 hx);exact MY ((jT hV _).2 p hp)
 obtain⟨d0,d1,d2,d3,d4,d5,d6,d7,d8,d9,dh,hf,p7,nv,hr,Ek,I7,KG,bS⟩:=id En
 obtain⟨lA,Mw,Mu,kI,rfl,Mv,FY,FX⟩:=Ek
 obtain⟨lD,Mz,Mx,kJ,rfl,My,F3,FZ⟩:=I7
 have B6:=hV.before.1
 have EX:=hV.after.1
 refine zD 7<|jf [0] Y15 (fun ro4 pU hk3=>?_)
 have hZ1:=auD.kQ hk3
 obtain⟨xw,TJ,TG,uF,rfl,TH,MB,MA⟩:=hZ1
 refine zD 7<|js 20 (!decide (e15=0)) (fun h5=>?_) (fun h5=>?_)
 ·
  replace h5:=of_decide_eq_false (by simpa using h5)
  have uU:zs=[]∧e15=9:=by rcases he with h| ⟨_,h⟩;exact h;omega
  refine zD 8<|Ub qC.a.a (.tuple ⟨[zS,zI e15]⟩) [1] [] (bX.trans pU) ⟨zs,_,_,hz,rfl,.inl ⟨uU.1,rfl,uU.2,rfl⟩⟩
 replace h5:=of_decide_eq_true (by simpa using h5)
 have uU:zs≠[]∧e15=0:=by rcases he with ⟨_,h⟩|h;omega;exact h
 refine zD 9<|jc (vs:=[.slice xw zs.length uF]) [] (hCt (show bI _ _ _ _ _ from ⟨xw,TJ,TG,uF,rfl,TH,MB,MA⟩) (by omega) hpr) ?_
 rintro _ _ ⟨rfl,rfl⟩
 refine jg 0 []<|jn fun rX=>jd 9 [0]<|jl (b:=f15) (off:=0) (m:=13) (vs:=[d0,d1,d2,d3,d4,d5,.slice lA K.before.length kI,.slice lD K.after.length kJ,zI K.gone,zI K.new,zI K.af,d8,d9]) 6 ⟨_,_,_,.inl (pU _ _ hf),rfl⟩<|zD 4<|oR<|oR<|dS [1,1,1,1,1,0,1,0,0] [] (fun(zz:Nat×Value×Cells×(List Value)×Cells)=>[(1,.func (.func 83) ⟨[]⟩ ⟨[]⟩),(4,zS),(5,zI 0),(6,zP f15),(7,.slice xw zs.length uF),(9,zz.2.1),(10,zP rX),(29,zI (K.before.length:Int)),(30,zI (zz.1:Int))]) (fun zz=>[.l zz.2.2.1,.l zz.2.2.2.2,.b rX (.cells ⟨[zI ((aE zs).c 0 0),zI ((aE zs).c 0 1),zI ((aE zs).c 0 2),zI ((aE zs).c 0 3),zI ((aE zs).c 1 0),zI ((aE zs).c 1 1),zI ((aE zs).c 1 2),zI ((aE zs).c 1 3),zI ((aE zs).c 2 0),zI ((aE zs).c 2 1),zI ((aE zs).c 2 2),zI ((aE zs).c 2 3),zI ((aE zs).c 3 0),zI ((aE zs).c 3 1),zI ((aE zs).c 3 2),zI ((aE zs).c 3 3)]⟩ 122 (0,0)),.b b2 (.cells ⟨[v0,v1,.slice fa 0 fc,v3,v4,v5,v6,v7,zI K.gone,zI K.new,zI K.af,vb]⟩ 40 (0,0)),.l fr]) (fun zz=>(zz.1≤K.before.length∧zz.2.2.2.1.length=(oP (aE zs) ((zs.length:Nat):Int) K.after.length zz.1).length)∧ay zz.2.1 1 22 gv zz.2.2.2.1 zz.2.2.1∧∀aI,Knows aI zz.2.2.2.2→dq (fun w l=>bI aI w 1 cz l) zz.2.2.2.1 (oP (aE zs) ((zs.length:Nat):Int) K.after.length zz.1)) (fun zz=>K.before.length-zz.1) (⟨0,zS,[],[],[]⟩) ⟨⟨by dsimp only;omega,rfl⟩,ay.nil _ _ _,fun _ _=> .nil⟩ [1,0,2,3,4] ?_
 rintro⟨i,vO,LO,es,Z⟩ hI K1 bL rest
 dsimp only at hI
 have hil:=Km (aE zs) ((zs.length:Nat):Int) (w:=K.after.length) (by omega) i
 refine zD 5<|zJ 31 ((i:Int) <(K.before.length:Int)) (fun h6=>?_) fun h6=>?_
 ·
  refine zD 15<|jl (b:=f15) (off:=0) (m:=13) (vs:=[d0,d1,d2,d3,d4,d5,.slice lA K.before.length kI,.slice lD K.after.length kJ,zI K.gone,zI K.new,zI K.af,d8,d9]) 7 ⟨_,_,_,.inl (pU _ _ hf),rfl⟩<|zD 4<|dS [1,1,1,1,1,0,1,0,0,1,1,0,0,1,1,0,0] [K1] (fun(zz:Nat×Value×Cells×(List Value)×Cells)=>[(1,.func (.func 83) ⟨[]⟩ ⟨[]⟩),(4,zS),(5,zI 0),(6,zP f15),(7,.slice xw zs.length uF),(9,zz.2.1),(10,zP rX),(11,zI (i:Int)),(29,zI (K.before.length:Int)),(30,zI (i:Int)),(38,zI (K.after.length:Int)),(39,zI (zz.1:Int))]) (fun zz=>[.l zz.2.2.1,.l zz.2.2.2.2,.b rX (.cells ⟨[zI ((aE zs).c 0 0),zI ((aE zs).c 0 1),zI ((aE zs).c 0 2),zI ((aE zs).c 0 3),zI ((aE zs).c 1 0),zI ((aE zs).c 1 1),zI ((aE zs).c 1 2),zI ((aE zs).c 1 3),zI ((aE zs).c 2 0),zI ((aE zs).c 2 1),zI ((aE zs).c 2 2),zI ((aE zs).c 2 3),zI ((aE zs).c 3 0),zI ((aE zs).c 3 1),zI ((aE zs).c 3 2),zI ((aE zs).c 3 3)]⟩ 122 (0,0)),.b b2 (.cells ⟨[v0,v1,.slice fa 0 fc,v3,v4,v5,v6,v7,zI K.gone,zI K.new,zI K.af,vb]⟩ 40 (0,0)),.l fr]) (fun zz=>(zz.1≤K.after.length∧zz.2.2.2.1.length=((oP (aE zs) ((zs.length:Nat):Int) K.after.length i)++(mr (aE zs) ((zs.length:Nat):Int) i zz.1)).length)∧ay zz.2.1 1 22 gv zz.2.2.2.1 zz.2.2.1∧∀aI,Knows aI zz.2.2.2.2→dq (fun w l=>bI aI w 1 cz l) zz.2.2.2.1 ((oP (aE zs) ((zs.length:Nat):Int) K.after.length i)++(mr (aE zs) ((zs.length:Nat):Int) i zz.1))) (fun zz=>K.after.length-zz.1) (⟨0,vO,LO,es,Z⟩) ⟨⟨by dsimp only;omega,by simpa [mr] using hI.1.2⟩,hI.2.1,by simpa [mr] using hI.2.2⟩ (zN 0 5) ?_
  rintro⟨j,vO,LO,es,Z⟩ hJ K2 mb rest
  dsimp only at hJ
  have hjl:=BO (aE zs) ((zs.length:Nat):Int) i j
  have hel:=hJ.1.2
  rw[List.length_append] at hel
  refine zD 5<|zJ 40 ((j:Int) <(K.after.length:Int)) (fun h7=>?_) fun h7=>?_
  ·
   refine zD 10 ?_
   have iD:=HH zs i j
   refine zD 4<|Kz (b:=rX) (off:=0) (len:=4) (sz:=4) (i:Int) (by omega)<|Kz (b:=rX) (off:=0+(i:Int).toNat*4) (len:=4) (sz:=1) (j:Int) (by omega)<|oH (b:=rX) (off:=0+(i:Int).toNat*4+(j:Int).toNat*1) (m:=1) (vs:=[zI ((aE zs).c i j)]) 0 [2] [(rX,.cells ⟨[zI ((aE zs).c 0 0),zI ((aE zs).c 0 1),zI ((aE zs).c 0 2),zI ((aE zs).c 0 3),zI ((aE zs).c 1 0),zI ((aE zs).c 1 1),zI ((aE zs).c 1 2),zI ((aE zs).c 1 3),zI ((aE zs).c 2 0),zI ((aE zs).c 2 1),zI ((aE zs).c 2 2),zI ((aE zs).c 2 3),zI ((aE zs).c 3 0),zI ((aE zs).c 3 1),zI ((aE zs).c 3 2),zI ((aE zs).c 3 3)]⟩ 122 (0,0))] (fun s _ hZ=>sA (hZ _ (.head _)) (ES (m:=aE zs) (by omega) (by omega)))<|zD 2<|jp (vs:=[zI ((aE zs).c i j),zI (zs.length:Int)]) [] [] (fun aH hs hZ=>atx)<|zD 1<|js 50 (decide (((aE zs).c i j)=(zs.length:Int))) (fun h8=>?_) (fun h8=>?_)
   ·
    refine zD 5<|jn fun b54=>jn fun b55=>iC (sz:=1) (ps:=es) (qs:=[(.slice (some ⟨b54,0,none⟩) 2 2:Value)]) (enc:=gv) (w:= .slice (some ⟨b55,0,none⟩) 1 1) [2] [0] [(b55,.cells ⟨([(.slice (some ⟨b54,0,none⟩) 2 2:Value)].map gv).flatten⟩ 22 (0,0))] (hJ.2.1) (fun s _ hZ=>bN [(.slice (some ⟨b54,0,none⟩) 2 2:Value)] (hZ _ (.head _)) (by intro p hp;rfl)) (by intro p hp;rw[List.mem_singleton] at hp;subst hp;exact ai rfl) (by simp only[List.length_cons,List.length_nil];omega) (fun v56 L56 vG=>?_)
    obtain⟨Y3,Y0,agH⟩:=vG.form
    subst agH
    refine zD 3<|ja ((j:Int)+1) (by omega)<|zD 2<|M5 mb (⟨j+1,(.slice Y3 ((es++[(.slice (some ⟨b54,0,none⟩) 2 2:Value)])).length Y0),L56,(es++[(.slice (some ⟨b54,0,none⟩) 2 2:Value)]),Z++[(b54,.cells ⟨[zI (i:Int),zI (j:Int)]⟩ 3 (0,0))]⟩) ⟨⟨by dsimp only;omega,by dsimp only;rw[W0 (of_decide_eq_true (by assumption)),←List.append_assoc];simp only[zM] at*;omega⟩,vG,fun aI hk=>by dsimp only;rw[W0 (of_decide_eq_true (by assumption)),←List.append_assoc];exact(hJ.2.2 aI hk.left).snoc (bC (enc:=cz) (T:=3) [(i:Int),(j:Int)] (hk.right _ (.head _)) (fun _ _=>rfl))⟩ (by dsimp only;omega) [[0],[3,2],[4],[5],[6]] (Sub.refl _)
   refine zD 3<|ja ((j:Int)+1) (by omega)<|zD 2<|bJ mb (⟨j+1,vO,LO,es,Z⟩) ⟨⟨by dsimp only;omega,by dsimp only;rw[W5 (of_decide_eq_false (by assumption))];exact hJ.1.2⟩,hJ.2.1,by dsimp only;rw[W5 (of_decide_eq_false (by assumption))];exact hJ.2.2⟩ (by dsimp only;omega) (zN 0 5) (Sub.refl _)
  refine zD 3<|ja ((i:Int)+1) (by omega)<|zD 2<|bJ bL (⟨i+1,vO,LO,es,Z⟩) ⟨⟨by dsimp only;omega,by have:=hJ.1.2;rw[show j=K.after.length by omega] at this;exact this⟩,hJ.2.1,by have:=hJ.2.2;rw[show j=K.after.length by omega] at this;exact this⟩ (by dsimp only;omega) (zN 0 5) (Sub.refl _)
 refine zD 9<|aLH qC.a.a (.tuple ⟨[vO,zI 0]⟩) [0,1,4] LO Z (bX.trans pU) ⟨zs,_,_,hz,rfl,.inr ⟨uU.1,rfl,fun aI hk=>⟨es,hI.2.1.kQ hk.left,by have:=hI.2.2 aI hk.right;rwa[show i=K.before.length by omega] at this⟩⟩⟩
structure wI where
 f:Bool
 a:Int
 b:Int
 w:Int
def abl(m:eW)(n:Int)(i j:Nat):Int:=max (m.c i j) (n-m.c i j)
def A5(m:eW)(n:Int)(i:Nat)(s:wI):Nat→wI
 |0=>s
 |j+1=>if abl m n i j <(A5 m n i s j).w then ⟨true,i,j,abl m n i j⟩ else A5 m n i s j
def abm(m:eW)(n:Int)(w:Nat):Nat→wI
 |0=>⟨false,0,0,n⟩
 |i+1=>A5 m n i (abm m n w i) w
def VD(s:wI):Int×Int×Int×Int:=bif s.f then (s.a,s.b,s.w,0) else (0,0,0,11)
theorem aw1{m:eW}{j:Nat}{s:wI}{f:Bool}{a w:Int}(h:(⟨f,a,b,w⟩:wI)=A5 m n i s j)(h2:abl m n i j <w):(⟨true,i,j,abl m n i j⟩:wI)=A5 m n i s (j+1):=by rw[A5,←h,if_pos h2]
theorem aja{m:eW}{j:Nat}{s:wI}{f:Bool}{a w:Int}(h:(⟨f,a,b,w⟩:wI)=A5 m n i s j)(h2:¬abl m n i j <w):(⟨f,a,b,w⟩:wI)=A5 m n i s (j+1):=by rw[A5,←h,if_neg h2]
theorem atw{rows:List bG}(hK:fP ro l K)(hV:eN K)(hR:rows.length≤2)(hB:jE ro l K rows)(hCt:wH):Fb zT 46 [.agg ⟨l⟩] ro [] (fun r Y=>∃zs v e,zs.Perm (cW K (aD K) (cE K.gone K.new K.af) rows)∧r= .tuple ⟨[v,zI e]⟩∧((zs=[]∧v= zS∧e=9∧Y=[])∨(zs≠[]∧e=0∧∀aI,Knows aI Y→LL aI v (oP (aE zs) ((zs.length:Nat):Int) K.after.length K.before.length)))):=by
 obtain⟨v0,v1,v3,v4,v5,v6,v7,vb,fa,fc,hv,rfl,_⟩:=id hK
 refine GD au [] [] bn fun fr=>zD 2<|jn fun b1=>jd 6 [0]<|Sq (vs:=[.agg ⟨[v0,v1,.slice fa 0 fc,v3,v4,v5,v6,v7,zI K.gone,zI K.new,zI K.af,vb]⟩,.func (.func 83) ⟨[]⟩ ⟨[]⟩]) [] (fun _ _ h=>h) (amf hK hV hR hB hCt) ?_
 rintro _ Y5 ⟨zs,v5,e5,hz,rfl,hcs⟩
 refine zD 6<|Ub qC (.tuple ⟨[v5,zI e5]⟩) [0,2] Y5 (Sub.refl _) ⟨zs,v5,e5,hz,rfl,hcs⟩
theorem aLA{rows:List bG}(hK:fP ro l K)(hV:eN K)(hR:rows.length≤2)(hB:jE ro l K rows)(hCt:wH):Fb zT 50 [.agg ⟨l⟩] ro [] (fun r Y=>∃zs a b w e,zs.Perm (cW K (aD K) (cE K.gone K.new K.af) rows)∧Y=[]∧r= .tuple ⟨[zI a,zI b,zI w,zI e]⟩∧((zs=[]∧a=0∧b=0∧w=0∧e=9)∨(zs≠[]∧(a,b,w,e)=VD (abm (aE zs) ((zs.length:Nat):Int) K.after.length K.before.length)))):=by
 obtain⟨v0,v1,v3,v4,v5,v6,v7,vb,fa,fc,hv,rfl,_⟩:=id hK
 refine GD au [] [] bn fun fr=>zD 2<|jn fun b1=>jd 8 [0]<|atL (vs:=[.agg ⟨[v0,v1,.slice fa 0 fc,v3,v4,v5,v6,v7,zI K.gone,zI K.new,zI K.af,vb]⟩]) [] (fun _ _ h=>h) (afc hK hV hR hB) ?_
 rintro _ aH Y14 bX ⟨f14,zs,v14,NR,rfl,En,hz,Uz,he⟩
 have Uv:∀x∈zs,(-4≤x.gone∧x.gone≤4)∧(-4≤x.new∧x.new≤4)∧(0≤x.af∧x.af≤4):=fun x hx=>by obtain⟨i,r,p,_,_,rfl,_⟩:=iz (hz.mem_iff.1 hx);exact pn hV r i p
 have hzl:zs.length≤1250:=by rw[hz.length_eq];exact qp hV _ _ hR
 have hpr:∀x∈zs,∀q,0≤pI x q∧pI x q≤4:=fun x hx=>by obtain⟨i,r,p,_,hp,rfl,_⟩:=iz (hz.mem_iff.1 hx);exact MY ((jT hV _).2 p hp)
 obtain⟨d0,d1,d2,d3,d4,d5,d6,d7,d8,d9,dh,hf,p7,nv,hr,Ek,I7,KG,bS⟩:=id En
 obtain⟨lA,Mw,Mu,kI,rfl,Mv,FY,FX⟩:=Ek
 obtain⟨lD,Mz,Mx,kJ,rfl,My,F3,FZ⟩:=I7
 have B6:=hV.before.1
 have EX:=hV.after.1
 refine zD 7<|jf [0] Y14 (fun ro4 pU hk3=>?_)
 have hZ1:=Uz.kQ hk3
 obtain⟨xw,TJ,TG,uF,rfl,TH,MB,MA⟩:=hZ1
 refine zD 7<|js 20 (!decide (NR=0)) (fun h5=>?_) (fun h5=>?_)
 ·
  replace h5:=of_decide_eq_false (by simpa using h5)
  have uU:zs=[]∧NR=9:=by rcases he with h| ⟨_,h⟩;exact h;omega
  refine zD 10<|Ub qC.a.a (.tuple ⟨[zI 0,zI 0,zI 0,zI NR]⟩) [1] [] (bX.trans pU) ⟨zs,_,_,_,_,hz,rfl,rfl,.inl ⟨uU.1,rfl,rfl,rfl,uU.2⟩⟩
 replace h5:=of_decide_eq_true (by simpa using h5)
 have uU:zs≠[]∧NR=0:=by rcases he with ⟨_,h⟩|h;omega;exact h
 refine zD 5<|jc (vs:=[.slice xw zs.length uF]) [] (hCt (show bI _ _ _ _ _ from ⟨xw,TJ,TG,uF,rfl,TH,MB,MA⟩) (by omega) hpr) ?_
 rintro _ _ ⟨rfl,rfl⟩
 refine jg 0 []<|jn fun b8=>jd 16 [0]<|jl (b:=f14) (off:=0) (m:=13) (vs:=[d0,d1,d2,d3,d4,d5,.slice lA K.before.length kI,.slice lD K.after.length kJ,zI K.gone,zI K.new,zI K.af,d8,d9]) 6 ⟨_,_,_,.inl (pU _ _ hf),rfl⟩<|zD 4<|dS [1,1,1,1,1,0,1,0,0] [] (fun(zz:Nat×Bool×Int×Int×Int)=>[(2,zI zz.2.2.1),(3,zI zz.2.2.2.1),(4,zI zz.2.2.2.2),(5,zI NR),(6,zP f14),(7,.slice xw zs.length uF),(8,zP b8),(9,.bool zz.2.1),(31,zI (K.before.length:Int)),(32,zI (zz.1:Int))]) (fun zz=>[.b b8 (.cells ⟨[zI ((aE zs).c 0 0),zI ((aE zs).c 0 1),zI ((aE zs).c 0 2),zI ((aE zs).c 0 3),zI ((aE zs).c 1 0),zI ((aE zs).c 1 1),zI ((aE zs).c 1 2),zI ((aE zs).c 1 3),zI ((aE zs).c 2 0),zI ((aE zs).c 2 1),zI ((aE zs).c 2 2),zI ((aE zs).c 2 3),zI ((aE zs).c 3 0),zI ((aE zs).c 3 1),zI ((aE zs).c 3 2),zI ((aE zs).c 3 3)]⟩ 122 (0,0)),.b b1 (.cells ⟨[v0,v1,.slice fa 0 fc,v3,v4,v5,v6,v7,zI K.gone,zI K.new,zI K.af,vb]⟩ 40 (0,0)),.l fr]) (fun zz=>zz.1≤K.before.length∧(⟨zz.2.1,zz.2.2.1,zz.2.2.2.1,zz.2.2.2.2⟩:wI)=(abm (aE zs) ((zs.length:Nat):Int) K.after.length zz.1)) (fun zz=>K.before.length-zz.1) (⟨0,false,0,0,((zs.length:Nat):Int)⟩) ⟨by dsimp only;omega,rfl⟩ [0,1,2] ?_
 rintro⟨i,qf,qa,qb,qw⟩ hI K1 bL rest
 dsimp only at hI
 refine zD 5<|zJ 33 ((i:Int) <(K.before.length:Int)) (fun h6=>?_) fun h6=>?_
 ·
  refine zD 15<|jl (b:=f14) (off:=0) (m:=13) (vs:=[d0,d1,d2,d3,d4,d5,.slice lA K.before.length kI,.slice lD K.after.length kJ,zI K.gone,zI K.new,zI K.af,d8,d9]) 7 ⟨_,_,_,.inl (pU _ _ hf),rfl⟩<|zD 4<|dS [1,1,1,1,1,0,1,0,0,1,1,0,0,1,1,0,0] [K1] (fun(zz:Nat×Bool×Int×Int×Int)=>[(2,zI zz.2.2.1),(3,zI zz.2.2.2.1),(4,zI zz.2.2.2.2),(5,zI NR),(6,zP f14),(7,.slice xw zs.length uF),(8,zP b8),(9,.bool zz.2.1),(10,zI (i:Int)),(31,zI (K.before.length:Int)),(32,zI (i:Int)),(40,zI (K.after.length:Int)),(41,zI (zz.1:Int))]) (fun zz=>[.b b8 (.cells ⟨[zI ((aE zs).c 0 0),zI ((aE zs).c 0 1),zI ((aE zs).c 0 2),zI ((aE zs).c 0 3),zI ((aE zs).c 1 0),zI ((aE zs).c 1 1),zI ((aE zs).c 1 2),zI ((aE zs).c 1 3),zI ((aE zs).c 2 0),zI ((aE zs).c 2 1),zI ((aE zs).c 2 2),zI ((aE zs).c 2 3),zI ((aE zs).c 3 0),zI ((aE zs).c 3 1),zI ((aE zs).c 3 2),zI ((aE zs).c 3 3)]⟩ 122 (0,0)),.b b1 (.cells ⟨[v0,v1,.slice fa 0 fc,v3,v4,v5,v6,v7,zI K.gone,zI K.new,zI K.af,vb]⟩ 40 (0,0)),.l fr]) (fun zz=>zz.1≤K.after.length∧(⟨zz.2.1,zz.2.2.1,zz.2.2.2.1,zz.2.2.2.2⟩:wI)=(A5 (aE zs) ((zs.length:Nat):Int) i (abm (aE zs) ((zs.length:Nat):Int) K.after.length i) zz.1)) (fun zz=>K.after.length-zz.1) (⟨0,qf,qa,qb,qw⟩) ⟨by dsimp only;omega,hI.2⟩ [0,1,2] ?_
  rintro⟨j,qf,qa,qb,qw⟩ hJ K2 mb rest
  dsimp only at hJ
  refine zD 5<|zJ 42 ((j:Int) <(K.after.length:Int)) (fun h7=>?_) fun h7=>?_
  ·
   refine zD 10 ?_
   have iD:=HH zs i j
   refine zD 3<|Kz (b:=b8) (off:=0) (len:=4) (sz:=4) (i:Int) (by omega)<|Kz (b:=b8) (off:=0+(i:Int).toNat*4) (len:=4) (sz:=1) (j:Int) (by omega)<|oH (b:=b8) (off:=0+(i:Int).toNat*4+(j:Int).toNat*1) (m:=1) (vs:=[zI ((aE zs).c i j)]) 0 [0] [(b8,.cells ⟨[zI ((aE zs).c 0 0),zI ((aE zs).c 0 1),zI ((aE zs).c 0 2),zI ((aE zs).c 0 3),zI ((aE zs).c 1 0),zI ((aE zs).c 1 1),zI ((aE zs).c 1 2),zI ((aE zs).c 1 3),zI ((aE zs).c 2 0),zI ((aE zs).c 2 1),zI ((aE zs).c 2 2),zI ((aE zs).c 2 3),zI ((aE zs).c 3 0),zI ((aE zs).c 3 1),zI ((aE zs).c 3 2),zI ((aE zs).c 3 3)]⟩ 122 (0,0))] (fun s _ hZ=>sA (hZ _ (.head _)) (ES (m:=aE zs) (by omega) (by omega)))<|zD 4<|Kz (b:=b8) (off:=0) (len:=4) (sz:=4) (i:Int) (by omega)<|Kz (b:=b8) (off:=0+(i:Int).toNat*4) (len:=4) (sz:=1) (j:Int) (by omega)<|oH (b:=b8) (off:=0+(i:Int).toNat*4+(j:Int).toNat*1) (m:=1) (vs:=[zI ((aE zs).c i j)]) 0 [0] [(b8,.cells ⟨[zI ((aE zs).c 0 0),zI ((aE zs).c 0 1),zI ((aE zs).c 0 2),zI ((aE zs).c 0 3),zI ((aE zs).c 1 0),zI ((aE zs).c 1 1),zI ((aE zs).c 1 2),zI ((aE zs).c 1 3),zI ((aE zs).c 2 0),zI ((aE zs).c 2 1),zI ((aE zs).c 2 2),zI ((aE zs).c 2 3),zI ((aE zs).c 3 0),zI ((aE zs).c 3 1),zI ((aE zs).c 3 2),zI ((aE zs).c 3 3)]⟩ 122 (0,0))] (fun s _ hZ=>sA (hZ _ (.head _)) (ES (m:=aE zs) (by omega) (by omega)))<|ja ((zs.length:Int)-((aE zs).c i j)) (by omega)<|jmx (k:= .i64) (a:=((aE zs).c i j)) (b:=((zs.length:Int)-((aE zs).c i j)))<|zD 8<|zJ 60 ((max ((aE zs).c i j) ((zs.length:Int)-((aE zs).c i j))) <qw) (fun h8=>?_) fun h8=>?_
   ·
    refine zD 11<|ja ((j:Int)+1) (by omega)<|zD 2<|bJ mb (⟨j+1,true,(i:Int),(j:Int),(max ((aE zs).c i j) ((zs.length:Int)-((aE zs).c i j)))⟩) ⟨by dsimp only;omega,aw1 hJ.2 (by assumption)⟩ (by dsimp only;omega) [0,1,2] (Sub.refl _)
   refine zD 3<|ja ((j:Int)+1) (by omega)<|zD 2<|bJ mb (⟨j+1,qf,qa,qb,qw⟩) ⟨by dsimp only;omega,aja hJ.2 (by assumption)⟩ (by dsimp only;omega) [0,1,2] (Sub.refl _)
  refine zD 3<|ja ((i:Int)+1) (by omega)<|zD 2<|bJ bL (⟨i+1,qf,qa,qb,qw⟩) ⟨by dsimp only;omega,by have:=hJ.2;rw[show j=K.after.length by omega] at this;exact this⟩ (by dsimp only;omega) [0,1,2] (Sub.refl _)
 refine zD 8<|js 67 (!qf) (fun h9=>?_) (fun h9=>?_)
 ·
  try simp only[zB] at h9
  refine zD 9<|Ub qC.a.a (.tuple ⟨[zI 0,zI 0,zI 0,zI 11]⟩) [2] [] (bX.trans pU) ⟨zs,_,_,_,_,hz,rfl,rfl,.inr ⟨uU.1,by have:=hI.2;rw[show i=K.before.length by omega] at this;rw[←this];simp only[VD];cases qf<;>first|rfl|contradiction|simp_all⟩⟩
 try simp only[zB] at h9
 refine zD 13<|Ub qC.a.a (.tuple ⟨[zI qa,zI qb,zI qw,zI 0]⟩) [2] [] (bX.trans pU) ⟨zs,_,_,_,_,hz,rfl,rfl,.inr ⟨uU.1,by have:=hI.2;rw[show i=K.before.length by omega] at this;rw[←this];simp only[VD];cases qf<;>first|rfl|contradiction|simp_all⟩⟩
def IK:Value→Int
 | .int _ n=>n
 |_=>0
def S5(f:P4→Int)(F:List (P4×Value)):Int:=(F.map fun x=>f x.1*IK x.2).sum
def pk(x:aj):P4:=(x.w0,x.w1,x.w2,x.w3)
def acX(f:P4→Int)(zs:List aj):Int:=(zs.map fun x=>f (pk x)).sum
structure CF(F:List (P4×Value))(zs:List aj):Prop where
 sum:∀f,S5 f F=acX f zs
 val:∀x∈F,∃n,x.2= zI n∧0≤n∧n≤zs.length
 key:∀x∈F,∃z∈zs,x.1=pk z
theorem CF.nil:CF [] []:=⟨fun _=>rfl,by simp,by simp⟩
theorem FC(g:κ×Value→Int):∀ {F:List (κ×Value)} {i:Nat} {k:κ} {u v:Value},F[i]?=some (k,u)→((tq k v F i).map g).sum=(F.map g).sum-g (k,u)+g (k,v)
 | [],_,_,_,_,h=>by simp at h
 |x::F,0,k,u,v,h=>by simp at h;subst h;simp only[tq,List.map_cons,List.sum_cons];omega
 |x::F,i+1,k,u,v,h=>by
  simp at h
  have:=FC g (v:=v) h
  simp only[tq,List.map_cons,List.sum_cons];omega
theorem vq:∀ {F:List (κ×Value)} {i:Nat} {k:κ} {v:Value} {x:κ×Value},x∈tq k v F i→x=(k,v)∨x∈F
 | [],_,_,_,_,h=>by cases h
 |y::F,0,k,v,x,h=>by
  rcases List.mem_cons.1 h with h|h
  ·exact .inl h
  exact .inr (List.mem_cons_of_mem _ h)
 |y::F,i+1,k,v,x,h=>by
  rcases List.mem_cons.1 h with h|h
  ·exact .inr (by rw[h];exact List.mem_cons_self)
  exact(vq h).imp id (List.mem_cons_of_mem _)
theorem CF.look{F:List (P4×Value)}{zs:List aj}(h:CF F zs)(k:P4):∃n,Qn (zI 0) false k F= zI n∧0≤n∧n≤zs.length:=by
 simp only[Qn,lkM]
 cases hf:rV k F 0 with
 |none=>exact⟨0,rfl,by omega,by omega⟩
 |some u=>
  obtain⟨j,u⟩:=u
  have:=(qg hf).2
  exact h.val _ (zL this)
theorem CF.upd{F F1:List (P4×Value)}{zs:List aj}{x:aj}(h:CF F zs)(h1:((∃u,rV (pk x) F 0=some u)∧F1=F)∨(rV (pk x) F 0=none∧F1=F++[(pk x,zI 0)]))(hl:Qn (zI 0) false (pk x) F= zI n)(hn:0≤n∧n≤zs.length):CF (lV (pk x) (zI (n+1)) F1) (zs++[x]):=by
 have hz (f:P4→Int):acX f (zs++[x])=acX f zs+f (pk x):=by simp[acX]
 rcases h1 with ⟨⟨⟨j,u⟩,hf⟩,rfl⟩| ⟨hf,rfl⟩
 ·have hu:=qg hf
  simp only[Nat.sub_zero] at hu
  have qy:u= zI n:=by simpa [Qn,lkM,hf] using hl
  subst qy
  simp only[lV,hf]
  refine⟨fun f=>?_,fun y hy=>?_,fun y hy=>?_⟩
  ·rw[hz,←h.sum,S5,FC _ hu.2,S5]
   simp only[IK,Int.mul_add,Int.mul_one];omega
  ·rcases vq hy with rfl|hy
   ·exact⟨n+1,rfl,by omega,by simp;omega⟩
   obtain⟨m,h1,h2⟩:=h.val _ hy
   exact⟨m,h1,by omega,by simp;omega⟩
  rcases vq hy with rfl|hy
  ·exact⟨x,by simp,rfl⟩
  obtain⟨z,h1,h2⟩:=h.key _ hy
  exact⟨z,by simp[h1],h2⟩
 have qy:n=0:=by
  have:(Value.int .i64 0)= zI n:=by simpa [Qn,lkM,hf] using hl
  cases this;rfl
 subst qy
 have hs:lV (pk x) (zI (0+1)) (F++[(pk x,zI 0)])=tq (pk x) (zI (0+1)) (F++[(pk x,zI 0)]) (0+F.length):=by
  simp only[lV,AM (v:= zI 0) hf]
 have hg:(F++[(pk x,Value.int .i64 0)])[0+F.length]?=some (pk x,zI 0):=by simp
 rw[hs]
 refine⟨fun f=>?_,fun y hy=>?_,fun y hy=>?_⟩
 ·rw[hz,←h.sum,S5,FC _ hg,S5]
  simp[IK]
 ·rcases vq hy with rfl|hy
  ·exact⟨0+1,rfl,by omega,by simp;omega⟩
  rcases List.mem_append.1 hy with hy|hy
  ·obtain⟨m,h1,h2⟩:=h.val _ hy
   exact⟨m,h1,by omega,by simp;omega⟩
  rw[List.mem_singleton] at hy;subst hy
  exact⟨0,rfl,by omega,by omega⟩
 rcases vq hy with rfl|hy
 ·exact⟨x,by simp,rfl⟩
 rcases List.mem_append.1 hy with hy|hy
 ·obtain⟨z,h1,h2⟩:=h.key _ hy
  exact⟨z,by simp[h1],h2⟩
 rw[List.mem_singleton] at hy;subst hy
 exact⟨x,by simp,rfl⟩
def fV(i j:Nat):Value→Int
 | .agg ⟨l⟩=>(match l[i]? with
  |some (.int _ n)=>if n=(j:Int)+1 then 1 else 0
  |_=>0)
 |_=>0
def sq(i j:Nat)(l:List MapEntry):Int:=(l.map fun e=>fV i j e.key*IK e.val).sum
theorem acY{F:List (P4×Value)}{es:Array MapEntry}(h:sY Il F es ck)(i j:Nat):sq i j es.toList=S5 (fun k=>fV i j (Il k)) F:=by
 have h1:=congrArg (List.map fun p:Value×Value=>fV i j p.1*IK p.2) h.1
 simp only[List.map_map] at h1
 unfold sq S5
 exact congrArg List.sum h1
theorem Pg(i j:Nat):∀ {l:List MapEntry} {e:MapEntry},(l.map (·.born)).Nodup→e∈l→sq i j l=fV i j e.key*IK e.val+sq i j (l.filter fun x=> !decide (x.born=e.born))
 | [],_,_,h=>by cases h
 |x::l,e,hn,h=>by
  simp only[List.map_cons,List.nodup_cons] at hn
  rcases List.mem_cons.1 h with rfl|h
  ·have:l.filter (fun y=> !decide (y.born=e.born))=l:=by
    refine List.filter_eq_self.2 fun y hy=>?_
    have:y.born≠e.born:=fun h=>hn.1 (h▸List.mem_map_of_mem hy)
    simp[this]
   rw[List.filter_cons_of_neg (by simp),this];rfl
  have dK:x.born≠e.born:=fun k=>hn.1 (k▸List.mem_map_of_mem h)
  rw[List.filter_cons_of_pos (by simp[dK])]
  have:=Pg i j hn.2 h
  simp only[sq,List.map_cons,List.sum_cons] at this ⊢
  omega
theorem T5(es:Array MapEntry)(seen:List Nat)(b:Nat):cI es (seen++[b])=(cI es seen).filter fun x=> !decide (x.born=b):=by
 simp only[cI,List.filter_filter]
 refine List.filter_congr fun x _=>?_
 simp only[List.contains_eq_mem,List.mem_append,List.mem_singleton,Bool.decide_or,Bool.not_or]
 rw[Bool.and_comm]
theorem JB{F:List (P4×Value)}{es:Array MapEntry}(h:sY Il F es ck){e:MapEntry}(he:e∈cI es seen)(i j:Nat):sq i j (cI es seen)=fV i j e.key*IK e.val+sq i j (cI es (seen++[e.born])):=by
 rw[T5]
 exact Pg i j ((List.filter_sublist.map _).nodup h.2.1) he
theorem aqu(i j:Nat)(v:Value):fV i j v=0∨fV i j v=1:=by
 unfold fV
 split<;>try exact .inl rfl
 split<;>try exact .inl rfl
 split<;>simp
theorem Pf{i j:Nat}:∀ {l:List MapEntry},(∀e∈l,0≤IK e.val)→0≤sq i j l
 | [],_=>Int.le_refl _
 |x::l,h=>by
  have h1:=Pf (i:=i) (j:=j) (l:=l) fun e he=>h e (List.mem_cons_of_mem _ he)
  have h2:=h x List.mem_cons_self
  simp only[sq,List.map_cons,List.sum_cons] at h1 ⊢
  rcases aqu i j x.key with h3|h3<;>rw[h3]<;>omega
theorem akJ{F:List (P4×Value)}{zs:List aj}(h:CF F zs){es:Array MapEntry}(hE:sY Il F es ck):∀e∈cI es seen,0≤IK e.val:=fun e he=>by
 have h1:e∈es.toList:=(List.mem_filter.1 he).1
 have h2:(e.key,e.val)∈es.toList.map (fun e=>(e.key,e.val)):=List.mem_map_of_mem (f:=fun e:MapEntry=>(e.key,e.val)) h1
 rw[hE.1] at h2
 obtain⟨y,h3,h4⟩:=List.mem_map.1 h2
 obtain⟨n,h5,h6,_⟩:=h.val _ h3
 simp only[Prod.mk.injEq] at h4
 rw[←h4.2,h5];exact h6
theorem Yh(x:aj)(j:Nat)(hi:i <4):fV i j (Il (pk x))=if pI x i=(j:Int)+1 then 1 else 0:=by
 rcases Ap hi with rfl|rfl|rfl|rfl<;>rfl
theorem Wn(p:α→Prop)[DecidablePred p]:∀l:List α,(l.map fun x=>if p x then (1:Int) else 0).sum=((l.filter fun x=>decide (p x)).length:Int)
 | []=>rfl
 |x::l=>by
  rw[List.map_cons,List.sum_cons,Wn p l]
  by_cases h:p x
  ·rw[if_pos h,List.filter_cons_of_pos (by simpa using h),List.length_cons];omega
  rw[if_neg h,List.filter_cons_of_neg (by simpa using h)];omega
theorem CF.total{F:List (P4×Value)}{zs:List aj}(h:CF F zs){es:Array MapEntry}(hE:sY Il F es ck)(j:Nat)(hi:i <4):sq i j (cI es [])=(aE zs).c i j:=by
 rw[BX,acY hE,h.sum,acX]
 simp only[Yh _ j hi]
 exact Wn (fun x=>pI x i=(j:Int)+1) zs
theorem ab5{z:aj}(h:(z.w0==0&&(z.w1==0&&(z.w2==0&&(z.w3==0&&true))))=true)(i:Nat):pI z i=0:=by
 simp only[Bool.and_eq_true,beq_iff_eq] at h
 match i with
 |0=>exact h.1
 |1=>exact h.2.1
 |2=>exact h.2.2.1
 |_+3=>exact h.2.2.2.1
def EC(m:eW)(S T:Nat→Nat→Int):Prop:=∀i j,i <4→j <4→0≤m.c i j∧m.c i j+S i j=T i j
theorem EC.init{F:List (P4×Value)}{zs:List aj}(h:CF F zs){es:Array MapEntry}(hE:sY Il F es ck):EC ⟨fun _ _=>0⟩ (fun i j=>sq i j (cI es [])) (aE zs).c:=fun i j hi _=>⟨Int.le_refl _,by show 0+sq i j (cI es [])=_;rw[h.total hE j hi];exact Int.zero_add _⟩
def inS(z:aj)(n:Int)(q:Nat)(R:Nat→Nat→Int):Nat→Nat→Int:=fun i j=>(if i <q then 0 else fV i j (Il (pk z))*n)+R i j
theorem EC.zero{m:eW}{z:aj}{n:Int}{es:Array MapEntry}{ck:Nat}{F:List (P4×Value)}{T:Nat→Nat→Int}{seen:List Nat}{e:MapEntry}(hE:sY Il F es ck)(he:e∈cI es seen)(hk:e.key=Il (pk z))(hz:∀i,pI z i=0)(h:EC m (fun i j=>sq i j (cI es seen)) T):EC m (fun i j=>sq i j (cI es (seen++[e.born]))) T:=fun i j hi hj=>by
 have h1:=h i j hi hj
 have h2:=JB hE he i j
 rw[hk,Yh z j hi,if_neg (by rw[hz];omega),Int.zero_mul,Int.zero_add] at h2
 dsimp only at h1 ⊢
 rw[h2] at h1;exact h1
theorem EC.open_{m:eW}{z:aj}{es:Array MapEntry}{F:List (P4×Value)}{e:MapEntry}(hE:sY Il F es ck)(he:e∈cI es seen)(hk:e.key=Il (pk z))(hv:e.val= zI n)(h:EC m (fun i j=>sq i j (cI es seen)) T):EC m (inS z n 0 fun i j=>sq i j (cI es (seen++[e.born]))) T:=fun i j hi hj=>by
 have h1:=h i j hi hj
 have h2:=JB hE he i j
 rw[hk,hv] at h2
 simp only[IK] at h2
 simp only[inS,if_neg (Nat.not_lt_zero i)]
 dsimp only at h1
 rw[h2] at h1;exact h1
theorem EC.close{m:eW}{z:aj}(h:EC m (inS z n 4 R) T):EC m R T:=fun i j hi hj=>by
 have h1:=h i j hi hj
 simp only[inS,if_pos hi,Int.zero_add] at h1
 exact h1
theorem EC.skip{m:eW}{z:aj}(h:EC m (inS z n q R) T)(hq:¬pI z q>0):EC m (inS z n (q+1) R) T:=fun i j hi hj=>by
 have h1:=h i j hi hj
 simp only[inS] at h1 ⊢
 by_cases e:i=q
 ·subst e
  rw[if_neg (Nat.lt_irrefl _),Yh z j hi,if_neg (by omega),Int.zero_mul] at h1
  rw[if_pos (Nat.lt_succ_self _)];exact h1
 by_cases e2:i <q
 ·rw[if_pos e2] at h1;rw[if_pos (by omega)];exact h1
 rw[if_neg e2] at h1;rw[if_neg (by omega)];exact h1
theorem EC.add{m:eW}{z:aj}(h:EC m (inS z n q R) T)(hn:0≤n)(hq:pI z q>0)(hq4:q <4):EC (rh m q (pI z q-1).toNat (m.c q (pI z q-1).toNat+n)) (inS z n (q+1) R) T:=fun i j hi hj=>by
 have h1:=h i j hi hj
 simp only[inS,rh] at h1 ⊢
 by_cases e:i=q
 ·subst e
  rw[if_neg (Nat.lt_irrefl _),Yh z j hi] at h1
  rw[if_pos (Nat.lt_succ_self _)]
  by_cases e2:j=(pI z i-1).toNat
  ·rw[if_pos (by omega)] at h1
   rw[if_pos ⟨rfl,e2⟩,←e2];omega
  rw[if_neg (by omega)] at h1
  rw[if_neg (by omega)];omega
 rw[if_neg (c:=i=q∧j=(pI z q-1).toNat) (by omega)]
 by_cases e2:i <q
 ·rw[if_pos e2] at h1;rw[if_pos (by omega)];exact h1
 rw[if_neg e2] at h1;rw[if_neg (by omega)];exact h1
theorem EC.bound{m:eW}{z:aj}(h:EC m (inS z n q R) T)(hR:∀i j,0≤R i j)(hn:0≤n){j:Nat}(hi:i <4)(hj:j <4):0≤m.c i j∧m.c i j≤T i j:=by
 have h1:=h i j hi hj
 have h2:=hR i j
 simp only[inS] at h1
 split at h1
 ·omega
 rcases aqu i j (Il (pk z)) with h3|h3<;>rw[h3] at h1<;>omega
theorem EC.fin{m:eW}{zs:List aj}{es:Array MapEntry}(h:EC m (fun i j=>sq i j (cI es seen)) (aE zs).c)(he:cI es seen=[]):yX m=yX (aE zs):=by
 have k (i j:Nat) (hi:i <4) (hj:j <4):m.c i j=(aE zs).c i j:=by
  have:=(h i j hi hj).2
  rw[he] at this
  simpa [sq] using this
 simp only[yX,k 0 0 (by decide) (by decide),k 0 1 (by decide) (by decide),k 0 2 (by decide) (by decide),k 0 3 (by decide) (by decide),k 1 0 (by decide) (by decide),k 1 1 (by decide) (by decide),k 1 2 (by decide) (by decide),k 1 3 (by decide) (by decide),k 2 0 (by decide) (by decide),k 2 1 (by decide) (by decide),k 2 2 (by decide) (by decide),k 2 3 (by decide) (by decide),k 3 0 (by decide) (by decide),k 3 1 (by decide) (by decide),k 3 2 (by decide) (by decide),k 3 3 (by decide) (by decide)]
theorem asG{z:aj}(h:q <4):nth [zI z.w0,zI z.w1,zI z.w2,zI z.w3] ((q:Int).toNat*1)=some (zI (pI z q)):=by
 rcases Ap h with rfl|rfl|rfl|rfl<;>rfl
theorem aeA{m:eW}{a:Nat}(h:a <4)(k:0≤j∧j <4):nth (yX m) (0+(a:Int).toNat*4+j.toNat*1)=some (zI (m.c a j.toNat)):=by
 obtain⟨b,rfl⟩:=Int.eq_ofNat_of_zero_le k.1
 exact ES h (by omega)
theorem aez{m:eW}{a:Nat}{v:Int}(h:a <4)(k:0≤j∧j <4):dw (yX m) (0+(a:Int).toNat*4+j.toNat*1) [zI v]=yX (rh m a j.toNat v):=by
 obtain⟨b,rfl⟩:=Int.eq_ofNat_of_zero_le k.1
 exact alT h (by omega)
theorem aeB{m:eW}{a:Nat}{v:Value}(h:a <4)(k:0≤j∧j <4):Nat.ble ((0+(a:Int).toNat*4+j.toNat*1)+[v].length) (yX m).length=true:=by
 obtain⟨b,rfl⟩:=Int.eq_ofNat_of_zero_le k.1
 exact alU h (by omega)
theorem aQR(z:aj):EqV zT 126 (v4 z.w0 z.w1 z.w2 z.w3) (v4 0 0 0 0) (z.w0==0&&(z.w1==0&&(z.w2==0&&(z.w3==0&&true)))):=NO (aFc (dep:=9998) (mN Tryz.typeInfo126 Tryz.underlying126 rfl rfl rfl rfl rfl rfl) mh _ _ _ _ _ _ _ _)
theorem aLi:nS zT 126:=by unfold nS;kernel_rfl
theorem Ql{F F1:List (P4×Value)}{k:P4}(h1:((∃u,rV k F 0=some u)∧F1=F)∨(rV k F 0=none∧F1=F++[(k,zI 0)]))(hl:Qn (zI 0) false k F= zI n):Qn (zI 0) false k F1= zI n:=by
 rcases h1 with ⟨_,rfl⟩| ⟨hf,rfl⟩
 ·exact hl
 simp only[Qn,lkM,AM (v:= zI 0) hf]
 simpa [Qn,lkM,hf] using hl
theorem afl{v:Value}{zs:List aj}(hl:bI ro v 8 cP zs)(hn:zs.length≤100000)(hp:∀x∈zs,∀q,0≤pI x q∧pI x q≤4):dR zT 54 [v] ro [] (fun r Y=>r= .agg ⟨yX (aE zs)⟩∧Y=[]):=by
 obtain⟨fu,ry,rq,eI,rfl,tx,lv,mj⟩:=hl
 refine zE<|zD 2<|jn fun b2=>zD 3<|jmk Il fun FU L11 ago=>zD 10<|dS [1,1,0,1,0,0] [] (fun(zz:Nat×(List (P4×Value))×Cells)=>[(2,zP b2),(3,(.map (some FU))),(12,.slice fu zs.length eI),(13,zI (zs.length:Int)),(14,zI (zz.1:Int))]) (fun(zz:Nat×(List (P4×Value))×Cells)=>[.l zz.2.2,.b b2 (.cells ⟨[zI 0,zI 0,zI 0,zI 0,zI 0,zI 0,zI 0,zI 0,zI 0,zI 0,zI 0,zI 0,zI 0,zI 0,zI 0,zI 0]⟩ 122 (0,0))]) (fun(zz:Nat×(List (P4×Value))×Cells)=>zz.1≤zs.length∧jJ FU Il zz.2.1 zz.2.2∧CF zz.2.1 (zs.take zz.1)) (fun(zz:Nat×(List (P4×Value))×Cells)=>zs.length-zz.1) (⟨0,[],L11⟩) ⟨by dsimp only;omega,ago,CF.nil⟩ [0,1] ?_
 rintro⟨k,F,LM⟩ hI K1 bL rest
 dsimp only at hI
 refine zD 5<|zJ 15 ((k:Int) <(zs.length:Int)) (fun h1=>?_) fun h1=>?_
 ·
  refine zD 6 ?_
  obtain⟨Bc,mv⟩:=zG zs k
  refine iB eI 8 lv mv<|jl 0 (mj _ _ mv)<|jn fun b5=>jd 2 [0] ?_
  obtain⟨nk,hlk,hnk⟩:=hI.2.2.look (pk Bc)
  have SB:(zs.take k).length=k:=by rw[List.length_take];omega
  refine jd 4 [0]<|ET [3,5] ⟨fun z2 t3 qE=>?_,fun z5 t6 Ra=>?_,trivial⟩
  ·
   refine jlu (kv:=Il) (F:=F) (r:=FU) (K:=126) (pk Bc) (zI 0) false [1] LM ae2 (fun s _ hZ=>hI.2.1.has hZ)<|ez qE [0,1,2]<|jw 3 (zI nk) hlk<|ja (nk+1) (by omega)<|aS 5 fun YT Zf hL8=>jme (kv:=Il) (F:=F) (r:=FU) (L:=LM) 1 (pk Bc) ae2 mh hI.2.1 fun Fm4 bm4 cm4 Lm4 bau hm4=>fS hL8 []<|aS 6 fun YS Ze UY=>zD 1<|ez UY [0,1,2]<|aS 7 fun Fc FA tS=>jes 0 (zI (nk+1)) hm4 fun Lm7 hm7=>fT tS<|zD 2<|ja ((k:Int)+1) (by omega)<|zD 2<|bJ bL (⟨k+1,_,Lm7⟩) ⟨by dsimp only;omega,hm7,by dsimp only;rw[jh mv];exact hI.2.2.upd (by assumption) hlk hnk⟩ (by dsimp only;omega) [0,2] (Sub.refl _)
  refine jme (kv:=Il) (F:=F) (r:=FU) (L:=LM) 1 (pk Bc) ae2 mh hI.2.1 fun Fm9 bm9 cm9 Lm9 aEo hm9=>fT Ra<|ET [3,6] ⟨fun z11 t12 Nx=>?_,fun z14 t15 Em=>?_,trivial⟩
  ·
   refine jlu (kv:=Il) (F:=Fm9) (r:=FU) (K:=126) (pk Bc) (zI 0) false [0] Lm9 ae2 (fun s _ hZ=>hm9.own.has hZ)<|fT Nx<|jw 3 (zI nk) (Ql aEo hlk)<|ja (nk+1) (by omega)<|aS 6 fun V0 Wc Cg=>zD 1<|ez Cg [0,1,2]<|aS 7 fun ab4 acO Nw=>jes 0 (zI (nk+1)) hm9 fun aRV aDa=>fT Nw<|zD 2<|ja ((k:Int)+1) (by omega)<|zD 2<|bJ bL (⟨k+1,_,aRV⟩) ⟨by dsimp only;omega,aDa,by dsimp only;rw[jh mv];exact hI.2.2.upd (by assumption) hlk hnk⟩ (by dsimp only;omega) [0,2] (Sub.refl _)
  refine zD 1<|fT Em<|aS 3 fun ab3 acN Nv=>jlu (kv:=Il) (F:=Fm9) (r:=FU) (K:=126) (pk Bc) (zI 0) false [0] Lm9 ae2 (fun s _ hZ=>hm9.own.has hZ)<|fT Nv<|jw 3 (zI nk) (Ql aEo hlk)<|ja (nk+1) (by omega)<|aS 7 fun aoy aoT Nu=>jes 0 (zI (nk+1)) hm9 fun aRU agn=>fT Nu<|zD 2<|ja ((k:Int)+1) (by omega)<|zD 2<|bJ bL (⟨k+1,_,aRU⟩) ⟨by dsimp only;omega,agn,by dsimp only;rw[jh mv];exact hI.2.2.upd (by assumption) hlk hnk⟩ (by dsimp only;omega) [0,2] (Sub.refl _)
 refine zD 4<|jn fun b6=>jf [1] LM (fun aWM auh avb=>?_)
 have hCF:CF F zs:=by have:=hI.2.2;rwa[show k=zs.length by omega,List.take_length] at this
 obtain⟨Bm,IC,rfl,hE1⟩:=hI.2.1
 refine zD 5<|jmR (avb _ (.head _)) fun r27=>jg 0 [.b r27 (uo FU IC [])]<|zD 2<|dS [1,1,1,1,0,1,0,0] [] (fun(zz:(List Nat)×eW)=>[(2,zP b2),(6,zP b6),(27,zP r27)]) (fun zz=>[.b r27 (uo FU IC zz.1),.b b6 (.cells ⟨[zI (zz.2.c 0 0),zI (zz.2.c 0 1),zI (zz.2.c 0 2),zI (zz.2.c 0 3),zI (zz.2.c 1 0),zI (zz.2.c 1 1),zI (zz.2.c 1 2),zI (zz.2.c 1 3),zI (zz.2.c 2 0),zI (zz.2.c 2 1),zI (zz.2.c 2 2),zI (zz.2.c 2 3),zI (zz.2.c 3 0),zI (zz.2.c 3 1),zI (zz.2.c 3 2),zI (zz.2.c 3 3)]⟩ 122 (0,0)),.b b2 (.cells ⟨[zI 0,zI 0,zI 0,zI 0,zI 0,zI 0,zI 0,zI 0,zI 0,zI 0,zI 0,zI 0,zI 0,zI 0,zI 0,zI 0]⟩ 122 (0,0))]) (fun zz=>EC zz.2 (fun i j=>sq i j (cI Bm zz.1)) (aE zs).c) (fun zz=>(cI Bm zz.1).length) (⟨[],⟨fun _ _=>0⟩⟩) (EC.init hCF hE1) [0,1,2] ?_
 rintro⟨seen,m⟩ hI K21 ann rest
 dsimp only at hI
 refine zD 2<|jmN (it:=r27) (kv:=Il) (seen:=seen) 0 (avb _ (.head _)) hE1 (fun k28 v28 e28 aDz aaH au9 aCg=>?_) (fun atQ=>?_)
 ·
  obtain⟨Gq,apS,aC1⟩:=hCF.val _ aDz
  obtain⟨kF,atQ,hkz⟩:=hCF.key _ aDz
  dsimp only at apS hkz
  subst apS
  subst hkz
  have hpz:=hp kF atQ
  have cK:=Gx aaH
  refine jg 0 [.b r27 (uo FU IC (seen++[e28.born]))]<|zD 8<|jmE (it:=r27) 0 (avb _ (.head _)) hE1 aaH au9 aCg<|jg 0 [.b r27 (uo FU IC (seen++[e28.born]))]<|zD 2<|jn fun b7=>jd 8 [0,0]<|jeq aLi (aQR kF)<|zD 1<|js 35 (kF.w0==0&&(kF.w1==0&&(kF.w2==0&&(kF.w3==0&&true)))) (fun h21=>?_) (fun h21=>?_)
  ·
   refine zD 2<|bJ ann (⟨(seen++[e28.born]),m⟩) (hI.zero (n:=0) hE1 aaH au9 (ab5 (by assumption))) cK [1,2,3] (Sub.refl _)
  refine jd 8 [0]<|dS [1,1,1,1,0,1,0,0,1,1,0,1,1,1,0,0] [K21] (fun(zz:Nat×eW)=>[(2,zP b2),(6,zP b6),(8,zI Gq),(27,zP r27),(36,.agg ⟨[zI kF.w0,zI kF.w1,zI kF.w2,zI kF.w3]⟩),(37,zI (zz.1:Int))]) (fun zz=>[.b r27 (uo FU IC (seen++[e28.born])),.b b6 (.cells ⟨[zI (zz.2.c 0 0),zI (zz.2.c 0 1),zI (zz.2.c 0 2),zI (zz.2.c 0 3),zI (zz.2.c 1 0),zI (zz.2.c 1 1),zI (zz.2.c 1 2),zI (zz.2.c 1 3),zI (zz.2.c 2 0),zI (zz.2.c 2 1),zI (zz.2.c 2 2),zI (zz.2.c 2 3),zI (zz.2.c 3 0),zI (zz.2.c 3 1),zI (zz.2.c 3 2),zI (zz.2.c 3 3)]⟩ 122 (0,0)),.b b7 (.cells ⟨[zI kF.w0,zI kF.w1,zI kF.w2,zI kF.w3]⟩ 126 (0,0)),.b b2 (.cells ⟨[zI 0,zI 0,zI 0,zI 0,zI 0,zI 0,zI 0,zI 0,zI 0,zI 0,zI 0,zI 0,zI 0,zI 0,zI 0,zI 0]⟩ 122 (0,0))]) (fun zz=>zz.1≤4∧EC zz.2 (inS kF Gq zz.1 (fun i j=>sq i j (cI Bm (seen++[e28.born])))) (aE zs).c) (fun zz=>4-zz.1) (⟨0,m⟩) ⟨by dsimp only;omega,hI.open_ hE1 aaH au9 aCg⟩ [1,2,0,3] ?_
  rintro⟨q,m⟩ hJ K22 aEi rest
  dsimp only at hJ
  refine zD 5<|zJ 38 ((q:Int) <4) (fun KP=>?_) fun KP=>?_
  ·
   refine zD 7<|jai (l:=[zI kF.w0,zI kF.w1,zI kF.w2,zI kF.w3]) (q:Int) 4 1 false (by omega) (v:= zI (pI kF q)) (show nth [_,_,_,_] _=_ from asG (by omega))<|zD 8<|zJ 42 ((pI kF q)>0) (fun E5=>?_) fun E5=>?_
   ·
    refine zD 4<|ja ((pI kF q)-1) (by have:=hpz q;omega) ?_
    refine Kz (b:=b6) (off:=0) (len:=4) (sz:=4) (q:Int) (by omega)<|Kz (b:=b6) (off:=0+(q:Int).toNat*4) (len:=4) (sz:=1) ((pI kF q)-1) (by have:=hpz q;omega) ?_
    refine oH (b:=b6) (off:=0+(q:Int).toNat*4+((pI kF q)-1).toNat*1) (m:=1) (vs:=[zI (m.c q (pI kF q-1).toNat)]) 0 [1] [(b6,.cells ⟨[zI (m.c 0 0),zI (m.c 0 1),zI (m.c 0 2),zI (m.c 0 3),zI (m.c 1 0),zI (m.c 1 1),zI (m.c 1 2),zI (m.c 1 3),zI (m.c 2 0),zI (m.c 2 1),zI (m.c 2 2),zI (m.c 2 3),zI (m.c 3 0),zI (m.c 3 1),zI (m.c 3 2),zI (m.c 3 3)]⟩ 122 (0,0))] (fun s _ hZ=>sA (hZ _ (.head _)) (aeA (m:=m) (by omega) (by have:=hpz q;omega))) ?_
    refine zD 1<|ja ((m.c q (pI kF q-1).toNat)+Gq) (by have h7:=hJ.2.bound (fun i j=>Pf (akJ hCF hE1)) aC1.1 (i:=q) (j:=(pI kF q-1).toNat) (by omega) (by have:=hpz q;omega);have h8:=HH zs q (pI kF q-1).toNat;omega) ?_
    refine Kz (b:=b6) (off:=0) (len:=4) (sz:=4) (q:Int) (by omega)<|Kz (b:=b6) (off:=0+(q:Int).toNat*4) (len:=4) (sz:=1) ((pI kF q)-1) (by have:=hpz q;omega) ?_
    refine aS 10 fun aox aoS Nt=>jsx 1 b6 (0+(q:Int).toNat*4+((pI kF q)-1).toNat*1) [zI (m.c 0 0),zI (m.c 0 1),zI (m.c 0 2),zI (m.c 0 3),zI (m.c 1 0),zI (m.c 1 1),zI (m.c 1 2),zI (m.c 1 3),zI (m.c 2 0),zI (m.c 2 1),zI (m.c 2 2),zI (m.c 2 3),zI (m.c 3 0),zI (m.c 3 1),zI (m.c 3 2),zI (m.c 3 3)] [zI ((m.c q (pI kF q-1).toNat)+Gq)] 122 (by intro v hv;rw[List.mem_singleton] at hv;subst hv;rfl) (aeB (m:=m) (by omega) (by have:=hpz q;omega)) ?_
    refine jmw 0 [.b b6 (.cells ⟨[zI ((rh m q (pI kF q-1).toNat (m.c q (pI kF q-1).toNat+Gq)).c 0 0),zI ((rh m q (pI kF q-1).toNat (m.c q (pI kF q-1).toNat+Gq)).c 0 1),zI ((rh m q (pI kF q-1).toNat (m.c q (pI kF q-1).toNat+Gq)).c 0 2),zI ((rh m q (pI kF q-1).toNat (m.c q (pI kF q-1).toNat+Gq)).c 0 3),zI ((rh m q (pI kF q-1).toNat (m.c q (pI kF q-1).toNat+Gq)).c 1 0),zI ((rh m q (pI kF q-1).toNat (m.c q (pI kF q-1).toNat+Gq)).c 1 1),zI ((rh m q (pI kF q-1).toNat (m.c q (pI kF q-1).toNat+Gq)).c 1 2),zI ((rh m q (pI kF q-1).toNat (m.c q (pI kF q-1).toNat+Gq)).c 1 3),zI ((rh m q (pI kF q-1).toNat (m.c q (pI kF q-1).toNat+Gq)).c 2 0),zI ((rh m q (pI kF q-1).toNat (m.c q (pI kF q-1).toNat+Gq)).c 2 1),zI ((rh m q (pI kF q-1).toNat (m.c q (pI kF q-1).toNat+Gq)).c 2 2),zI ((rh m q (pI kF q-1).toNat (m.c q (pI kF q-1).toNat+Gq)).c 2 3),zI ((rh m q (pI kF q-1).toNat (m.c q (pI kF q-1).toNat+Gq)).c 3 0),zI ((rh m q (pI kF q-1).toNat (m.c q (pI kF q-1).toNat+Gq)).c 3 1),zI ((rh m q (pI kF q-1).toNat (m.c q (pI kF q-1).toNat+Gq)).c 3 2),zI ((rh m q (pI kF q-1).toNat (m.c q (pI kF q-1).toNat+Gq)).c 3 3)]⟩ 122 (0,0))] (L:=[(b6,.cells ⟨dw [zI (m.c 0 0),zI (m.c 0 1),zI (m.c 0 2),zI (m.c 0 3),zI (m.c 1 0),zI (m.c 1 1),zI (m.c 1 2),zI (m.c 1 3),zI (m.c 2 0),zI (m.c 2 1),zI (m.c 2 2),zI (m.c 2 3),zI (m.c 3 0),zI (m.c 3 1),zI (m.c 3 2),zI (m.c 3 3)] (0+(q:Int).toNat*4+((pI kF q)-1).toNat*1) [zI ((m.c q (pI kF q-1).toNat)+Gq)]⟩ 122 (0,0))]) (by rw[aez (m:=m) (by omega) (by have:=hpz q;omega)];rfl) ?_
    refine fS Nt []<|zD 2<|ja ((q:Int)+1) (by omega)<|zD 2<|bJ aEi (⟨q+1,(rh m q (pI kF q-1).toNat (m.c q (pI kF q-1).toNat+Gq))⟩) ⟨by dsimp only;omega,hJ.2.add aC1.1 (by assumption) (by omega)⟩ (by dsimp only;omega) [1,0,2,3] (Sub.refl _)
   refine zD 3<|ja ((q:Int)+1) (by omega)<|zD 2<|bJ aEi (⟨q+1,m⟩) ⟨by dsimp only;omega,hJ.2.skip (by assumption)⟩ (by dsimp only;omega) (zN 0 4) (Sub.refl _)
  refine zD 2<|bJ ann (⟨(seen++[e28.born]),m⟩) (EC.close (z:=kF) (n:=Gq) (by have:=hJ.2;rwa[show q=4 by omega] at this)) cK [0,1,3] (Sub.refl _)
 refine jg 0 [.b r27 (uo FU IC seen)]<|jd 11 [1,2]<|aM q0.a (.agg ⟨[zI (m.c 0 0),zI (m.c 0 1),zI (m.c 0 2),zI (m.c 0 3),zI (m.c 1 0),zI (m.c 1 1),zI (m.c 1 2),zI (m.c 1 3),zI (m.c 2 0),zI (m.c 2 1),zI (m.c 2 2),zI (m.c 2 3),zI (m.c 3 0),zI (m.c 3 1),zI (m.c 3 2),zI (m.c 3 3)]⟩) [2] [] [] auh ⟨_,_,rfl,rfl,by rw[←hI.fin atQ],rfl⟩
theorem RI:wH:=fun hl hn hp=>afl hl hn hp
theorem AJ:∀(l:List Int) (a:Int),l.foldl min a=a∨l.foldl min a∈l
 | [],_=> .inl rfl
 |y::l,a=>by
  simp only[List.foldl_cons]
  rcases AJ l (min a y) with h|h
  ·rw[h]
   rcases(by omega:min a y=a∨min a y=y) with e|e
   ·exact .inl e
   rw[e];exact .inr List.mem_cons_self
  exact .inr (List.mem_cons_of_mem _ h)
theorem Qh:∀ {l:List Int},l≠[]→uG l∈l
 | [],h=>absurd rfl h
 |y::l,_=>by
  show l.foldl min y∈_
  rcases AJ l y with h|h
  ·rw[h];exact List.mem_cons_self
  exact List.mem_cons_of_mem _ h
theorem Ko{l m:List Int}(h:l.Perm m)(hl:l≠[]):uG l=uG m:=by
 have h1:=MQ (h.mem_iff.1 (Qh hl))
 have h2:=MQ (h.mem_iff.2 (Qh (fun e=>hl (by rw[e] at h;exact h.eq_nil))))
 omega
theorem Hn:∀(l:List Int) (a:Int),a≤l.foldl max a∧∀x∈l,x≤l.foldl max a
 | [],a=>⟨Int.le_refl _,fun _ h=>(by cases h)⟩
 |y::l,a=>by
  obtain⟨h1,h2⟩:=Hn l (max a y)
  refine⟨by simp only[List.foldl_cons];omega,fun x hx=>?_⟩
  rcases List.mem_cons.1 hx with rfl|hx
  ·simp only[List.foldl_cons];omega
  exact h2 x hx
theorem AK:∀(l:List Int) (a:Int),l.foldl max a=a∨l.foldl max a∈l
 | [],_=> .inl rfl
 |y::l,a=>by
  simp only[List.foldl_cons]
  rcases AK l (max a y) with h|h
  ·rw[h]
   rcases(by omega:max a y=a∨max a y=y) with e|e
   ·exact .inl e
   rw[e];exact .inr List.mem_cons_self
  exact .inr (List.mem_cons_of_mem _ h)
theorem Xh{l:List Int}(h:x∈l):x≤BT l:=by
 cases l with
 |nil=>cases h
 |cons y l=>
  rcases List.mem_cons.1 h with rfl|h
  ·exact(Hn l _).1
  exact(Hn l _).2 x h
theorem Qi:∀ {l:List Int},l≠[]→BT l∈l
 | [],h=>absurd rfl h
 |y::l,_=>by
  show l.foldl max y∈_
  rcases AK l y with h|h
  ·rw[h];exact List.mem_cons_self
  exact List.mem_cons_of_mem _ h
theorem Z8{l m:List Int}(h:l.Perm m)(hl:l≠[]):BT l=BT m:=by
 have h1:=Xh (h.mem_iff.1 (Qi hl))
 have h2:=Xh (h.mem_iff.2 (Qi (fun e=>hl (by rw[e] at h;exact h.eq_nil))))
 omega
theorem MW{f:α→β}{l:List α}(h:l≠[]):l.map f≠[]:=fun e=>h (List.map_eq_nil_iff.1 e)
abbrev fsT:List cY:=[⟨2,1,true⟩,⟨0,1,true⟩]
theorem cC(h:0≤n∧n≤4):ju (aW n):=aqy (fs:=[]) h (by decide) (by simp) .nil
theorem cV:eN (aW n):=aqx (fs:=[]) (by decide) (by simp)
theorem cCT:ju (DD 2 fsT):=aqy (by decide) (by decide) (by decide) (by decide)
theorem cVT:eN (DD 2 fsT):=aqx (by decide) (by decide)
theorem rT:cJ (aW 2)=4:=by kernel_rfl
theorem rL:uG ((cW (aW 1) (aD (aW 1)) (fun _=>true) (dv (aW 1))).map FE)=2:=by kernel_rfl
theorem rLn:(cW (aW 1) (aD (aW 1)) (fun _=>true) (dv (aW 1))).length=0→False:=by
 have e:Nat.beq (cW (aW 1) (aD (aW 1)) (fun _=>true) (dv (aW 1))).length 0=false:=by kernel_rfl
 intro h;rw[h] at e;cases e
theorem r1n:(cW (aW 1) (aD (aW 1)) (cE (aW 1).gone (aW 1).new (aW 1).af) (dv (aW 1))).length=0→False:=by
 have e:Nat.beq (cW (aW 1) (aD (aW 1)) (cE (aW 1).gone (aW 1).new (aW 1).af) (dv (aW 1))).length 0=false:=by kernel_rfl
 intro h;rw[h] at e;cases e
theorem r2n:(cW (aW 2) (aD (aW 2)) (cE (aW 2).gone (aW 2).new (aW 2).af) (dv (aW 2))).length=0→False:=by
 have e:Nat.beq (cW (aW 2) (aD (aW 2)) (cE (aW 2).gone (aW 2).new (aW 2).af) (dv (aW 2))).length 0=false:=by kernel_rfl
 intro h;rw[h] at e;cases e
theorem rM1:uG ((cW (aW 2) (aD (aW 2)) (cE (aW 2).gone (aW 2).new (aW 2).af) (dv (aW 2))).map fun x=>x.af)=0:=by kernel_rfl
theorem rM2:BT ((cW (aW 2) (aD (aW 2)) (cE (aW 2).gone (aW 2).new (aW 2).af) (dv (aW 2))).map fun x=>x.af)=2:=by kernel_rfl
theorem rU:oP (aE (cW (aW 1) (aD (aW 1)) (cE (aW 1).gone (aW 1).new (aW 1).af) (dv (aW 1)))) (((cW (aW 1) (aD (aW 1)) (cE (aW 1).gone (aW 1).new (aW 1).af) (dv (aW 1))).length:Nat):Int) (aW 1).after.length (aW 1).before.length=[[0,0],[2,1]]:=by kernel_rfl
theorem rW:LD (DD 2 fsT) (dv (DD 2 fsT))=some 1:=by kernel_rfl
theorem rL1:lP 1 4=[0]:=by kernel_rfl
theorem rA:(VD (abm (aE (cW (aW 2) (aD (aW 2)) (cE (aW 2).gone (aW 2).new (aW 2).af) (dv (aW 2)))) (((cW (aW 2) (aD (aW 2)) (cE (aW 2).gone (aW 2).new (aW 2).af) (dv (aW 2))).length:Nat):Int) (aW 2).after.length (aW 2).before.length)).2.2=(2,0):=by kernel_rfl
theorem Zz(hK:fP ro l (aW 2)):Fb zT 12 [.agg ⟨l⟩] ro [] (fun r Y=>r= .tuple ⟨[zI 4,zI 0]⟩∧Y=[]):=
 (GC hK (cC (by decide)) cV).mono fun v X h=>⟨by rw[h.1,rT];rfl,h.2⟩
theorem ads(hK:fP ro l (aW 1)):Fb zT 48 [.agg ⟨l⟩] ro [] (fun r Y=>r= .tuple ⟨[zI 2,zI 0]⟩∧Y=[]):=
 (amh hK (cC (by decide)) cV).mono fun v X ⟨zs,m,e,hz,hY,hr,h⟩=>by
  rcases h with ⟨h,_⟩| ⟨h,hm,he⟩
  ·exact(rLn (by rw[←hz.length_eq,h];rfl)).elim
  exact⟨by rw[hr,hm,he,Ko (hz.map FE) (MW h),rL],hY⟩
theorem ak9(hK:fP ro l (aW 1)):Fb zT 46 [.agg ⟨l⟩] ro [] (fun r Y=>∃v,r= .tuple ⟨[v,zI 0]⟩∧∀aI,Knows aI Y→LL aI v [[0,0],[2,1]]):=
 (atw hK cV (pH (cC (by decide))) (wy hK (cC (by decide)) cV) RI).mono fun r X ⟨zs,v,e,hz,hr,h⟩=>by
  rcases h with ⟨h,_⟩| ⟨h,he,hl⟩
  ·exact(r1n (by rw[←hz.length_eq,h];rfl)).elim
  refine⟨v,by rw[hr,he],fun aI hk=>?_⟩
  have:=hl aI hk
  rwa[AV hz,hz.length_eq,rU] at this
theorem adr(hK:fP ro l (aW 2)):Fb zT 47 [.agg ⟨l⟩] ro [] (fun r Y=>r= .tuple ⟨[.agg ⟨[zI 0,zI 2]⟩,zI 0]⟩∧Y=[]):=
 (aty hK cV (pH (cC (by decide))) (wy hK (cC (by decide)) cV)).mono fun r X ⟨zs,a,b,e,hz,hY,hr,h⟩=>by
  rcases h with ⟨h,_⟩| ⟨h,ha,hb,he⟩
  ·exact(r2n (by rw[←hz.length_eq,h];rfl)).elim
  exact⟨by rw[hr,ha,hb,he,Ko (hz.map _) (MW h),Z8 (hz.map _) (MW h),rM1,rM2],hY⟩
theorem ar8(hK:fP ro l (aW 2)):Fb zT 50 [.agg ⟨l⟩] ro [] (fun r Y=>∃a b,r= .tuple ⟨[zI a,zI b,zI 2,zI 0]⟩∧Y=[]):=
 (aLA hK cV (pH (cC (by decide))) (wy hK (cC (by decide)) cV) RI).mono fun r X ⟨zs,a,b,w,e,hz,hY,hr,h⟩=>by
  rcases h with ⟨h,_⟩| ⟨h,ha⟩
  ·exact(r2n (by rw[←hz.length_eq,h];rfl)).elim
  rw[AV hz,hz.length_eq] at ha
  have h2:=congrArg (fun x:Int×Int×Int×Int=>x.2.2) ha
  dsimp only at h2
  rw[rA] at h2
  cases h2
  exact⟨a,b,hr,hY⟩
theorem adq(hK:fP ro l (DD 2 fsT)):dR zT 22 [.agg ⟨l⟩] ro [] (fun r Y=>∃v,r= .tuple ⟨[v,zI 0]⟩∧ay v 1 3 cz [0] Y):=
 Fn.mono (ath hK cVT (pH cCT) (wy hK cCT cVT) (by decide)) fun en s' ⟨r,X,h1,h2,v,e,hr,h⟩=>⟨r,X,h1,h2,by
  rcases h with ⟨m,hm,ho,he⟩| ⟨hm,_⟩
  ·rw[rW] at hm;cases hm
   rw[rL1] at ho
   exact⟨v,by rw[hr,he],ho⟩
  rw[rW] at hm;cases hm⟩
theorem aeX{v4 vf:Value}{fa:Option Addr}(h:fP ro [v0,v1,.slice fa 0 fc,v3,v4,v5,v6,v7,zI 1,zI 1,zI n,vb] (aW n))(hf:bI ro vf 3 rM fs):fP ro [v0,v1,.slice fa 0 fc,v3,v4,v5,v6,v7,zI 1,zI 1,zI n,vf] (DD n fs):=by
 obtain⟨w0,w1,w3,w4,w5,w6,w7,wb,ga,gc,hv,e,h1,h2,h3,h4,h5,h6,h7,_⟩:=h
 cases e
 exact⟨_,_,_,_,_,_,_,_,_,_,hv,rfl,h1,h2,h3,h4,h5,h6,h7,hf⟩
theorem O5{v4:Value}{fa fb:Option Addr}(h:∀v∈[v0,v1,v3,v4,v5,v6,v7,vb],single v=true):∀v∈[v0,v1,.slice fa 0 fc,v3,v4,v5,v6,v7,zI 1,zI 1,zI 2,.slice fb fn fd],single v=true:=by
 simp only[List.mem_cons,List.not_mem_nil,or_false] at h ⊢
 rintro v (rfl|rfl|rfl|rfl|rfl|rfl|rfl|rfl|rfl|rfl|rfl|rfl)<;>first|rfl|exact h _ (by simp)
theorem LL.up{aI:Nat→Option Obj}{v:Value}{W:List (List Int)}(h:LL ro v W)(hs:Sub ro aI):LL aI v W:=by
 obtain⟨ws,h1,h2⟩:=h
 exact⟨ws,h1.up hs,h2.imp fun _ _ k=>k.up hs⟩
theorem aFa(a b c d:Int):EqV zT 65 (.agg ⟨[zI a,zI b]⟩) (.agg ⟨[zI c,zI d]⟩) (a==c&&(b==d&&true)):=
 NO (tW (dep:=9999) (mN Tryz.typeInfo65 Tryz.underlying65 rfl rfl rfl rfl rfl rfl) Tryz.stoodInHeld65 (.cons (by decide) (jR mh rfl) (jR mh rfl) (nO mh _ _) (.cons (by decide) (jR mh rfl) (jR mh rfl) (nO mh _ _) .nil)))
theorem aLh:nS zT 65:=by unfold nS;kernel_rfl
theorem ak8:Fb zT 15 [] ro [] (fun r Y=>r= .bool true∧Y=[]):=by
 refine GD au [] [] bn fun fr=>zD 6<|jc (vs:=[zI 2]) [] (Lq) ?_
 rintro _ Y16 ⟨l16,rfl,aPz,Em⟩
 refine jf [0] Y16 (fun za bX iI=>?_)
 have aPX:=aPz _ iI
 refine Sq (vs:=[(.agg ⟨l16⟩)]) [] (fun _ _ h=>h) (Zz aPX) ?_
 rintro _ _ ⟨rfl,rfl⟩
 refine jg 0 []<|zD 8<|jc (vs:=[zI 1]) [] (Lq) ?_
 rintro _ Y21 ⟨l21,rfl,aPy,aaN⟩
 refine jf [0] Y21 (fun ro6 j5 XP=>?_)
 have ann:=aPy _ XP
 refine Sq (vs:=[(.agg ⟨l21⟩)]) [] (fun _ _ h=>h) (ak9 ann) ?_
 rintro _ Y22 ⟨v22,rfl,aNE⟩
 refine zD 5<|jf [0] Y22 (fun ro9 rF hk8=>?_)
 have aPA:=aNE _ hk8
 refine zD 3<|jc (vs:=[zI 2]) [] (Lq) ?_
 rintro _ Y26 ⟨vv,rfl,aPx,AF⟩
 refine jf [0] Y26 (fun aWR aCt aNT=>?_)
 have aPW:=aPx _ aNT
 refine Sq (vs:=[(.agg ⟨vv⟩)]) [] (fun _ _ h=>h) (adr aPW) ?_
 rintro _ _ ⟨rfl,rfl⟩
 refine jg 0 []<|zD 3<|jn fun b5=>jd 5 [0]<|jc (vs:=[zI 1]) [] (Lq) ?_
 rintro _ Y31 ⟨Qq,rfl,aPw,I8⟩
 refine jf [0] Y31 (fun aWP aCr amX=>?_)
 have aPV:=aPw _ amX
 refine Sq (vs:=[(.agg ⟨Qq⟩)]) [] (fun _ _ h=>h) (ads aPV) ?_
 rintro _ _ ⟨rfl,rfl⟩
 refine jg 0 []<|zD 8<|jc (vs:=[zI 2]) [] (Lq) ?_
 rintro _ Y36 ⟨l36,rfl,aPv,Np⟩
 refine jp (vs:=[zI 2,zI 1,.bool true]) [] [] (fun aH hs hZ=>aFq)<|jp (vs:=[zI 0,zI 1,.bool true]) [] [] (fun aH hs hZ=>aFq)<|jn fun b39=>jf [1,0] (Y36++[(b39,.cells ⟨[zI 2,zI 1,.bool true,zI 0,zI 1,.bool true]⟩ 58 (0,0))]) (fun aWN aCq aaF=>?_)
 have aPT:=aPv _ (Knows.left aaF)
 have aN8:=bC (sz:=3) (enc:=rM) (T:=58) [⟨2,1,true⟩,⟨0,1,true⟩] (Knows.right aaF _ (.head _)) (fun _ _=>rfl)
 obtain⟨v0,v1,v3,v4,v5,v6,v7,vb,fa,fc,rfl,aMK⟩:=Np
 refine jp (vs:=[.agg ⟨[v0,v1,(.slice fa 0 fc),v3,v4,v5,v6,v7,zI 1,zI 1,zI 2,vb]⟩,(.slice (some ⟨b39,0,none⟩) 2 2)]) [] [] (fun aH hs hZ=>aFp (O5 aMK))<|jc (vs:=[.agg ⟨[v0,v1,(.slice fa 0 fc),v3,v4,v5,v6,v7,zI 1,zI 1,zI 2,(.slice (some ⟨b39,0,none⟩) 2 2)]⟩]) [] (adq (aeX aPT aN8)) ?_
 rintro _ Y41 ⟨v41,rfl,aNf⟩
 refine zD 8<|jc (vs:=[zI 2]) [] (Lq) ?_
 rintro _ Y45 ⟨l45,rfl,aPu,anm⟩
 refine jf [0] Y45 (fun aWL aCp aNQ=>?_)
 have aPS:=aPu _ aNQ
 refine Sq (vs:=[(.agg ⟨l45⟩)]) [] (fun _ _ h=>h) (ar8 aPS) ?_
 rintro _ _ ⟨qa,qb,rfl,rfl⟩
 refine jg 0 []<|jd 49 [1]<|jeq aLh (aFa 0 2 0 2)<|zD 3<|jn fun b92=>jn fun b93=>jn fun b94=>jf [2,1,0] ((b92,.cells ⟨[zI 0,zI 0]⟩ 3 (0,0))::((b93,.cells ⟨[zI 2,zI 1]⟩ 3 (0,0))::[(b94,.cells ⟨[.slice (some ⟨b92,0,none⟩) 2 2,.slice (some ⟨b93,0,none⟩) 2 2]⟩ 22 (0,0))])) (fun aWK amJ ava=>?_)
 obtain⟨wsM,hsM,haM⟩:=aPA.up ((((aCt.trans aCr).trans aCq).trans aCp).trans amJ)
 have aMi:=bC (sz:=1) (enc:=gv) (T:=22) [.slice (some ⟨b92,0,none⟩) 2 2,.slice (some ⟨b93,0,none⟩) 2 2] (ava _ (.tail _ (.tail _ (.head _)))) (fun _ _=>rfl)
 have aPm:=bC (sz:=1) (enc:=cz) (T:=3) [0,0] (ava _ (.head _)) (fun _ _=>rfl)
 have aPl:=bC (sz:=1) (enc:=cz) (T:=3) [2,1] (ava _ (.tail _ (.head _))) (fun _ _=>rfl)
 refine jp (vs:=[v22,(.slice (some ⟨b94,0,none⟩) 2 2)]) [] [] (fun aH hs hZ=>(show dD _ _ _ _ (.bool (Et [[0,0],[2,1]] [[0,0],[2,1]])) from awF (hsM.up hs) (aMi.up hs) (haM.imp fun _ _ h=>h.up hs) (.cons (aPm.up hs) (.cons (aPl.up hs) .nil)) (by decide) (by decide) (by decide) (by decide)))<|zD 3<|jn fun b99=>jp (vs:=[v41,.slice (some ⟨b99,0,none⟩) 1 1]) [1,0] (Y41++[(b99,.cells ⟨([0].map cz).flatten⟩ 3 (0,0))]) (fun aH hs hZ=>(show dD _ _ _ _ (.bool (Hz [0] [0])) from aiB (aNf.kQ hZ.left) (bC [0] hZ.right.head (by intro p hp;rfl)) (by decide) (by decide))) ?_
 refine zD 4<|Ub qC.a.a.a.a.a.a.a.a (.bool true) [3] [] (((((((bX.trans j5).trans rF).trans aCt).trans aCr).trans aCq).trans aCp).trans amJ) ⟨rfl,rfl⟩
end Go.L
