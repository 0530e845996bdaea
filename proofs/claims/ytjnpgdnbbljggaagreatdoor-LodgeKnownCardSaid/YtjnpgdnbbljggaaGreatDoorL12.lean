/- Part 12 of the proof. -/
import Derived.Test.YtjnpgdnbbljggaaGreatDoorL11
set_option maxRecDepth 100000
set_option maxHeartbeats 4000000
set_option linter.all false
namespace Go.L
open Go Go.Conc Go.Proofs
variable {ro:Nat→Option Obj} {Fs:Nat→List (Int×Value)} {l:List Value} {F:List (Int×Value)} {d np i r p Hb ck:Nat} {v u vS wS:Value} {zs ds xs:List Int} {D n:Int} {seen:List Nat}
set_option maxHeartbeats 1000000 in
theorem Xb {K:cm} (hK:du ro l K) (hC:JN K):dX zT 75 [.agg ⟨l⟩] ro [] (fun r Y=>∃(a0 a1 a2 a3 a4 a7:Option Addr) (n0 n1 n3 n4 n7 c0 c1 c2 c3 c4 c7:Nat) (LE Z:Cells),r= .agg ⟨[.slice a0 n0 c0,.slice a1 n1 c1,.slice a2 0 c2,.slice a3 n3 c3,.slice a4 n4 c4,zI K.days,zI K.stay,.slice a7 n7 c7]⟩∧aK (.slice a7 n7 c7) 7 43 nf K.ax LE∧(∀aR,Knows aR Z→bU aR (.slice a0 n0 c0) K.str∧lG aR (.slice a1 n1 c1) K.ways∧cD aR (.slice a3 n3 c3) 1 kT K.ar∧cD aR (.slice a4 n4 c4) 2 kB K.rules)∧Y=LE++Z):=by
 obtain⟨vS,vT,vP,vR,vE,fa,fc,rfl,hS,hT,hp,hr,he⟩:=hK
 obtain⟨p5,hs,iV⟩:=id hS
 obtain⟨mQ,ht,kz⟩:=id hT
 obtain⟨xp,qsb,qso,vi,rfl,qsk,Zd,Zc⟩:=hs
 obtain⟨iZ,I9,I7,gk,rfl,I8,xo,xm⟩:=ht
 obtain⟨dh,ou,oh,cY,rfl,qa,nD,nC⟩:=hp
 obtain⟨qra,qrb,qro,qrc,rfl,qrk,qrh,qrl⟩:=hr
 obtain⟨dS,uY,uW,dM,rfl,uX,rX,rW⟩:=he
 have qzl:∀(i:Nat) (p:iD),([]:List iD)[i]?=some p→da ⟨ro,[]⟩ 0 (0+i*6) 6 (rG p):=fun _ _ h=>wz h
 have OJ:=hC.rules.1
 have y6:=hC.ar.1
 have hl3:=hC.ax.1
 have hl4:=iV.len
 have hl5:=kz.len
 have hl6:=hC.qv.two
 have hl7:=hC.ways.one
 refine zE<|zD 2<|jn fun b1=>jn fun b2=>zD 2<|jct [1,1] [] (fun(zz:Value×Cells×Value×Cells×Value×Cells)=>[(1,zP b1),(2,zP b2)]) (fun zz=>[.b b1 (.cells ⟨[.slice xp p5.length vi,.slice iZ mQ.length gk,.slice fa 0 fc,zz.1,zz.2.2.1,zI K.days,zI K.stay,zz.2.2.2.2.1]⟩ 33 (0,0)),.l zz.2.1,.l zz.2.2.2.1,.l zz.2.2.2.2.2,.b b2 (.cells ⟨[zS,zS,zS,zS,zS,zI 0,zI 0,zS]⟩ 33 (0,0))]) (fun zz=>aK zz.1 1 9 kT K.ar zz.2.1∧aK zz.2.2.1 2 165 kB K.rules zz.2.2.2.1∧aK zz.2.2.2.2.1 7 43 nf K.ax zz.2.2.2.2.2) ?_ (fun K1 cz=>?_)
 ·
  rintro⟨wP,LP,wR,LR,wE,LE⟩ hM rest
  dsimp only at hM
  refine zD 1 ?_
  obtain⟨va1,vc1,he1⟩:=hM.1.form
  subst he1
  obtain⟨va2,vc2,SN⟩:=hM.2.1.form
  subst SN
  obtain⟨va3,vc3,he3⟩:=hM.2.2.form
  subst he3
  refine jd 4 [0]<|jc (vs:=[.slice fa 0 fc]) [] (aqa (show cD _ _ _ _ _ from ⟨fa,0,0,fc,rfl,(Nat.zero_le _),(fun _ h=>absurd h (Nat.not_lt_zero _)),qzl⟩) (by simp)) ?_
  rintro v23 L23 aN8
  obtain⟨abW,abP,af7⟩:=aN8.form
  subst af7
  refine zD 1<|jn fun b3=>jd 13 [0,2]<|BD<|BD<|fX [1,1,1,0,1,0,0] [] (fun(zz:Nat×Value×Cells×(List Value)×Cells)=>[(1,zP b1),(2,zP b2),(3,zP b3),(28,.slice xp p5.length vi),(29,zI (p5.length:Int)),(30,zI (zz.1:Int))]) (fun zz=>[.b b3 (.cells ⟨[zz.2.1,zS,(.slice abW (([]:List iD)).length abP)]⟩ 28 (0,0)),.l zz.2.2.1,.l zz.2.2.2.2,.l L23,.b b1 (.cells ⟨[.slice xp p5.length vi,.slice iZ mQ.length gk,.slice fa 0 fc,(.slice va1 (K.ar).length vc1),(.slice va2 (K.rules).length vc2),zI K.days,zI K.stay,(.slice va3 (K.ax).length vc3)]⟩ 33 (0,0)),.l LP,.l LR,.l LE,.b b2 (.cells ⟨[zS,zS,zS,zS,zS,zI 0,zI 0,zS]⟩ 33 (0,0))]) (fun zz=>(zz.1≤p5.length∧zz.2.2.2.1.length=zz.1)∧aK zz.2.1 1 90 w6 zz.2.2.2.1 zz.2.2.1∧∀aR,Knows aR zz.2.2.2.2→iF (fun w l=>cD aR w 2 ez l) zz.2.2.2.1 (K.str.take zz.1)) (fun zz=>p5.length-zz.1) (⟨0,zS,[],[],[]⟩) ⟨⟨Nat.zero_le _,rfl⟩,aK.nil _ _ _,fun _ _=> .nil⟩ [2,1,0,3,4,5,6,7,8] ?_
  rintro⟨i,vO,LO,es,Z⟩ hI K2 oy rest
  dsimp only at hI
  refine zD 5<|zJ 31 ((i:Int) <(p5.length:Int)) (fun h4=>?_) fun h4=>?_
  ·
   refine zD 6 ?_
   obtain⟨E0,as1⟩:=zG p5 i
   refine jq vi 1 Zd as1 ?_
   obtain⟨l33,aCL,h33⟩:=iV.get as1
   obtain aZ8:=hC.qv.len _ (zL aCL)
   obtain⟨ay2,aLg,aLc,ay1,rfl,aLe,aLf,aLd⟩:=h33
   refine jl 0 (Zc _ _ as1)<|jd 7 [0]<|dV 4 fun Bc Bm AN=>jc (vs:=[.slice ay2 l33.length ay1]) [] (aEd (show cD _ _ _ _ _ from ⟨ay2,aLg,aLc,ay1,rfl,aLe,aLf,aLd⟩) (by first|omega| (simp only[List.length_set,zM];omega))) ?_
   rintro v38 L38 aCl
   obtain⟨abV,abO,aPf⟩:=aCl.form
   subst aPf
   refine iv AN (zN 1 9)<|dV 5 fun Cq Cy AM=>jn fun b39=>iv AM (zN 1 10)<|dV 6 fun Yx YJ hL5=>wD (sz:=1) (ps:=es) (qs:=[((.slice abV (l33).length abO):Value)]) (enc:=w6) (w:= .slice (some ⟨b39,0,none⟩) 1 1) [3] [0] [(b39,.cells ⟨([((.slice abV (l33).length abO):Value)].map w6).flatten⟩ 90 (0,0))] (hI.2.1) (fun s _ hZ=>gG [((.slice abV (l33).length abO):Value)] (hZ _ (.head _)) (by intro p hp;rfl)) (by intro p hp;rw[List.mem_singleton] at hp;subst hp;exact aP rfl) (by simp<;>omega) (fun v40 L40 xH=>?_)
   obtain⟨abU,abN,af6⟩:=xH.form
   subst af6
   refine wC hL5 []<|zD 2<|dV 9 fun aIE aJK hL6=>jd 1 [3]<|wC hL6 []<|zD 2<|zW ((i:Int)+1)<|zD 2<|zV oy (⟨i+1,(.slice abU ((es++[((.slice abV (l33).length abO):Value)])).length abN),L40,(es++[((.slice abV (l33).length abO):Value)]),L38++Z⟩) ⟨⟨by dsimp only;omega,by simp only[zM];omega⟩,xH,fun aR hk=>yQ (hI.2.2 aR hk.right) aCL (aCl.n9 hk.left)⟩ [[3],[0],[2,4],[5],[6],[7],[8],[9],[10]]
  refine jd 12 [4]<|BD<|BD<|fX [1,1,1,1,0,1,0,0] [] (fun(zz:Nat×Value×Cells×(List Value)×Cells)=>[(1,zP b1),(2,zP b2),(3,zP b3),(46,.slice iZ mQ.length gk),(47,zI (mQ.length:Int)),(48,zI (zz.1:Int))]) (fun zz=>[.b b3 (.cells ⟨[vO,zz.2.1,(.slice abW (([]:List iD)).length abP)]⟩ 28 (0,0)),.l zz.2.2.1,.l zz.2.2.2.2,.l LO,.l Z,.l L23,.b b1 (.cells ⟨[.slice xp p5.length vi,.slice iZ mQ.length gk,.slice fa 0 fc,(.slice va1 (K.ar).length vc1),(.slice va2 (K.rules).length vc2),zI K.days,zI K.stay,(.slice va3 (K.ax).length vc3)]⟩ 33 (0,0)),.l LP,.l LR,.l LE,.b b2 (.cells ⟨[zS,zS,zS,zS,zS,zI 0,zI 0,zS]⟩ 33 (0,0))]) (fun zz=>(zz.1≤mQ.length∧zz.2.2.2.1.length=zz.1)∧aK zz.2.1 1 82 w6 zz.2.2.2.1 zz.2.2.1∧∀aR,Knows aR zz.2.2.2.2→iF (fun w l=>cD aR w 7 nU l) zz.2.2.2.1 (K.ways.take zz.1)) (fun zz=>mQ.length-zz.1) (⟨0,zS,[],[],[]⟩) ⟨⟨Nat.zero_le _,rfl⟩,aK.nil _ _ _,fun _ _=> .nil⟩ [2,1,0,3,4,5,6,7,8,9,10] ?_
  rintro⟨j,vT,LT,qs,Z2⟩ hG K7 hK7 rest
  dsimp only at hG
  refine zD 5<|zJ 49 ((j:Int) <(mQ.length:Int)) (fun h9=>?_) fun h9=>?_
  ·
   refine zD 6 ?_
   obtain⟨x50,UD⟩:=zG mQ j
   refine jq gk 1 xo UD ?_
   obtain⟨l51,aCH,h51⟩:=kz.get UD
   obtain aZ5:=(hC.ways.ok _ (zL aCH)).1.2
   obtain⟨ayT,aKV,aKR,ayS,rfl,aKT,aKU,aKS⟩:=h51
   refine jl 0 (xm _ _ UD)<|jn fun b7=>jd 7 [0,1,0]<|dV 4 fun ai1 ajn hL8=>jc (vs:=[.slice ayT l51.length ayS]) [] (aqc (show cD _ _ _ _ _ from ⟨ayT,aKV,aKR,ayS,rfl,aKT,aKU,aKS⟩) (by omega)) ?_
   rintro v56 L56 aCh
   obtain⟨abT,abM,aPa⟩:=aCh.form
   subst aPa
   refine iv hL8 (zN 1 12)<|zD 1<|dV 6 fun axm aya hL9=>jn fun b58=>iv hL9 (zN 1 13)<|dV 7 fun axo ayc U7=>wD (sz:=1) (ps:=qs) (qs:=[((.slice abT (l51).length abM):Value)]) (enc:=w6) (w:= .slice (some ⟨b58,0,none⟩) 1 1) [4] [0] [(b58,.cells ⟨([((.slice abT (l51).length abM):Value)].map w6).flatten⟩ 82 (0,0))] (hG.2.1) (fun s _ hZ=>gG [((.slice abT (l51).length abM):Value)] (hZ _ (.head _)) (by intro p hp;rfl)) (by intro p hp;rw[List.mem_singleton] at hp;subst hp;exact aP rfl) (by simp<;>omega) (fun v59 L59 afs=>?_)
   obtain⟨aJn,aI3,aO8⟩:=afs.form
   subst aO8
   refine wC U7 []<|zD 1<|dV 9 fun ans anI agt=>jd 1 [4]<|IJ agt<|zD 2<|zW ((j:Int)+1)<|zD 2<|zV hK7 (⟨j+1,(.slice aJn ((qs++[((.slice abT (l51).length abM):Value)])).length aI3),L59,(qs++[((.slice abT (l51).length abM):Value)]),L56++Z2⟩) ⟨⟨by dsimp only;omega,by simp only[zM];omega⟩,afs,fun aR hk=>yQ (hG.2.2 aR hk.right) aCH (aCh.n9 hk.left)⟩ [[4],[0],[2,5],[6],[7],[8],[9],[10],[11],[12],[13]]
  refine jd 6 [0] ?_
  obtain⟨S2,O1,BK⟩:=hI.2.1.form
  subst BK
  obtain⟨aJA,aJg,U0⟩:=hG.2.1.form
  subst U0
  refine jd 8 [6,6,10]<|zR (.agg ⟨[(.slice S2 (es).length O1),(.slice aJA (qs).length aJg),(.slice abW (([]:List iD)).length abP),(.slice va1 (K.ar).length vc1),(.slice va2 (K.rules).length vc2),zI K.days,zI K.stay,(.slice va3 (K.ax).length vc3)]⟩) [10] [9,7,8,3,4,1,2] (LE++(LP++(LR++(LO++(Z++(LT++Z2)))))) ⟨_,_,_,_,_,_,_,_,_,_,_,_,_,_,_,_,_,LE,_,rfl,hM.2.2,fun aR hk=>⟨⟨_,hI.2.1.n9 hk.right.right.left,by have:=hI.2.2 aR hk.right.right.right.left;rwa[List.take_of_length_le (by omega)] at this⟩,⟨_,hG.2.1.n9 hk.right.right.right.right.left,by have:=hG.2.2 aR hk.right.right.right.right.right;rwa[List.take_of_length_le (by omega)] at this⟩,hM.1.n9 hk.left,hM.2.1.n9 hk.right.left⟩,rfl⟩
 refine jd 7 [1,1,1]<|dV 2 fun anr anH U6=>jc (vs:=[.slice dh K.ar.length cY]) [] (ap9 (show cD _ _ _ _ _ from ⟨dh,ou,oh,cY,rfl,qa,nD,nC⟩) (by omega)) ?_
 rintro v10 L10 Z0
 obtain⟨aJD,aJj,aPm⟩:=Z0.form
 subst aPm
 refine iv U6 [1,2]<|zD 1<|dV 5 fun anq anG ags=>jc (vs:=[.slice qra K.rules.length qrc]) [] (ai2 (show cD _ _ _ _ _ from ⟨qra,qrb,qro,qrc,rfl,qrk,qrh,qrl⟩) (by omega)) ?_
 rintro v13 L13 ZZ
 obtain⟨aJB,aJh,aPk⟩:=ZZ.form
 subst aPk
 refine iv ags [1,2,3]<|dV 8 fun anp anF agq=>jc (vs:=[.slice dS K.ax.length dM]) [] (aqb (show cD _ _ _ _ _ from ⟨dS,uY,uW,dM,rfl,uX,rX,rW⟩) (by omega)) ?_
 rintro v16 L16 alS
 obtain⟨aqF,aqA,af9⟩:=alS.form
 subst af9
 refine iv agq (zN 1 4)<|dV 10 fun axn ayb agp=>jd 1 [4]<|IJ agp<|zD 1<|dV 12 fun ano anE ago=>jd 1 [4]<|IJ ago<|zD 1<|dV 14 fun ann anD U5=>jd 1 [4]<|IJ U5<|zD 1<|eW cz ⟨(.slice aJD (K.ar).length aJj),L10,(.slice aJB (K.rules).length aJh),L13,(.slice aqF (K.ax).length aqA),L16⟩ ⟨Z0,ZZ,alS⟩ Nat.zero_lt_one [4,2,1,0,3] (Sub.refl _)
set_option maxHeartbeats 1000000 in
theorem asj {K:cm} (hK:du ro l K) (hC:JN K) (hE:mG K≠0):dX zT 43 [.agg ⟨l⟩] ro [] (fun r Y=>r= .tuple ⟨[.pointer none,zS,zI (mG K)]⟩∧Y=[]):=by
 obtain⟨vS,vT,vP,vR,vE,fa,fc,rfl,hS,hT,hp,hr,he⟩:=hK
 have y3:=hp
 have Hx:=he
 have p6:=hr
 obtain⟨dh,ou,oh,cY,rfl,qa,nD,nC⟩:=hp
 obtain⟨dS,uY,uW,dM,rfl,uX,rX,rW⟩:=he
 have qzl:∀(i:Nat) (p:iD),([]:List iD)[i]?=some p→da ⟨ro,[]⟩ 0 (0+i*6) 6 (rG p):=fun _ _ h=>wz h
 obtain⟨p5,A4,iV⟩:=id hS
 have IK:=iV.len
 have Df:=hC.qv.two
 have AK:=qX (S:=K.str) hC.ways
 have hTp:=Gh (S:=K.str) hC.ways
 have hhl:=lA hC.qv
 have xb:=hC.ar.1
 have hel:=hC.ax.1
 refine zE<|zD 2<|jn fun b1=>jd 8 [0]<|jn fun Iq=>jd 6 [1]<|jc (vs:=[.agg ⟨[vS,vT,.slice fa 0 fc]⟩]) [] (XN hS hC.qv hT hC.ways) ?_
 rintro _ Lw ⟨wa,wn,wc,rfl,hwn,hWW⟩
 simp only[List.length_map] at hwn
 refine zD 21<|zJ 28 ((wn:Int)=0) (fun h1=>?_) fun h1=>?_
 ·
  exfalso;omega
 refine zD 9<|zJ 31 ((wn:Int)>4) (fun h2=>?_) fun h2=>?_
 ·
  exfalso;omega
 refine zD 6<|jp (vs:=[zP Iq]) [1] [(Iq,.cells ⟨[vS,vT,.slice fa 0 fc,.slice dh K.ar.length cY,vR,zI K.days,zI K.stay,.slice dS K.ax.length dM,zS,zS,zS]⟩ 105 (0,0))] (fun aV hs hZ=>W7 (W:=⟨vS,vT,.slice fa 0 fc,.slice dh K.ar.length cY,vR,.slice dS K.ax.length dM,zS,K.days,K.stay,none,0,0⟩) (u:= zS) hZ.head (y3.up hs) hC.ar.1 hC.ar.2)<|zD 7<|js 35 (!decide ((rY K.ar)=0)) (fun h3=>?_) (fun h3=>?_)
 ·
  replace h3:=of_decide_eq_false (by simpa using h3)
  refine zD 9<|zX (.tuple ⟨[.pointer none,zS,zI (rY K.ar)]⟩) ⟨by rw[mG,decide_eq_false (p:=rY K.ar=0) (by omega)];rfl,rfl⟩
 replace h3:=of_decide_eq_true (by simpa using h3)
 have oel:=ML (show rY K.ar=0 by omega)
 refine jd 8 [2]<|jc (vs:=[.agg ⟨[vS]⟩]) [] (W9 hS hC.qv) ?_
 rintro v41 L41 ZY
 obtain⟨O3,OZ,aug⟩:=ZY.form
 subst aug
 refine jd 14 [2,2]<|zJ 49 (((aG K.str).length:Int)=0) (fun h4=>?_) fun h4=>?_
 ·
  refine zD 8<|zX (.tuple ⟨[.pointer none,zS,zI 7]⟩) ⟨by rw[mG,decide_eq_true (p:=rY K.ar=0) (by omega),decide_eq_true (p:=((K.hs).length:Int)=0) (by simp only[cm.hs];omega)];rfl,rfl⟩
 refine jd 16 [2,2]<|ja ((K.ar.length:Int)*((aG K.str).length:Int)) (by have:=mulR (show K.ar.length≤3 by omega) hhl;omega) ?_
 refine zD 2<|zJ 62 (((K.ar.length:Int)*((aG K.str).length:Int))>6) (fun h5=>?_) fun h5=>?_
 ·
  refine zD 8<|zX (.tuple ⟨[.pointer none,zS,zI 6]⟩) ⟨by rw[mG,decide_eq_true (p:=rY K.ar=0) (by omega),decide_eq_false (p:=((K.hs).length:Int)=0) (by simp only[cm.hs];omega),decide_eq_true (p:=(K.ar.length:Int)*(K.hs.length:Int)>6) (by simp only[cm.hs];omega)];rfl,rfl⟩
 refine jd 7 [3]<|jp (vs:=[vR,.string (bs [97]),.string (bs [97])]) [] [] (fun aV hs hZ=>GV (p6.up hs) hC.rules.2 hC.rules.1 WR WR)<|jd 18 [3]<|jp (vs:=[zI K.days,zI 1,zI 4]) [] [] (fun aV hs hZ=>E9)<|zD 2<|jj 7 [(1,zP b1),(2,.pointer none),(3,zS),(4,zI 0),(5,zP Iq),(6,.slice wa wn wc),(83,.bool ((!(gY K.days 1 4))||(!(gY K.stay 1 K.days))))] (fun nK=>?_) (fun hj=>?_)
 rotate_left
 refine js 76 (!(gY K.days 1 4)) (fun h6=>?_) (fun h6=>?_)
 ·
  have BN:=h6
  try simp only[zB] at BN
  refine zD 7<|jw 83 (.bool ((!(gY K.days 1 4))||(!(gY K.stay 1 K.days)))) (w:= .bool true) (by rw[h6]<;>rfl) ?_
  exact zK hj
 ·
  have BN:=h6
  try simp only[zB] at BN
  refine jd 4 [3,3]<|jp (vs:=[zI K.stay,zI 1,zI K.days]) [] [] (fun aV hs hZ=>E9)<|zD 2<|jw 83 (.bool ((!(gY K.days 1 4))||(!(gY K.stay 1 K.days)))) (w:= .bool (!(gY K.stay 1 K.days))) (by rw[h6]<;>rfl) ?_
  exact zK hj
 refine zD 1<|js 83 ((!(gY K.days 1 4))||(!(gY K.stay 1 K.days))) (fun h7=>?_) (fun h7=>?_)
 ·
  refine zD 8<|zX (.tuple ⟨[.pointer none,zS,zI 1]⟩) ⟨by rw[mG,decide_eq_true (p:=rY K.ar=0) (by omega),decide_eq_false (p:=((K.hs).length:Int)=0) (by simp only[cm.hs];omega),decide_eq_false (p:=(K.ar.length:Int)*(K.hs.length:Int)>6) (by simp only[cm.hs];omega),(show (!gY K.days 1 4|| !gY K.stay 1 K.days)=true from by assumption)];rfl,rfl⟩
 have hbt:(1≤K.days∧K.days≤4)∧1≤K.stay∧K.stay≤K.days:=by have h:=(show (!gY K.days 1 4|| !gY K.stay 1 K.days)=false from by assumption);simp[gY] at h;omega
 refine jd 10 [3]<|zJ 87 ((K.ax.length:Int)>5) (fun h8=>?_) fun h8=>?_
 ·
  refine zD 8<|zX (.tuple ⟨[.pointer none,zS,zI 6]⟩) ⟨by rw[mG,decide_eq_true (p:=rY K.ar=0) (by omega),decide_eq_false (p:=((K.hs).length:Int)=0) (by simp only[cm.hs];omega),decide_eq_false (p:=(K.ar.length:Int)*(K.hs.length:Int)>6) (by simp only[cm.hs];omega),(show (!gY K.days 1 4|| !gY K.stay 1 K.days)=false from by assumption),decide_eq_true (p:=(K.ax.length:Int)>5) (by omega)];rfl,rfl⟩
 refine jd 11 [3]<|fX [1,1,1,1,1,1,1,1,1,1,1,1,1,0,1,0,0] [] (fun(zz:Nat)=>[(5,zP Iq),(6,.slice wa wn wc),(89,.slice dS K.ax.length dM),(90,zI (K.ax.length:Int)),(91,zI (zz:Int))]) (fun zz=>[.l L41,.l Lw,.b Iq (.cells ⟨[vS,vT,.slice fa 0 fc,.slice dh K.ar.length cY,vR,zI K.days,zI K.stay,.slice dS K.ax.length dM,(.slice O3 (aG K.str).length OZ),zS,zS]⟩ 105 (0,0)),.b b1 (.cells ⟨[vS,vT,.slice fa 0 fc,.slice dh K.ar.length cY,vR,zI K.days,zI K.stay,.slice dS K.ax.length dM]⟩ 33 (0,0))]) (fun zz=>zz≤K.ax.length∧AU K.dZ K.ax=AU K.dZ (K.ax.drop zz)) (fun zz=>K.ax.length-zz) 0 ⟨Nat.zero_le _,rfl⟩ (zN 0 4) ?_
 rintro k hI K1 cz rest
 refine zD 5<|zJ 92 ((k:Int) <(K.ax.length:Int)) (fun h9=>?_) fun h9=>?_
 ·
  refine zD 6 ?_
  obtain⟨JO,Hc⟩:=zG K.ax k
  refine jq dM 7 rX Hc<|jl 0 (rW _ _ Hc)<|jn fun wK=>jd 6 [0,0]<|jp (vs:=[zP Iq,.agg ⟨[.string JO.name,zI JO.st,zI JO.no,zI JO.lt,.bool JO.late,zI JO.low,zI JO.high]⟩]) [3,1] ((Iq,.cells ⟨[vS,vT,.slice fa 0 fc,.slice dh K.ar.length cY,vR,zI K.days,zI K.stay,.slice dS K.ax.length dM,(.slice O3 (aG K.str).length OZ),zS,zS]⟩ 105 (0,0))::L41) (fun aV hs hZ=>(show eR _ _ _ _ (zI (K.dZ JO)) from by rw[cm.dZ,←IK];exact Na (W:=⟨vS,vT,.slice fa 0 fc,.slice dh K.ar.length cY,vR,.slice dS K.ax.length dM,zS,K.days,K.stay,O3,(aG K.str).length,OZ⟩) (u:= zS) (ws:=p5) (hs:=(aG K.str)) hZ.head (A4.up hs) (ZY.n9 hZ.tail) (by omega) (by omega) (show 1≤K.days∧K.days≤4 by omega) (hC.ax.2 _ (zL Hc)))) ?_
  refine zD 7<|js 99 (!decide ((K.dZ JO)=0)) (fun A7=>?_) (fun A7=>?_)
  ·
   replace A7:=of_decide_eq_false (by simpa using A7)
   refine zD 9<|zX (.tuple ⟨[.pointer none,zS,zI (K.dZ JO)]⟩) ⟨by rw[mG,decide_eq_true (p:=rY K.ar=0) (by omega),decide_eq_false (p:=((K.hs).length:Int)=0) (by simp only[cm.hs];omega),decide_eq_false (p:=(K.ar.length:Int)*(K.hs.length:Int)>6) (by simp only[cm.hs];omega),(show (!gY K.days 1 4|| !gY K.stay 1 K.days)=false from by assumption),decide_eq_false (p:=(K.ax.length:Int)>5) (by omega),hI.2,XV Hc (by omega)];rfl,rfl⟩
  replace A7:=of_decide_eq_true (by simpa using A7)
  refine zD 3<|zW ((k:Int)+1)<|zD 2<|zY cz (k+1) ⟨by omega,by rw[hI.2,XW Hc (by omega)]⟩ [1,2,3,4]
 refine zD 11<|absurd (by rw[mG,decide_eq_true (p:=rY K.ar=0) (by omega),decide_eq_false (p:=((K.hs).length:Int)=0) (by simp only[cm.hs];omega),decide_eq_false (p:=(K.ar.length:Int)*(K.hs.length:Int)>6) (by simp only[cm.hs];omega),(show (!gY K.days 1 4|| !gY K.stay 1 K.days)=false from by assumption),decide_eq_false (p:=(K.ax.length:Int)>5) (by omega),hI.2,List.drop_eq_nil_of_le (by omega)];rfl) hE
theorem ak4{K:cm}(hK:du ro l K)(hV:kV K):dX zT 11 [.agg ⟨l⟩] ro [] (fun r Y=>r= zI 0∧Y=[]):=by
 have cz:=hK
 obtain⟨vS,vT,vP,vR,vE,fa,fc,rfl,hS,hT,hp,hr,he⟩:=hK
 have y3:=hp
 have Hx:=he
 have p6:=hr
 obtain⟨dh,ou,oh,cY,rfl,qa,nD,nC⟩:=hp
 obtain⟨dS,uY,uW,dM,rfl,uX,rX,rW⟩:=he
 refine zE<|zD 2<|jn fun b1=>jd 5 [0]<|jc (vs:=[.agg ⟨[vS,vT,.slice fa 0 fc,.slice dh K.ar.length cY,vR,zI K.days,zI K.stay,.slice dS K.ax.length dM]⟩]) [] (aop cz hV.c hV.e) ?_
 rintro _ Yo ⟨Hb,ha,hc,LH,wa,wn,wc,Lw,rfl,_⟩
 refine zD 14<|zX (zI 0) ⟨rfl,rfl⟩
theorem ak5{K:cm}(hK:du ro l K)(hC:JN K)(hE:mG K≠0):dX zT 11 [.agg ⟨l⟩] ro [] (fun r Y=>r= zI (mG K)∧Y=[]):=by
 have cz:=hK
 obtain⟨vS,vT,vP,vR,vE,fa,fc,rfl,hS,hT,hp,hr,he⟩:=hK
 have y3:=hp
 have Hx:=he
 have p6:=hr
 obtain⟨dh,ou,oh,cY,rfl,qa,nD,nC⟩:=hp
 obtain⟨dS,uY,uW,dM,rfl,uX,rX,rW⟩:=he
 refine zE<|zD 2<|jn fun b1=>jd 5 [0]<|jc (vs:=[.agg ⟨[vS,vT,.slice fa 0 fc,.slice dh K.ar.length cY,vR,zI K.days,zI K.stay,.slice dS K.ax.length dM]⟩]) [] (asj cz hC hE) ?_
 rintro _ _ ⟨rfl,rfl⟩
 refine jg 0 []<|zD 14<|zX (zI (mG K)) ⟨rfl,rfl⟩
def cm.add(K:cm)(x:bH):cm:={K with ax:=K.ax++[x]}
theorem qK.str{K:cm}{W:fy}{ls:List aO}{ps:List bY}(h:qK ro Hb K W u ls ps):∃ws,cD ro W.a0 1 w6 ws∧ws.length=K.str.length:=by
 obtain⟨vS,vT,vP,vR,vE,fa,fc,he,⟨ws,h1,h2⟩,_⟩:=h.l
 simp only[List.cons.injEq] at he
 exact⟨ws,by rw[he.1];exact h1,h2.len⟩
theorem qK.ent{K:cm}{W:fy}{ls:List aO}{ps:List bY}{x:bH}(h:qK ro Hb K W u ls ps)(hV:kV K)(hx:gB x.name):eR zT 74 [zP Hb,.agg ⟨nf x⟩] ro (zI (K.dZ x)):=by
 obtain⟨ws,h1,h2⟩:=h.str
 have h3:=hV.h3
 have h4:=hV.c.qv.two
 have:=Na (x:=x) h.r.h h1 h.hh (by omega) (by omega) h.r.d hx
 rw[h2,h.d] at this
 exact this
theorem aAO{K:cm}{x:bH}(hK:du ro l K)(hV:kV K)(hV2:kV (K.add x))(hx:gB x.name)(sD:K.dZ x=0)(hle:K.ax.length <5)(hT1:(iy K (allM K.ax.length)).isEmpty=false)(XJ:(iy (K.add x) (allM (K.add x).ax.length)).isEmpty=false):aa9 zT 23 [.agg ⟨l⟩,.agg ⟨nf x⟩] ro [] (fun r aV Y=>∃l2,r= .tuple ⟨[.agg ⟨l2⟩,zI 0]⟩∧du aV l2 (K.add x)∧Y=[]):=by
 have cz:=hK
 obtain⟨vS,vT,vP,vR,vE,fa,fc,rfl,hS,hT,hp,hr,he⟩:=hK
 have y3:=hp
 have Hx:=he
 have p6:=hr
 obtain⟨dh,ou,oh,cY,rfl,qa,nD,nC⟩:=hp
 obtain⟨dS,uY,uW,dM,rfl,uX,rX,rW⟩:=he
 have Xs:=hV.SE
 have Ew:=hV.days
 have qy:=hV.ax
 refine aeZ (hm:=aE) [] [] bJ fun fr=>zD 2<|jn fun b2=>jn fun b3=>jn fun b4=>jd 5 [2]<|tD (vs:=[.agg ⟨[vS,vT,.slice fa 0 fc,.slice dh K.ar.length cY,vR,zI K.days,zI K.stay,.slice dS K.ax.length dM]⟩]) [] (fun _ _ h=>h) (tC cz hV) ?_
 rintro _ aV _ cR ⟨Hb,W,u,ls,ps,rfl,kS,rfl⟩
 have wH:=kS.Ab (allM K.ax.length)
 have AK:=wH.length_eq
 refine jg 0 []<|jd 19 [1]<|jp (vs:=[zP Hb,.agg ⟨[.string x.name,zI x.st,zI x.no,zI x.lt,.bool x.late,zI x.low,zI x.high]⟩]) [] [] (fun aV hs hZ=>(kS.up hs).ent hV hx)<|zD 7<|js 25 (!decide ((K.dZ x)=0)) (fun h2=>?_) (fun h2=>?_)
 ·
  replace h2:=of_decide_eq_false (by simpa using h2)
  exfalso;omega
 replace h2:=of_decide_eq_true (by simpa using h2)
 refine jd 10 [2]<|zJ 31 ((K.ax.length:Int)≥5) (fun h3=>?_) fun h3=>?_
 ·
  exfalso;omega
 refine jd 5 [2]<|jc (vs:=[.agg ⟨[vS,vT,.slice fa 0 fc,.slice dh K.ar.length cY,vR,zI K.days,zI K.stay,.slice dS K.ax.length dM]⟩]) [] (Xb (cz.up cR) hV.c) ?_
 rintro _ _ ⟨a0,a1,a2,a3,a4,a7,n0,n1,n3,n4,n7,c0,c1,c2,c3,c4,c7,LE,Z9,rfl,hoE,hcp,rfl⟩
 have hn7:=hoE.form
 obtain⟨qa7,qc7,hq7⟩:=hn7
 simp only[Value.slice.injEq] at hq7
 obtain⟨_,rfl,_⟩:=hq7
 refine jg 0 [.l LE,.l Z9]<|jn fun b9=>jd 7 [0,0,4]<|jn fun b38=>wD (sz:=7) (ps:=K.ax) (qs:=[(⟨x.name,x.st,x.no,x.lt,x.late,x.low,x.high⟩:bH)]) (enc:=nf) (w:= .slice (some ⟨b38,0,none⟩) 1 1) [2] [0] [(b38,.cells ⟨([(⟨x.name,x.st,x.no,x.lt,x.late,x.low,x.high⟩:bH)].map nf).flatten⟩ 43 (0,0))] (hoE) (fun s _ hZ=>gG [(⟨x.name,x.st,x.no,x.lt,x.late,x.low,x.high⟩:bH)] (hZ _ (.head _)) (by intro p hp;rfl)) (fun p _=>aP rfl) (by simp only[List.length_cons,List.length_nil];omega) (fun v39 L39 Hm=>?_)
 obtain⟨O4,O0,Nq⟩:=Hm.form
 subst Nq
 refine jd 2 [2]<|jf [0,3] (L39++Z9) (fun ro6 nz Ck=>?_)
 have hKa:du ro6 [.slice a0 n0 c0,.slice a1 n1 c1,.slice a2 0 c2,.slice a3 n3 c3,.slice a4 n4 c4,zI K.days,zI K.stay,(.slice O4 (K.ax++[(⟨x.name,x.st,x.no,x.lt,x.late,x.low,x.high⟩:bH)]).length O0)] (K.add x):=⟨_,_,_,_,_,_,_,rfl,(hcp _ (Knows.right Ck)).1,(hcp _ (Knows.right Ck)).2.1,(hcp _ (Knows.right Ck)).2.2.1,(hcp _ (Knows.right Ck)).2.2.2,Hm.n9 (Knows.left Ck)⟩
 refine jd 5 [1]<|tD (vs:=[.agg ⟨[(.slice a0 n0 c0),(.slice a1 n1 c1),(.slice a2 0 c2),(.slice a3 n3 c3),(.slice a4 n4 c4),zI K.days,zI K.stay,(.slice O4 ((K.ax++[(⟨x.name,x.st,x.no,x.lt,x.late,x.low,x.high⟩:bH)])).length O0)]⟩]) [] (fun _ _ h=>h) (tC hKa hV2) ?_
 rintro _ ro7 _ Ci ⟨Hb2,W2,u2,ls2,ps2,rfl,U9,rfl⟩
 refine jg 0 []<|zD 10<|jp (vs:=[zP Hb]) [] [] (fun aV hs hZ=>zl ((kS.r.up (nz.trans Ci)).up hs))<|jc (vs:=[zP Hb,.int .u8 (allM K.ax.length)]) [] (Es (need:=(allM K.ax.length)) (kS.r.up (nz.trans Ci))) ?_
 rintro _ _ ⟨rfl,rfl⟩
 rw[kS.emp (allM K.ax.length),hT1]
 refine jg 0 []<|zD 3<|jp (vs:=[zP Hb2]) [] [] (fun aV hs hZ=>zl ((U9.r.up (Sub.refl _)).up hs))<|jc (vs:=[zP Hb2,.int .u8 (allM (K.add x).ax.length)]) [] (Es (need:=(allM (K.add x).ax.length)) (U9.r.up (Sub.refl _))) ?_
 rintro _ _ ⟨rfl,rfl⟩
 rw[U9.emp (allM (K.add x).ax.length),XJ]
 refine jg 0 []<|jd 12 [1,2]<|aBj qC.a.a.a (.tuple ⟨[.agg ⟨[(.slice a0 n0 c0),(.slice a1 n1 c1),(.slice a2 0 c2),(.slice a3 n3 c3),(.slice a4 n4 c4),zI K.days,zI K.stay,(.slice O4 ((K.ax++[(⟨x.name,x.st,x.no,x.lt,x.late,x.low,x.high⟩:bH)])).length O0)]⟩,zI 0]⟩) [2] [5] [] ((cR.trans nz).trans Ci) ⟨_,rfl,hKa.up Ci,rfl⟩
theorem aAP{K:cm}{x:bH}(hK:du ro l K)(hV:kV K)(hV2:kV (K.add x))(hx:gB x.name)(sD:K.dZ x=0)(hle:K.ax.length <5)(hT1:(iy K (allM K.ax.length)).isEmpty=false)(XJ:(iy (K.add x) (allM (K.add x).ax.length)).isEmpty=true):EY zT 23 [.agg ⟨l⟩,.agg ⟨nf x⟩] ro [] (fun r Y=>r= .tuple ⟨[.agg ⟨[zS,zS,zS,zS,zS,zI 0,zI 0,zS]⟩,zI 9]⟩∧Y=[]):=by
 have cz:=hK
 obtain⟨vS,vT,vP,vR,vE,fa,fc,rfl,hS,hT,hp,hr,he⟩:=hK
 have y3:=hp
 have Hx:=he
 have p6:=hr
 obtain⟨dh,ou,oh,cY,rfl,qa,nD,nC⟩:=hp
 obtain⟨dS,uY,uW,dM,rfl,uX,rX,rW⟩:=he
 have Xs:=hV.SE
 have Ew:=hV.days
 have qy:=hV.ax
 refine BC aE [] [] bJ fun fr=>zD 2<|jn fun b2=>jn fun b3=>jn fun b4=>jd 5 [2]<|tD (vs:=[.agg ⟨[vS,vT,.slice fa 0 fc,.slice dh K.ar.length cY,vR,zI K.days,zI K.stay,.slice dS K.ax.length dM]⟩]) [] (fun _ _ h=>h) (tC cz hV) ?_
 rintro _ aV _ cR ⟨Hb,W,u,ls,ps,rfl,kS,rfl⟩
 have wH:=kS.Ab (allM K.ax.length)
 have AK:=wH.length_eq
 refine jg 0 []<|jd 19 [1]<|jp (vs:=[zP Hb,.agg ⟨[.string x.name,zI x.st,zI x.no,zI x.lt,.bool x.late,zI x.low,zI x.high]⟩]) [] [] (fun aV hs hZ=>(kS.up hs).ent hV hx)<|zD 7<|js 25 (!decide ((K.dZ x)=0)) (fun h2=>?_) (fun h2=>?_)
 ·
  replace h2:=of_decide_eq_false (by simpa using h2)
  exfalso;omega
 replace h2:=of_decide_eq_true (by simpa using h2)
 refine jd 10 [2]<|zJ 31 ((K.ax.length:Int)≥5) (fun h3=>?_) fun h3=>?_
 ·
  exfalso;omega
 refine jd 5 [2]<|jc (vs:=[.agg ⟨[vS,vT,.slice fa 0 fc,.slice dh K.ar.length cY,vR,zI K.days,zI K.stay,.slice dS K.ax.length dM]⟩]) [] (Xb (cz.up cR) hV.c) ?_
 rintro _ _ ⟨a0,a1,a2,a3,a4,a7,n0,n1,n3,n4,n7,c0,c1,c2,c3,c4,c7,LE,Z9,rfl,hoE,hcp,rfl⟩
 have hn7:=hoE.form
 obtain⟨qa7,qc7,hq7⟩:=hn7
 simp only[Value.slice.injEq] at hq7
 obtain⟨_,rfl,_⟩:=hq7
 refine jg 0 [.l LE,.l Z9]<|jn fun b9=>jd 7 [0,0,4]<|jn fun b38=>wD (sz:=7) (ps:=K.ax) (qs:=[(⟨x.name,x.st,x.no,x.lt,x.late,x.low,x.high⟩:bH)]) (enc:=nf) (w:= .slice (some ⟨b38,0,none⟩) 1 1) [2] [0] [(b38,.cells ⟨([(⟨x.name,x.st,x.no,x.lt,x.late,x.low,x.high⟩:bH)].map nf).flatten⟩ 43 (0,0))] (hoE) (fun s _ hZ=>gG [(⟨x.name,x.st,x.no,x.lt,x.late,x.low,x.high⟩:bH)] (hZ _ (.head _)) (by intro p hp;rfl)) (fun p _=>aP rfl) (by simp only[List.length_cons,List.length_nil];omega) (fun v39 L39 Hm=>?_)
 obtain⟨O4,O0,Nq⟩:=Hm.form
 subst Nq
 refine jd 2 [2]<|jf [0,3] (L39++Z9) (fun ro6 nz Ck=>?_)
 have hKa:du ro6 [.slice a0 n0 c0,.slice a1 n1 c1,.slice a2 0 c2,.slice a3 n3 c3,.slice a4 n4 c4,zI K.days,zI K.stay,(.slice O4 (K.ax++[(⟨x.name,x.st,x.no,x.lt,x.late,x.low,x.high⟩:bH)]).length O0)] (K.add x):=⟨_,_,_,_,_,_,_,rfl,(hcp _ (Knows.right Ck)).1,(hcp _ (Knows.right Ck)).2.1,(hcp _ (Knows.right Ck)).2.2.1,(hcp _ (Knows.right Ck)).2.2.2,Hm.n9 (Knows.left Ck)⟩
 refine jd 5 [1]<|tD (vs:=[.agg ⟨[(.slice a0 n0 c0),(.slice a1 n1 c1),(.slice a2 0 c2),(.slice a3 n3 c3),(.slice a4 n4 c4),zI K.days,zI K.stay,(.slice O4 ((K.ax++[(⟨x.name,x.st,x.no,x.lt,x.late,x.low,x.high⟩:bH)])).length O0)]⟩]) [] (fun _ _ h=>h) (tC hKa hV2) ?_
 rintro _ ro7 _ Ci ⟨Hb2,W2,u2,ls2,ps2,rfl,U9,rfl⟩
 refine jg 0 []<|zD 10<|jp (vs:=[zP Hb]) [] [] (fun aV hs hZ=>zl ((kS.r.up (nz.trans Ci)).up hs))<|jc (vs:=[zP Hb,.int .u8 (allM K.ax.length)]) [] (Es (need:=(allM K.ax.length)) (kS.r.up (nz.trans Ci))) ?_
 rintro _ _ ⟨rfl,rfl⟩
 rw[kS.emp (allM K.ax.length),hT1]
 refine jg 0 []<|zD 3<|jp (vs:=[zP Hb2]) [] [] (fun aV hs hZ=>zl ((U9.r.up (Sub.refl _)).up hs))<|jc (vs:=[zP Hb2,.int .u8 (allM (K.add x).ax.length)]) [] (Es (need:=(allM (K.add x).ax.length)) (U9.r.up (Sub.refl _))) ?_
 rintro _ _ ⟨rfl,rfl⟩
 rw[U9.emp (allM (K.add x).ax.length),XJ]
 refine jg 0 []<|jd 11 [2]<|asK qC.a.a.a (.tuple ⟨[.agg ⟨[zS,zS,zS,zS,zS,zI 0,zI 0,zS]⟩,zI 9]⟩) [2] [5] [] ((cR.trans nz).trans Ci) ⟨rfl,rfl⟩
def eMs(m:Nat→Option Nat):List Value:=[.map (m 0),.map (m 1),.map (m 2),.map (m 3),.map (m 4),.map (m 5),.map (m 6),.map (m 7),.map (m 8),.map (m 9),.map (m 10),.map (m 11)]
def vk(m:Nat→Option Nat)(k r:Nat)(j:Nat):Option Nat:=bif Nat.beq j k then some r else m j
theorem Zi{m:Nat→Option Nat}{k:Nat}:vk m k r k=some r:=by simp[vk]
theorem aj7{m:Nat→Option Nat}{k j:Nat}(h:j≠k):vk m k r j=m j:=by
 have:Nat.beq j k=false:=by cases hb:Nat.beq j k with
  |false=>rfl
  |true=>exact absurd (Nat.eq_of_beq_eq_true hb) h
 simp[vk,this]
theorem lt4{k:Nat}(h:k <4):k=0∨k=1∨k=2∨k=3:=by omega
theorem ar1{m:Nat→Option Nat}(hi:i <3)(hd:d <4):dI (eMs m) (0+(i:Int).toNat*4+(d:Int).toNat*1) [.map (some r)]=eMs (vk m (i*4+d) r):=by
 rcases Ue hi with rfl|rfl|rfl<;>rcases lt4 hd with rfl|rfl|rfl|rfl<;>rfl
theorem ar2{m:Nat→Option Nat}(hi:i <3)(hd:d <4):Nat.ble ((0+(i:Int).toNat*4+(d:Int).toNat*1)+1) (eMs m).length=true:=by
 rcases Ue hi with rfl|rfl|rfl<;>rcases lt4 hd with rfl|rfl|rfl|rfl<;>rfl
theorem aek{m:Nat→Option Nat}(hi:i <3)(hd:d <4)(h:m (i*4+d)=some r):nth (eMs m) (0+(i:Int).toNat*4+(d:Int).toNat*1)=some (.map (some r)):=by
 rw[←h]
 rcases Ue hi with rfl|rfl|rfl<;>rcases lt4 hd with rfl|rfl|rfl|rfl<;>rfl
def n5(m:Nat→Option Nat)(Fs:Nat→List (Int×Value)):Nat→Cells→Prop
 |0,L=>L=[]
 |n+1,L=>∃A B r,L=A++B∧n5 m Fs n A∧m n=some r∧fH r vB (Fs n) B
theorem n5.mono{m m':Nat→Option Nat}{Fs':Nat→List (Int×Value)}:∀ {n:Nat} {L:Cells},(∀j,j <n→m' j=m j∧Fs' j=Fs j)→n5 m Fs n L→n5 m' Fs' n L
 |0,_,_,h=>h
 |n+1,_,hj,⟨A,B,r,h1,h2,h3,h4⟩=>⟨A,B,r,h1,h2.mono fun j h=>hj j (by omega),by rw[(hj n (by omega)).1,h3],by rw[(hj n (by omega)).2];exact h4⟩
theorem n5.snoc{m:Nat→Option Nat}{n:Nat}{A B:Cells}(h:n5 m Fs n A)(hf:Fs n=[])(hB:fH r vB [] B):n5 (vk m n r) Fs (n+1) (A++B):=
 ⟨A,B,r,rfl,h.mono fun j hj=>⟨aj7 (by omega),rfl⟩,Zi,by rw[hf];exact hB⟩
def O7(Fs:Nat→List (Int×Value))(k:Nat)(F:List (Int×Value))(j:Nat):List (Int×Value):=if j=k then F else Fs j
theorem n5.cut{m:Nat→Option Nat}{k:Nat}:∀ {n:Nat} {L:Cells},n5 m Fs n L→k <n→∃A B C r,L=A++(B++C)∧m k=some r∧fH r vB (Fs k) B∧∀F' B',fH r vB F' B'→n5 m (O7 Fs k F') n (A++(B'++C))
 |0,_,_,h=>absurd h (Nat.not_lt_zero _)
 |n+1,L,⟨A,B,r,h1,h2,h3,h4⟩,hk=>by
  by_cases e:k=n
  ·subst e
   refine⟨A,B,[],r,by rw[h1];simp,h3,h4,fun F' B' hB=>?_⟩
   exact⟨A,B',r,by simp,h2.mono fun j hj=>⟨rfl,by simp only[O7];rw[if_neg (by omega)]⟩,h3,by simp only[O7,if_true];exact hB⟩
  obtain⟨A',B2,C,r',e1,e2,e3,e4⟩:=h2.cut (show k <n by omega)
  refine⟨A',B2,C++B,r',by rw[h1,e1];simp[List.append_assoc],e2,e3,fun F' B' hB=>?_⟩
  exact⟨A'++(B'++C),B,r,by simp[List.append_assoc],e4 F' B' hB,h3,by simp only[O7];rw[if_neg (by omega)];exact h4⟩
theorem n5.kn{m:Nat→Option Nat}:∀ {n:Nat} {L:Cells},n5 m Fs n L→Knows ro L→∀k,k <n→∃r es ck,m k=some r∧ro r=some (.map es ck)∧oW vB (Fs k) es ck
 |0,_,_,_,k,hk=>absurd hk (Nat.not_lt_zero _)
 |n+1,L,⟨A,B,r,h1,h2,h3,h4⟩,bR,k,hk=>by
  subst h1
  by_cases e:k=n
  ·subst e
   obtain⟨es,ck,rfl,hE⟩:=h4
   exact⟨r,es,ck,h3,bR.right _ (.head _),hE⟩
  exact h2.kn bR.left k (by omega)
theorem Pt{κ:Type}{k:κ}{z:Value}:∀ {F:List (κ×Value)},qu k v (F++[(k,z)]) F.length=F++[(k,v)]
 | []=>rfl
 |x::F=>by simp only[List.cons_append,List.length_cons,qu,Pt]
theorem CI.aJH{f:aH→Int}{L:List aH}{t:aH}(h:CI f F L):CI f (eQ (f t) (zI (lZ f (f t) L+1)) F) (L++[t]):=by
 cases hf:oe (f t) F 0 with
 |some u=>exact h.upd (.inl ⟨⟨u,hf⟩,rfl⟩)
 |none=>
  have:=h.upd (.inr ⟨hf,rfl⟩)
  have e:eQ (f t) (zI (lZ f (f t) L+1)) (F++[(f t,zI 0)])=eQ (f t) (zI (lZ f (f t) L+1)) F:=by
   have h1:=xM (v:=Value.int .i64 0) hf
   rw[eQ,h1,eQ,hf]
   simp only[Nat.zero_add]
   exact Pt
  rwa[e] at this
def IE(np:Nat)(D:Int)(Fs:Nat→List (Int×Value))(L:List aH)(t:aH)(i d:Nat):Prop:=
 ∀a b:Nat,a <np→(b:Int) <D→CI (fun t=>(t.at a).at b) (Fs (a*4+b)) (if a <i∨(a=i∧b <d) then L++[t] else L)
theorem IE.step{L:List aH}{t:aH}(h:IE np D Fs L t i d)(hi:i <np)(hd:(d:Int) <D)(hD:D≤4):IE np D (O7 Fs (i*4+d) (eQ ((t.at i).at d) (zI (lZ (fun t=>(t.at i).at d) ((t.at i).at d) L+1)) (Fs (i*4+d)))) L t i (d+1):=by
 intro a b ha hb
 by_cases e:a=i∧b=d
 ·obtain⟨rfl,rfl⟩:=e
  rw[if_pos (by omega)]
  simp only[O7,if_true]
  have:=h a b ha hb
  rw[if_neg (by omega)] at this
  exact this.aJH (t:=t)
 have cF:a*4+b≠i*4+d:=by omega
 simp only[O7]
 rw[if_neg cF]
 have:=h a b ha hb
 by_cases e2:a <i∨(a=i∧b <d)
 ·rw[if_pos e2] at this;rw[if_pos (by omega)];exact this
 rw[if_neg e2] at this;rw[if_neg (by omega)];exact this
theorem IE.row{L:List aH}{t:aH}(h:IE np D Fs L t i d)(hd:¬(d:Int) <D):IE np D Fs L t (i+1) 0:=by
 intro a b ha hb
 have:=h a b ha hb
 by_cases e2:a <i∨(a=i∧b <d)
 ·rw[if_pos e2] at this;rw[if_pos (by omega)];exact this
 rw[if_neg e2] at this;rw[if_neg (by omega)];exact this
def Ox(np:Nat)(D:Int)(Fs:Nat→List (Int×Value))(L:List aH):Prop:=∀a b:Nat,a <np→(b:Int) <D→CI (fun t=>(t.at a).at b) (Fs (a*4+b)) L
theorem Ox.start{L:List aH}(h:Ox np D Fs L)(t:aH):IE np D Fs L t 0 0:=fun a b ha hb=>by
 rw[if_neg (by omega)];exact h a b ha hb
theorem IE.fin{L:List aH}{t:aH}(h:IE np D Fs L t i 0)(hi:¬i <np):Ox np D Fs (L++[t]):=fun a b ha hb=>by
 have:=h a b ha hb
 rwa[if_pos (by omega)] at this
theorem Ox.next{L:List aH}{k:Nat}{t:aH}(h:Ox np D Fs (L.take k++[t]))(ht:L[k]?=some t):Ox np D Fs (L.take (k+1)):=by
 rw[List.take_add_one,ht];exact h
def acs(M:Nat→Nat→Int)(i d:Nat)(s:Int×Int×Int):Int×Int×Int:=bif decide (M i d <s.2.2) then ((i:Int),(d:Int),M i d) else s
def ah4(M:Nat→Nat→Int)(i:Nat):Nat→Int×Int×Int→Int×Int×Int
 |0,s=>s
 |d+1,s=>acs M i d (ah4 M i d s)
def ah3(M:Nat→Nat→Int)(D:Nat):Nat→Int×Int×Int→Int×Int×Int
 |0,s=>s
 |i+1,s=>ah4 M i D (ah3 M D i s)
def GZ(L:List aH)(i d:Nat):Int:=Kv (fun t=>(t.at i).at d) L
theorem T7{L L':List aH}(h:L.Perm L'):GZ L=GZ L':=by funext i d;exact T8 h
def Om(es:Array MapEntry)(seen:List Nat)(F:List (Int×Value))(m:Int):Prop:=0≤m∧(∀e∈es.toList,e∈cZ es seen∨∀n,e.val= zI n→n≤m)∧(m=0∨∃x∈F,x.2= zI m)
theorem Om.start{es:Array MapEntry}:Om es [] F 0:=⟨Int.le_refl _,fun e he=> .inl (by rw[uC];exact he),.inl rfl⟩
theorem Om.step{es:Array MapEntry}{e:MapEntry}{m k:Int}(h:Om es seen F m)(hE:oW vB F es ck)(he:e∈cZ es seen)(hv:e.val= zI n)(hf:(k,Value.int .i64 n)∈F):Om es (seen++[e.born]) F (max m n):=by
 obtain⟨h1,h2,h3⟩:=h
 refine⟨by omega,fun x hx=>?_,?_⟩
 ·rcases h2 x hx with h4|h4
  ·rcases G5 hE he h4 with rfl|h5
   ·exact .inr fun q hq=>by rw[hv] at hq;cases hq;omega
   exact .inl h5
  exact .inr fun q hq=>by have:=h4 q hq;omega
 rcases Int.le_total m n with h5|h5
 ·exact .inr ⟨_,hf,by rw[Int.max_eq_right h5]⟩
 rw[Int.max_eq_left h5];exact h3
theorem Om.fin{f:aH→Int}{L:List aH}{es:Array MapEntry}{m:Int}(h:Om es seen F m)(hE:oW vB F es ck)(he:cZ es seen=[])(hC:CI f F L):m=Kv f L:=by
 obtain⟨h1,h2,h3⟩:=h
 refine hC.mX h1 (fun x hx n hn=>?_) h3
 have:(vB x.1,x.2)∈es.toList.map (fun e=>(e.key,e.val)):=by rw[hE.1];exact List.mem_map_of_mem (f:=fun x:Int×Value=>(vB x.1,x.2)) hx
 obtain⟨e,h4,h5⟩:=List.mem_map.1 this
 simp only[Prod.mk.injEq] at h5
 rcases h2 e h4 with h6|h6
 ·rw[he] at h6;cases h6
 exact h6 n (h5.2.trans hn)
theorem aAN{t:aH}{bw ba:Nat}{m:Nat→Option Nat}{L:Cells}{Ts:List aH}{ne:Nat}{W:fy}{ls:List aO}{ps:List bY}{mk:Nat→Nat→aO→Int}(cq:wm ro Hb W u np ne ls ps mk)(g1:ro bw=some (.cells ⟨[zP Hb]⟩ 95 (0,0)))(ga:ro ba=some (.cells ⟨eMs m⟩ 170 (0,0)))(hm:n5 m Fs 12 L)(hA:Ox np W.D Fs Ts)(hTs:Ts.length≤1000000):dX zT 91 [.agg ⟨[zI t.past,zI t.x.a,zI t.x.b,zI t.x.c,zI t.x.d,zI t.y.a,zI t.y.b,zI t.y.c,zI t.y.d,zI t.z.a,zI t.z.b,zI t.z.c,zI t.z.d]⟩,zP bw,zP ba] ro L (fun r Y=>∃Fs',r= .tuple ⟨[]⟩∧n5 m Fs' 12 Y∧Ox np W.D Fs' (Ts++[t])):=by
 obtain⟨xs,Ha,qR⟩:=cq.pe
 obtain⟨me,PJ,PH,lQ,sD,PI,OC,OB⟩:=qR
 obtain⟨es,pP,jb⟩:=cq.e
 obtain⟨dS,uY,uW,dM,qy,uX,rX,rW⟩:=jb
 obtain⟨cV,nn,nk,cU,hle,pG,jR,lh⟩:=cq.l
 obtain⟨dh,ou,oh,cY,qT,qa,nD,nC⟩:=cq.p
 have hH:ro Hb=some (.cells ⟨[W.a0,W.a1,W.a2,.slice me xs.length lQ,W.a4,zI W.D,zI W.S,.slice dS es.length dM,(.slice W.ha W.H W.ek),.slice cV ls.length cU,.slice dh ps.length cY]⟩ 105 (0,0)):=by rw[←sD,←qy,←hle,←qT];exact cq.h
 have Nn:=cq.n3
 have ON:=cq.e5
 have A5:=cq.ll
 have xb:=cq.pl
 have Rm:=cq.d
 refine zC [.l L]<|zD 2<|jn fun b3=>zD 3<|jl (b:=bw) (off:=0) (m:=1) (vs:=[zP Hb]) 0 ⟨_,_,_,.inl g1,rfl⟩<|zD 3<|jl (b:=Hb) (off:=0) (m:=11) (vs:=[W.a0,W.a1,W.a2,.slice me xs.length lQ,W.a4,zI W.D,zI W.S,.slice dS es.length dM,(.slice W.ha W.H W.ek),.slice cV ls.length cU,.slice dh ps.length cY]) 3 ⟨_,_,_,.inl hH,rfl⟩<|zD 4<|fX [1,1,0,0] [] (fun(zz:Nat×(Nat→List (Int×Value))×Cells)=>[(1,zP bw),(2,zP ba),(3,zP b3),(11,zI (xs.length:Int)),(12,zI (zz.1:Int))]) (fun(zz:Nat×(Nat→List (Int×Value))×Cells)=>[.l zz.2.2,.b b3 (.cells ⟨[zI t.past,zI t.x.a,zI t.x.b,zI t.x.c,zI t.x.d,zI t.y.a,zI t.y.b,zI t.y.c,zI t.y.d,zI t.z.a,zI t.z.b,zI t.z.c,zI t.z.d]⟩ 115 (0,0))]) (fun(zz:Nat×(Nat→List (Int×Value))×Cells)=>zz.1≤np∧n5 m zz.2.1 12 zz.2.2∧IE np W.D zz.2.1 Ts t zz.1 0) (fun(zz:Nat×(Nat→List (Int×Value))×Cells)=>np-zz.1) (⟨0,Fs,L⟩) ⟨Nat.zero_le _,hm,hA.start t⟩ [1,0] ?_
 rintro⟨i,Fs,L⟩ hI K1 cz rest
 dsimp only at hI
 refine zD 5<|zJ 13 ((i:Int) <(xs.length:Int)) (fun h1=>?_) fun h1=>?_
 ·
  refine zD 11<|jl (b:=bw) (off:=0) (m:=1) (vs:=[zP Hb]) 0 ⟨_,_,_,.inl g1,rfl⟩<|zD 3<|jl (b:=Hb) (off:=0) (m:=11) (vs:=[W.a0,W.a1,W.a2,.slice me xs.length lQ,W.a4,zI W.D,zI W.S,.slice dS es.length dM,(.slice W.ha W.H W.ek),.slice cV ls.length cU,.slice dh ps.length cY]) 5 ⟨_,_,_,.inl hH,rfl⟩<|zD 3<|fX [1,1,0,0,1,1,0,0,1,1,0,0] [K1] (fun(zz:Nat×(Nat→List (Int×Value))×Cells)=>[(1,zP bw),(2,zP ba),(3,zP b3),(4,zI (i:Int)),(11,zI (xs.length:Int)),(12,zI (i:Int)),(19,zI W.D),(20,zI (zz.1:Int))]) (fun(zz:Nat×(Nat→List (Int×Value))×Cells)=>[.l zz.2.2,.b b3 (.cells ⟨[zI t.past,zI t.x.a,zI t.x.b,zI t.x.c,zI t.x.d,zI t.y.a,zI t.y.b,zI t.y.c,zI t.y.d,zI t.z.a,zI t.z.b,zI t.z.c,zI t.z.d]⟩ 115 (0,0))]) (fun(zz:Nat×(Nat→List (Int×Value))×Cells)=>(zz.1:Int)≤W.D∧n5 m zz.2.1 12 zz.2.2∧IE np W.D zz.2.1 Ts t i zz.1) (fun(zz:Nat×(Nat→List (Int×Value))×Cells)=>W.D.toNat-zz.1) (⟨0,Fs,L⟩) ⟨by dsimp only;omega,hI.2⟩ [0,1] ?_
  rintro⟨d,Fs,L⟩ hJ K2 oy rest
  dsimp only at hJ
  refine zD 5<|zJ 21 ((d:Int) <W.D) (fun h2=>?_) fun h2=>?_
  ·
   refine zD 9 ?_
   obtain⟨cA,cB,cC,rK,rfl,IN,hB,atm⟩:=hJ.2.1.cut (show i*4+d <12 by omega)
   refine jg 0 [.l cA,.l cB,.l cC] ?_
   have hCI:CI (fun t:aH=>(t.at i).at d) (Fs (i*4+d)) Ts:=by have:=hJ.2.2 i d (by omega) (by omega);rwa[if_neg (by omega)] at this
   have XH:=amO (f:=(fun t:aH=>(t.at i).at d)) (v:=(t.at i).at d) (L:=Ts)
   refine zD 3<|xa (b:=ba) (off:=0) (len:=3) (sz:=4) (i:Int) (by omega)<|xa (b:=ba) (off:=0+(i:Int).toNat*4) (len:=4) (sz:=1) (d:Int) (by omega)<|jl (b:=ba) (off:=0+(i:Int).toNat*4+(d:Int).toNat*1) (m:=1) (vs:=[(.map (some rK))]) 0 (fo (.inl ga) (aek (by omega) (by omega) IN))<|zD 3<|xa (b:=b3) (off:=1) (len:=3) (sz:=4) (i:Int) (by omega)<|xa (b:=b3) (off:=1+(i:Int).toNat*4) (len:=4) (sz:=1) (d:Int) (by omega)<|uD (b:=b3) (off:=1+(i:Int).toNat*4+(d:Int).toNat*1) (m:=1) (vs:=[zI ((t.at i).at d)]) 0 [3] [(b3,.cells ⟨[zI t.past,zI t.x.a,zI t.x.b,zI t.x.c,zI t.x.d,zI t.y.a,zI t.y.b,zI t.y.c,zI t.y.d,zI t.z.a,zI t.z.b,zI t.z.c,zI t.z.d]⟩ 115 (0,0))] (fun s _ hZ=>fo (hZ _ (.head _)) (yl (t:=t) (by omega) (by omega)))<|dV 11 fun Bc Bm AN=>jlu (kv:=vB) (F:=(Fs (i*4+d))) (r:=rK) (K:=3) ((t.at i).at d) (zI 0) false [1] cB Dc (fun s _ hZ=>hB.has hZ)<|iv AN (zN 0 4)<|jw 11 (zI (lZ (fun t:aH=>(t.at i).at d) ((t.at i).at d) Ts)) (hCI.look _)<|zW ((lZ (fun t:aH=>(t.at i).at d) ((t.at i).at d) Ts)+1)<|dV 13 fun Cq Cy AM=>Ut (kv:=vB) (F:=(Fs (i*4+d))) (r:=rK) (K:=3) 1 ((t.at i).at d) (zI ((lZ (fun t:aH=>(t.at i).at d) ((t.at i).at d) Ts)+1)) Dc hB fun Lm5 hm5=>IJ AM<|zD 2<|zW ((d:Int)+1)<|zD 2<|zV oy (⟨d+1,(O7 Fs (i*4+d) (eQ ((t.at i).at d) (zI (lZ (fun t:aH=>(t.at i).at d) ((t.at i).at d) Ts+1)) (Fs (i*4+d)))),cA++(Lm5++cC)⟩) ⟨by dsimp only;omega,atm _ _ hm5,hJ.2.2.step (by omega) (by omega) Rm.2⟩ [[1,0,2],[3]]
  refine zD 3<|zW ((i:Int)+1)<|zD 2<|zF cz (⟨i+1,Fs,L⟩) ⟨hJ.2.1,hJ.2.2.row (by omega)⟩ [0,1]
 refine zD 2<|zR (.tuple ⟨[]⟩) [] [0] L ⟨Fs,rfl,hI.2.1,hI.2.2.fin (by omega)⟩
set_option maxHeartbeats 1000000 in
theorem aAM {K:cm} {P Q R:Int} (hK:du ro l K) (hV:kV K) (hT:0 <(iy K (allM K.ax.length)).length) (aRl:ah3 (GZ (iy K (allM K.ax.length))) K.days.toNat K.ar.length (0,0,((iy K (allM K.ax.length)).length:Int))=(P,Q,R)) (cF:R≠((iy K (allM K.ax.length)).length:Int)):EY zT 42 [.agg ⟨l⟩] ro [] (fun r Y=>r= .tuple ⟨[zI P,zI Q,zI R,zI 0]⟩∧Y=[]):=by
 have cz:=hK
 obtain⟨vS,vT,vP,vR,vE,fa,fc,rfl,hS,hT,hp,hr,he⟩:=hK
 have y3:=hp
 have Hx:=he
 have p6:=hr
 obtain⟨dh,ou,oh,cY,rfl,qa,nD,nC⟩:=hp
 obtain⟨dS,uY,uW,dM,rfl,uX,rX,rW⟩:=he
 have Xs:=hV.SE
 have Ew:=hV.days
 have qy:=hV.ax
 refine BC aE [] [] bJ fun fr=>zD 2<|jn fun b1=>jd 8 [0]<|tD (vs:=[.agg ⟨[vS,vT,.slice fa 0 fc,.slice dh K.ar.length cY,vR,zI K.days,zI K.stay,.slice dS K.ax.length dM]⟩]) [] (fun _ _ h=>h) (tC cz hV) ?_
 rintro _ aV _ cR ⟨Hb,W,u,ls,ps,rfl,kS,rfl⟩
 have wH:=kS.Ab (allM K.ax.length)
 have AK:=wH.length_eq
 have hI:=kS
 have cq:=hI.r
 obtain⟨xs,Ha,qR⟩:=cq.pe
 obtain⟨me,PJ,PH,lQ,sD,PI,OC,OB⟩:=qR
 obtain⟨es,pP,jb⟩:=cq.e
 obtain⟨dS,uY,uW,dM,qy,uX,rX,rW⟩:=jb
 obtain⟨cV,nn,nk,cU,hle,pG,jR,lh⟩:=cq.l
 obtain⟨dh,ou,oh,cY,qT,qa,nD,nC⟩:=cq.p
 obtain⟨ov,TN,TJ,od,Ju,TK,SD,SC⟩:=hI.hh
 have hH:aV Hb=some (.cells ⟨[W.a0,W.a1,W.a2,.slice me xs.length lQ,W.a4,zI W.D,zI W.S,.slice dS es.length dM,.slice ov K.hs.length od,.slice cV ls.length cU,.slice dh ps.length cY]⟩ 105 (0,0)):=by rw[←sD,←qy,←hle,←qT,←Ju];exact cq.h
 have Nn:=cq.n3
 have ON:=cq.e5
 have A5:=cq.ll
 have xb:=cq.pl
 have Fi:=hI.d
 have Rm:=hI.r.d
 refine jg 0 []<|zD 3<|jn fun b6=>jd 13 [0]<|jn fun b7=>jf [1] [(b6,.cells ⟨[zP Hb]⟩ 95 (0,0))] fun Tq ql Fe=>zD 7<|BD<|fX [1,1,1,1,0,1,0,0] [] (fun(zz:Nat×(Nat→Option Nat)×Cells)=>[(2,zI 0),(3,zI 0),(4,zI 0),(5,zI 0),(6,zP b6),(7,zP b7),(24,zI (zz.1:Int))]) (fun zz=>[.b b7 (.cells ⟨[(.map (zz.2.1 0)),(.map (zz.2.1 1)),(.map (zz.2.1 2)),(.map (zz.2.1 3)),(.map (zz.2.1 4)),(.map (zz.2.1 5)),(.map (zz.2.1 6)),(.map (zz.2.1 7)),(.map (zz.2.1 8)),(.map (zz.2.1 9)),(.map (zz.2.1 10)),(.map (zz.2.1 11))]⟩ 170 (0,0)),.l zz.2.2,.l fr]) (fun zz=>zz.1≤3∧n5 zz.2.1 (fun _=>[]) (zz.1*4) zz.2.2) (fun zz=>3-zz.1) (⟨0,fun _=>none,[]⟩) ⟨Nat.zero_le _,rfl⟩ [1,0,3] ?_
 rintro⟨i,m,Z⟩ hL K1 cz rest
 dsimp only at hL
 refine zD 5<|zJ 25 ((i:Int) <3) (fun h5=>?_) fun h5=>?_
 ·
  refine zD 14<|fX [1,1,1,1,0,1,0,0,1,1,0,0,1,1,0,0] [K1] (fun(zz:Nat×(Nat→Option Nat)×Cells)=>[(2,zI 0),(3,zI 0),(4,zI 0),(5,zI 0),(6,zP b6),(7,zP b7),(8,zI (i:Int)),(24,zI (i:Int)),(27,zI (zz.1:Int))]) (fun zz=>[.b b7 (.cells ⟨[(.map (zz.2.1 0)),(.map (zz.2.1 1)),(.map (zz.2.1 2)),(.map (zz.2.1 3)),(.map (zz.2.1 4)),(.map (zz.2.1 5)),(.map (zz.2.1 6)),(.map (zz.2.1 7)),(.map (zz.2.1 8)),(.map (zz.2.1 9)),(.map (zz.2.1 10)),(.map (zz.2.1 11))]⟩ 170 (0,0)),.l zz.2.2,.l fr]) (fun zz=>zz.1≤4∧n5 zz.2.1 (fun _=>[]) (i*4+zz.1) zz.2.2) (fun zz=>4-zz.1) (⟨0,m,Z⟩) ⟨Nat.zero_le _,hL.2⟩ [0,1,2] ?_
  rintro⟨d,m,Z⟩ hJ K2 oy rest
  dsimp only at hJ
  refine zD 5<|zJ 28 ((d:Int) <4) (fun h6=>?_) fun h6=>?_
  ·
   refine zD 12<|jmk vB fun SB L32 aOt=>xa (b:=b7) (off:=0) (len:=3) (sz:=4) (i:Int) (by omega)<|xa (b:=b7) (off:=0+(i:Int).toNat*4) (len:=4) (sz:=1) (d:Int) (by omega)<|jsx 1 b7 (0+(i:Int).toNat*4+(d:Int).toNat*1) [(.map (m 0)),(.map (m 1)),(.map (m 2)),(.map (m 3)),(.map (m 4)),(.map (m 5)),(.map (m 6)),(.map (m 7)),(.map (m 8)),(.map (m 9)),(.map (m 10)),(.map (m 11))] [(.map (some SB))] 170 (by intro v hv;rw[List.mem_singleton] at hv;subst hv;rfl) (ar2 (m:=m) (by omega) (by omega)) ?_
   refine jmw 0 [.b b7 (.cells ⟨[(.map ((vk m (i*4+d) SB) 0)),(.map ((vk m (i*4+d) SB) 1)),(.map ((vk m (i*4+d) SB) 2)),(.map ((vk m (i*4+d) SB) 3)),(.map ((vk m (i*4+d) SB) 4)),(.map ((vk m (i*4+d) SB) 5)),(.map ((vk m (i*4+d) SB) 6)),(.map ((vk m (i*4+d) SB) 7)),(.map ((vk m (i*4+d) SB) 8)),(.map ((vk m (i*4+d) SB) 9)),(.map ((vk m (i*4+d) SB) 10)),(.map ((vk m (i*4+d) SB) 11))]⟩ 170 (0,0))] (L:=[(b7,.cells ⟨dI [(.map (m 0)),(.map (m 1)),(.map (m 2)),(.map (m 3)),(.map (m 4)),(.map (m 5)),(.map (m 6)),(.map (m 7)),(.map (m 8)),(.map (m 9)),(.map (m 10)),(.map (m 11))] (0+(i:Int).toNat*4+(d:Int).toNat*1) [(.map (some SB))]⟩ 170 (0,0))]) (by show [(b7,Obj.cells ⟨dI (eMs m) (0+(i:Int).toNat*4+(d:Int).toNat*1) [.map (some SB)]⟩ 170 (0,0))]=_;rw[ar1 (by omega) (by omega)];rfl) ?_
   refine zD 2<|zW ((d:Int)+1)<|zD 2<|zV oy (⟨d+1,(vk m (i*4+d) SB),Z++L32⟩) ⟨by dsimp only;omega,hJ.2.snoc rfl aOt⟩ [[0],[2,1],[3]]
  refine zD 3<|zW ((i:Int)+1)<|zD 2<|zF cz (⟨i+1,m,Z⟩) (by dsimp only;have:=hJ.2;rwa[show i*4+d=(i+1)*4 by omega] at this) [0,1,2]
 refine zD 4<|jf [0] [(b7,.cells ⟨[(.map (m 0)),(.map (m 1)),(.map (m 2)),(.map (m 3)),(.map (m 4)),(.map (m 5)),(.map (m 6)),(.map (m 7)),(.map (m 8)),(.map (m 9)),(.map (m 10)),(.map (m 11))]⟩ 170 (0,0))] fun ro9 Ci hk8=>jl (b:=b6) (off:=0) (m:=1) (vs:=[zP Hb]) 0 ⟨_,_,_,.inl (Ci _ _ (Fe _ (.head _))),rfl⟩<|zD 2<|jc (vs:=[zP Hb,.agg ⟨[.func (.func 91) ⟨[]⟩ ⟨[zP b6,zP b7]⟩]⟩]) [0] (xD (f:=91) (fi:=[]) (ca:=[zP b6,zP b7]) (Jn:=fun k Y=>∃Fs,n5 m Fs 12 Y∧Ox K.ar.length W.D Fs ((dY W.D ls (nN K) K.ar.length ps.length (allM K.ax.length)).take k)) (kS.r.up (ql.trans Ci)) (by kernel_rfl) ⟨fun _=>[],by have:=hL.2;rwa[show i*4=12 by omega] at this,fun a b _ _=>CI.nil⟩ (fun k x hx aR hs B hB=>by obtain⟨Fs,h1,h2⟩:=hB;exact(aAN (kS.r.up ((ql.trans Ci).trans hs)) (hs _ _ (Ci _ _ (Fe _ (.head _)))) (hs _ _ (hk8 _ (.head _))) h1 h2 (by have:=hV.n;rw[List.length_take];omega)).mono fun _ _ ⟨Fs',_,h3,h4⟩=>⟨Fs',h3,h4.next hx⟩) (by rw[AK];exact hV.n)) ?_
 rintro _ Y99 ⟨rfl,ry⟩
 simp only[List.take_length] at ry
 obtain⟨Fs,hMs,hAC⟩:=ry
 refine zD 1<|jf [0] Y99 (fun ajI Dg UU=>?_)
 have hMk:=hMs.kn UU
 refine zD 9<|jl (b:=b6) (off:=0) (m:=1) (vs:=[zP Hb]) 0 ⟨_,_,_,.inl (Dg _ _ (Ci _ _ (Fe _ (.head _)))),rfl⟩<|zD 3<|jl (b:=Hb) (off:=0) (m:=11) (vs:=[W.a0,W.a1,W.a2,.slice me xs.length lQ,W.a4,zI W.D,zI W.S,.slice dS es.length dM,.slice ov K.hs.length od,.slice cV ls.length cU,.slice dh ps.length cY]) 3 ⟨_,_,_,.inl (Dg _ _ (Ci _ _ (ql _ _ hH))),rfl⟩<|zD 4<|fX [1,1,1,1,1,1,1,0,1,0,0] [] (fun(zz:Nat×Int×Int×Int)=>[(2,zI zz.2.1),(3,zI zz.2.2.1),(4,zI zz.2.2.2),(5,zI 0),(6,zP b6),(7,zP b7),(10,zI ((dY W.D ls (nN K) K.ar.length ps.length (allM K.ax.length)).length:Int)),(47,zI (xs.length:Int)),(48,zI (zz.1:Int))]) (fun zz=>[.l fr]) (fun zz=>zz.1≤xs.length∧(zz.2.1,zz.2.2.1,zz.2.2.2)=ah3 (GZ (dY W.D ls (nN K) K.ar.length ps.length (allM K.ax.length))) W.D.toNat zz.1 (0,0,((dY W.D ls (nN K) K.ar.length ps.length (allM K.ax.length)).length:Int))) (fun zz=>xs.length-zz.1) (⟨0,0,0,((dY W.D ls (nN K) K.ar.length ps.length (allM K.ax.length)).length:Int)⟩) ⟨Nat.zero_le _,rfl⟩ [0] ?_
 rintro⟨i,pp,dd,lf⟩ za K3 hK3 rest
 dsimp only at za
 refine zD 5<|zJ 49 ((i:Int) <(xs.length:Int)) (fun h13=>?_) fun h13=>?_
 ·
  refine zD 11<|jl (b:=b6) (off:=0) (m:=1) (vs:=[zP Hb]) 0 ⟨_,_,_,.inl (Dg _ _ (Ci _ _ (Fe _ (.head _)))),rfl⟩<|zD 3<|jl (b:=Hb) (off:=0) (m:=11) (vs:=[W.a0,W.a1,W.a2,.slice me xs.length lQ,W.a4,zI W.D,zI W.S,.slice dS es.length dM,.slice ov K.hs.length od,.slice cV ls.length cU,.slice dh ps.length cY]) 5 ⟨_,_,_,.inl (Dg _ _ (Ci _ _ (ql _ _ hH))),rfl⟩<|zD 3<|fX [1,1,1,1,1,1,1,0,1,0,0,1,1,0,0,1,1,0,0] [K3] (fun(zz:Nat×Int×Int×Int)=>[(2,zI zz.2.1),(3,zI zz.2.2.1),(4,zI zz.2.2.2),(5,zI 0),(6,zP b6),(7,zP b7),(10,zI ((dY W.D ls (nN K) K.ar.length ps.length (allM K.ax.length)).length:Int)),(11,zI (i:Int)),(47,zI (xs.length:Int)),(48,zI (i:Int)),(55,zI W.D),(56,zI (zz.1:Int))]) (fun zz=>[.l fr]) (fun zz=>(zz.1:Int)≤W.D∧(zz.2.1,zz.2.2.1,zz.2.2.2)=ah4 (GZ (dY W.D ls (nN K) K.ar.length ps.length (allM K.ax.length))) i zz.1 (ah3 (GZ (dY W.D ls (nN K) K.ar.length ps.length (allM K.ax.length))) W.D.toNat i (0,0,((dY W.D ls (nN K) K.ar.length ps.length (allM K.ax.length)).length:Int)))) (fun zz=>W.D.toNat-zz.1) (⟨0,pp,dd,lf⟩) ⟨by dsimp only;omega,za.2⟩ [0] ?_
  rintro⟨d,pp,dd,lf⟩ hJ K4 hK4 rest
  dsimp only at hJ
  refine zD 5<|zJ 57 ((d:Int) <W.D) (fun h14=>?_) fun h14=>?_
  ·
   refine zD 15 ?_
   obtain⟨rK,esK,ckK,IN,hrK,hEK⟩:=hMk (i*4+d) (by omega)
   have hCI:=hAC i d (by omega) (by omega)
   refine zD 3<|xa (b:=b7) (off:=0) (len:=3) (sz:=4) (i:Int) (by omega)<|xa (b:=b7) (off:=0+(i:Int).toNat*4) (len:=4) (sz:=1) (d:Int) (by omega)<|jl (b:=b7) (off:=0+(i:Int).toNat*4+(d:Int).toNat*1) (m:=1) (vs:=[(.map (some rK))]) 0 (fo (.inl (Dg _ _ (hk8 _ (.head _)))) (aek (by omega) (by omega) IN))<|jmR hrK fun r64=>jg 0 [.b r64 (qP rK ckK [])]<|zD 2<|fX [1,1,1,1,1,1,1,0,1,0,0,1,1,0,0,1,1,0,0,1,1,0,0,1,1,0,1,0,0] [K3,K4] (fun(zz:(List Nat)×Int)=>[(2,zI pp),(3,zI dd),(4,zI lf),(5,zI 0),(6,zP b6),(7,zP b7),(10,zI ((dY W.D ls (nN K) K.ar.length ps.length (allM K.ax.length)).length:Int)),(11,zI (i:Int)),(12,zI (d:Int)),(13,zI zz.2),(47,zI (xs.length:Int)),(48,zI (i:Int)),(55,zI W.D),(56,zI (d:Int)),(64,zP r64)]) (fun zz=>[.b r64 (qP rK ckK zz.1),.l fr]) (fun zz=>Om esK zz.1 (Fs (i*4+d)) zz.2) (fun zz=>(cZ esK zz.1).length) (⟨[],0⟩) Om.start [0,1] ?_
   rintro⟨seen,mo⟩ hM K5 hK5 rest
   dsimp only at hM
   refine zD 2<|jmN (it:=r64) (kv:=vB) (seen:=seen) 0 hrK hEK (fun k65 v65 e65 aC6 aud aOG aBI=>?_) (fun aM5=>?_)
   ·
    have hvl:=hCI.val _ aC6
    dsimp only at hvl
    subst hvl
    refine jg 0 [.b r64 (qP rK ckK (seen++[e65.born]))]<|zD 8<|jmE (it:=r64) 0 hrK hEK aud aOG aBI<|jg 0 [.b r64 (qP rK ckK (seen++[e65.born]))]<|zD 6<|jmx (k:= .i64) (a:=mo) (b:=(lZ (fun t:aH=>(t.at i).at d) k65 (dY W.D ls (nN K) K.ar.length ps.length (allM K.ax.length))))<|zD 2<|eW hK5 (⟨(seen++[e65.born]),(max mo (lZ (fun t:aH=>(t.at i).at d) k65 (dY W.D ls (nN K) K.ar.length ps.length (allM K.ax.length))))⟩) (hM.step hEK aud aBI aC6) (xC aud) [0,1] (Sub.refl _)
   refine jg 0 [.b r64 (qP rK ckK seen)]<|zD 6 ?_
   have SL:mo=GZ (dY W.D ls (nN K) K.ar.length ps.length (allM K.ax.length)) i d:=hM.fin hEK aM5 hCI
   refine zD 5<|zJ 74 (mo <lf) (fun Va=>?_) fun Va=>?_
   ·
    refine zD 10<|zW ((d:Int)+1)<|zD 2<|zF hK4 (⟨d+1,(i:Int),(d:Int),mo⟩) (by dsimp only;rw[ah4,←hJ.2];simp only[acs,←SL];rw[decide_eq_true (by assumption)];rfl) [1]
   refine zD 3<|zW ((d:Int)+1)<|zD 2<|zF hK4 (⟨d+1,pp,dd,lf⟩) (by dsimp only;rw[ah4,←hJ.2];simp only[acs,←SL];rw[decide_eq_false (by assumption)];rfl) [1]
  refine zD 3<|zW ((i:Int)+1)<|zD 2<|zF hK3 (⟨i+1,pp,dd,lf⟩) (by dsimp only;rw[ah3,hJ.2,show d=W.D.toNat by omega]) [0]
 refine zD 4 ?_
 have lY:(pp,dd,lf)=(P,Q,R):=by rw[za.2,show i=K.ar.length by omega,T7 wH,AK,Fi];exact aRl
 simp only[Prod.mk.injEq] at lY
 refine zD 4<|js 82 (decide (((dY W.D ls (nN K) K.ar.length ps.length (allM K.ax.length)).length:Int)=0)) (fun h16=>?_) (fun h16=>?_)
 ·
  have agu:=h16
  replace agu:=of_decide_eq_true agu
  exfalso;omega
 have agu:=h16
 replace agu:=of_decide_eq_false agu
 refine zD 5<|zJ 86 (lf=((dY W.D ls (nN K) K.ar.length ps.length (allM K.ax.length)).length:Int)) (fun h17=>?_) fun h17=>?_
 ·
  exfalso;omega
 refine zD 13<|Ur qC.a.a.a.a (.tuple ⟨[zI pp,zI dd,zI lf,zI 0]⟩) [0] [] (((cR.trans ql).trans Ci).trans Dg) ⟨by rw[lY.1,lY.2.1,lY.2.2],rfl⟩
theorem avg(h n l h' n' l':Int)(dep:Nat):Yw zT (dep+3) 41 (.agg ⟨[zI h,zI n,zI l]⟩) (.agg ⟨[zI h',zI n',zI l']⟩) (h==h'&&((n==n'&&(l==l'&&true))&&true)):=
 kg (fD Tryz.typeInfo41 Tryz.underlying41 rfl rfl rfl rfl rfl rfl) Tryz.stoodInHeld41 (.cons (by decide) (dE gT rfl) (dE gT rfl) (jv gT _ _) (.cons (by decide) (lq (fD Tryz.typeInfo39 Tryz.underlying39 rfl rfl rfl rfl rfl rfl) rfl) (lq (fD Tryz.typeInfo39 Tryz.underlying39 rfl rfl rfl rfl rfl rfl) rfl) (Ll _ _ _ _ dep) .nil))
def Mp:=(fD Tryz.typeInfo9 Tryz.underlying9 rfl rfl rfl rfl rfl rfl:TF zT 9 _ 1 16 _ false)
def aqQ:=(fD Tryz.typeInfo4 Tryz.underlying4 rfl rfl rfl rfl rfl rfl:TF zT 4 _ 1 1 _ false)
theorem jm{α:Type}{l:List α}{k:Nat}{x y:α}(h:l[k]?=some x) (h2:l[k]?=some y):x=y:=by rw[h] at h2;exact Option.some.inj h2
theorem aEp(a0:ByteArray)(a1:ByteArray)(b0:ByteArray)(b1:ByteArray):EqV zT 165 (.agg ⟨[.string a0,.string a1]⟩) (.agg ⟨[.string b0,.string b1]⟩) (a0==b0&&(a1==b1&&(true))):=
 AV (kg (dep:=9999) (fD Tryz.typeInfo165 Tryz.underlying165 rfl rfl rfl rfl rfl rfl) Tryz.stoodInHeld165 (.cons (by decide) (dE Mp rfl) (dE Mp rfl) (NQ Mp _ _) (.cons (by decide) (dE Mp rfl) (dE Mp rfl) (NQ Mp _ _) .nil)))
theorem aLU:n6 zT 165:=Tryz.eqGuardType165
theorem aEq(a0:Int)(a1:Int)(a2:Int)(a3:Int)(a4:Int)(a5:Int)(a6:Int)(b0:Int)(b1:Int)(b2:Int)(b3:Int)(b4:Int)(b5:Int)(b6:Int):EqV zT 92 (.agg ⟨[zI a0,zI a1,zI a2,zI a3,zI a4,zI a5,zI a6]⟩) (.agg ⟨[zI b0,zI b1,zI b2,zI b3,zI b4,zI b5,zI b6]⟩) (a0==b0&&(a1==b1&&(a2==b2&&((a3==b3&&(a4==b4&&true))&&((a5==b5&&(a6==b6&&true))&&(true)))))):=
 AV (kg (dep:=9999) (fD Tryz.typeInfo92 Tryz.underlying92 rfl rfl rfl rfl rfl rfl) Tryz.stoodInHeld92 (.cons (by decide) (dE gT rfl) (dE gT rfl) (jv gT _ _) (.cons (by decide) (dE gT rfl) (dE gT rfl) (jv gT _ _) (.cons (by decide) (dE gT rfl) (dE gT rfl) (jv gT _ _) (.cons (by decide) (lq (fD Tryz.typeInfo39 Tryz.underlying39 rfl rfl rfl rfl rfl rfl) rfl) (lq (fD Tryz.typeInfo39 Tryz.underlying39 rfl rfl rfl rfl rfl rfl) rfl) (Ll _ _ _ _ _) (.cons (by decide) (lq (fD Tryz.typeInfo39 Tryz.underlying39 rfl rfl rfl rfl rfl rfl) rfl) (lq (fD Tryz.typeInfo39 Tryz.underlying39 rfl rfl rfl rfl rfl rfl) rfl) (Ll _ _ _ _ _) .nil))))))
theorem aLV:n6 zT 92:=Tryz.eqGuardType92
theorem amz(a0:ByteArray)(a1:Int)(a2:Int)(a3:Int)(a4:Bool)(a5:Int)(a6:Int)(b0:ByteArray)(b1:Int)(b2:Int)(b3:Int)(b4:Bool)(b5:Int)(b6:Int):EqV zT 43 (.agg ⟨[.string a0,zI a1,zI a2,zI a3,.bool a4,zI a5,zI a6]⟩) (.agg ⟨[.string b0,zI b1,zI b2,zI b3,.bool b4,zI b5,zI b6]⟩) (a0==b0&&((a1==b1&&((a2==b2&&(a3==b3&&true))&&true))&&(a4==b4&&(a5==b5&&(a6==b6&&(true)))))):=
 AV (kg (dep:=9999) (fD Tryz.typeInfo43 Tryz.underlying43 rfl rfl rfl rfl rfl rfl) Tryz.stoodInHeld43 (.cons (by decide) (dE Mp rfl) (dE Mp rfl) (NQ Mp _ _) (.cons (by decide) (lq (fD Tryz.typeInfo41 Tryz.underlying41 rfl rfl rfl rfl rfl rfl) rfl) (lq (fD Tryz.typeInfo41 Tryz.underlying41 rfl rfl rfl rfl rfl rfl) rfl) (avg _ _ _ _ _ _ _) (.cons (by decide) (dE aqQ rfl) (dE aqQ rfl) (ahf aqQ _ _) (.cons (by decide) (dE gT rfl) (dE gT rfl) (jv gT _ _) (.cons (by decide) (dE gT rfl) (dE gT rfl) (jv gT _ _) .nil))))))
theorem arO:n6 zT 43:=Tryz.eqGuardType43
theorem aha(a0:Int)(a1:Int)(b0:Int)(b1:Int):EqV zT 52 (.agg ⟨[zI a0,zI a1]⟩) (.agg ⟨[zI b0,zI b1]⟩) (a0==b0&&(a1==b1&&(true))):=
 AV (kg (dep:=9999) (fD Tryz.typeInfo52 Tryz.underlying52 rfl rfl rfl rfl rfl rfl) Tryz.stoodInHeld52 (.cons (by decide) (dE gT rfl) (dE gT rfl) (jv gT _ _) (.cons (by decide) (dE gT rfl) (dE gT rfl) (jv gT _ _) .nil)))
theorem arN:n6 zT 52:=Tryz.eqGuardType52
theorem aqq{w:Value}{xs:List ByteArray}(hp:cD ro v 1 kT xs)(hq:cD ro w 1 kT xs)(hn:xs.length≤1000):eR zT 77 [v,w] ro (.bool true):=by
 obtain⟨dh,ou,oh,cY,rfl,qa,nD,nC⟩:=hp
 obtain⟨qqa,qqb,qqo,qqc,rfl,qqk,qqh,qql⟩:=hq
 refine zE<|zD 13<|js 10 (!decide ((xs.length:Int)=(xs.length:Int))) (fun h1=>?_) (fun h1=>?_)
 ·
  exfalso;simp at h1
 refine zD 8<|fX [1,1,0,1,0,0] [] (fun(zz:Nat)=>[(0,.slice dh xs.length cY),(1,.slice qqa xs.length qqc),(5,zI (zz:Int))]) (fun zz=>[]) (fun zz=>zz≤xs.length) (fun zz=>xs.length-zz) 0 (Nat.zero_le _) [] ?_
 rintro i hIi K1 cz rest
 refine zD 8<|zJ 14 ((i:Int) <(xs.length:Int)) (fun h2=>?_) fun h2=>?_
 ·
  refine zD 8 ?_
  obtain⟨rV,qw⟩:=zG xs i
  refine jq cY 1 nD qw<|jl 0 (nC _ _ qw)<|zD 2 ?_
  obtain⟨rR,ox⟩:=zG xs i
  refine jq qqc 1 qqh ox<|jl 0 (qql _ _ ox)<|zD 2<|js 25 (!(eF rV rR)) (fun h3=>?_) (fun h3=>?_)
  ·
   try simp only[zB] at h3
   exfalso;have e:=jm qw ox;subst e;simp[eF] at h3
  try simp only[zB] at h3
  refine zD 4<|zW ((i:Int)+1)<|zD 2<|zY cz (i+1) (by omega) []
 refine zD 7<|zX (.bool true) ⟨rfl,rfl⟩
theorem aqs{w:Value}{xs:List dK}(hp:cD ro v 2 kB xs)(hq:cD ro w 2 kB xs)(hn:xs.length≤1000):eR zT 78 [v,w] ro (.bool true):=by
 obtain⟨dh,ou,oh,cY,rfl,qa,nD,nC⟩:=hp
 obtain⟨qqa,qqb,qqo,qqc,rfl,qqk,qqh,qql⟩:=hq
 refine zE<|zD 13<|js 10 (!decide ((xs.length:Int)=(xs.length:Int))) (fun h1=>?_) (fun h1=>?_)
 ·
  exfalso;simp at h1
 refine zD 8<|fX [1,1,0,1,0,0] [] (fun(zz:Nat)=>[(0,.slice dh xs.length cY),(1,.slice qqa xs.length qqc),(5,zI (zz:Int))]) (fun zz=>[]) (fun zz=>zz≤xs.length) (fun zz=>xs.length-zz) 0 (Nat.zero_le _) [] ?_
 rintro i hIi K1 cz rest
 refine zD 8<|zJ 14 ((i:Int) <(xs.length:Int)) (fun h2=>?_) fun h2=>?_
 ·
  refine zD 8 ?_
  obtain⟨rV,qw⟩:=zG xs i
  refine jq cY 2 nD qw<|jl 0 (nC _ _ qw)<|zD 2 ?_
  obtain⟨rR,ox⟩:=zG xs i
  refine jq qqc 2 qqh ox<|jl 0 (qql _ _ ox)<|jne aLU (aEp rV.f rV.t rR.f rR.t)<|zD 1<|js 25 (!(rV.f==rR.f&&(rV.t==rR.t&&(true)))) (fun h3=>?_) (fun h3=>?_)
  ·
   try simp only[zB] at h3
   exfalso;have e:=jm qw ox;subst e;simp at h3
  try simp only[zB] at h3
  refine zD 4<|zW ((i:Int)+1)<|zD 2<|zY cz (i+1) (by omega) []
 refine zD 7<|zX (.bool true) ⟨rfl,rfl⟩
theorem aqu{w:Value}{xs:List cE}(hp:cD ro v 7 nU xs)(hq:cD ro w 7 nU xs)(hn:xs.length≤1000):eR zT 112 [v,w] ro (.bool true):=by
 obtain⟨dh,ou,oh,cY,rfl,qa,nD,nC⟩:=hp
 obtain⟨qqa,qqb,qqo,qqc,rfl,qqk,qqh,qql⟩:=hq
 refine zE<|zD 13<|js 10 (!decide ((xs.length:Int)=(xs.length:Int))) (fun h1=>?_) (fun h1=>?_)
 ·
  exfalso;simp at h1
 refine zD 8<|fX [1,1,0,1,0,0] [] (fun(zz:Nat)=>[(0,.slice dh xs.length cY),(1,.slice qqa xs.length qqc),(5,zI (zz:Int))]) (fun zz=>[]) (fun zz=>zz≤xs.length) (fun zz=>xs.length-zz) 0 (Nat.zero_le _) [] ?_
 rintro i hIi K1 cz rest
 refine zD 8<|zJ 14 ((i:Int) <(xs.length:Int)) (fun h2=>?_) fun h2=>?_
 ·
  refine zD 8 ?_
  obtain⟨rV,qw⟩:=zG xs i
  refine jq cY 7 nD qw<|jl 0 (nC _ _ qw)<|zD 2 ?_
  obtain⟨rR,ox⟩:=zG xs i
  refine jq qqc 7 qqh ox<|jl 0 (qql _ _ ox)<|jne aLV (aEq rV.k rV.st rV.ot rV.fn rV.fl rV.tn rV.tl rR.k rR.st rR.ot rR.fn rR.fl rR.tn rR.tl)<|zD 1<|js 25 (!(rV.k==rR.k&&(rV.st==rR.st&&(rV.ot==rR.ot&&((rV.fn==rR.fn&&(rV.fl==rR.fl&&true))&&((rV.tn==rR.tn&&(rV.tl==rR.tl&&true))&&(true))))))) (fun h3=>?_) (fun h3=>?_)
  ·
   try simp only[zB] at h3
   exfalso;have e:=jm qw ox;subst e;simp at h3
  try simp only[zB] at h3
  refine zD 4<|zW ((i:Int)+1)<|zD 2<|zY cz (i+1) (by omega) []
 refine zD 7<|zX (.bool true) ⟨rfl,rfl⟩
theorem aqt{S:List (List az)}(hS:bU ro vS S)(hU:bU ro wS S)(hn1:S.length≤100∧∀l∈S,l.length≤100):eR zT 111 [.agg ⟨[vS]⟩,.agg ⟨[wS]⟩] ro (.bool true):=by
 obtain⟨p5,hs,iV⟩:=hS
 obtain⟨wsU,hu,agl⟩:=hU
 obtain⟨xp,qsb,qso,vi,rfl,qsk,Zd,Zc⟩:=hs
 obtain⟨qua,qub,quo,quc,rfl,quk,quh,qul⟩:=hu
 have Nn:=hn1.1
 have OJ:=iV.len
 have hl3:=agl.len
 refine zE<|zD 2<|jn fun b2=>jn fun b3=>jd 13 [1,0]<|js 13 (!decide ((p5.length:Int)=(wsU.length:Int))) (fun h1=>?_) (fun h1=>?_)
 ·
  replace h1:=of_decide_eq_false (by simpa using h1)
  exfalso;omega
 replace h1:=of_decide_eq_true (by simpa using h1)
 refine zD 8<|fX [1,1,0,1,0,0] [] (fun(zz:Nat)=>[(2,zP b2),(3,zP b3),(5,zI (zz:Int))]) (fun zz=>[.b b3 (.cells ⟨[.slice qua wsU.length quc]⟩ 24 (0,0)),.b b2 (.cells ⟨[.slice xp p5.length vi]⟩ 24 (0,0))]) (fun zz=>zz≤p5.length) (fun zz=>p5.length-zz) 0 (Nat.zero_le _) [0,1] ?_
 rintro i hIi K1 cz rest
 refine jd 9 [1]<|zJ 18 ((i:Int) <(p5.length:Int)) (fun h2=>?_) fun h2=>?_
 ·
  refine jd 10 [1] ?_
  obtain⟨x24,UE⟩:=zG p5 i
  refine jq vi 1 Zd UE ?_
  obtain⟨l25,US,h25⟩:=iV.get UE
  obtain baa:=hn1.2 _ (zL US)
  obtain⟨aYi,aYh,aYc,aYg,rfl,aYe,aYf,aYd⟩:=h25
  refine jl 0 (Zc _ _ UE)<|jd 4 [0] ?_
  obtain⟨D5,tF⟩:=zG wsU i
  refine jq quc 1 quh tF ?_
  obtain⟨l31,atP,h31⟩:=agl.get tF
  obtain aZ9:=hn1.2 _ (zL atP)
  obtain⟨aX0,aXZ,aXU,aXY,rfl,aXW,aXX,aXV⟩:=h31
  refine jl 0 (qul _ _ tF)<|zD 3<|js 33 (!decide ((l25.length:Int)=(l31.length:Int))) (fun h3=>?_) (fun h3=>?_)
  ·
   replace h3:=of_decide_eq_false (by simpa using h3)
   exfalso;rw[jm US atP] at h3;omega
  replace h3:=of_decide_eq_true (by simpa using h3)
  refine zD 3 ?_
  have A5:l31.length=l25.length:=by rw[jm US atP]
  refine zD 4<|fX [1,1,0,1,0,0,1,0,0,1,1,0,0] [K1] (fun(zz:Nat)=>[(2,zP b2),(3,zP b3),(5,zI (i:Int)),(6,zI (zz:Int))]) (fun zz=>[.b b3 (.cells ⟨[.slice qua wsU.length quc]⟩ 24 (0,0)),.b b2 (.cells ⟨[.slice xp p5.length vi]⟩ 24 (0,0))]) (fun zz=>zz≤l25.length) (fun zz=>l25.length-zz) 0 (Nat.zero_le _) [0,1] ?_
  rintro j hJj K2 oy rest
  refine jd 7 [1] ?_
  obtain⟨x38,Dd⟩:=zG p5 i
  refine jq vi 1 Zd Dd ?_
  obtain⟨l39,afS,h39⟩:=iV.get Dd
  obtain⟨ay0,aLb,aK9,ary,rfl,aLa,ayZ,ayY⟩:=h39
  refine jl 0 (Zc _ _ Dd)<|zD 3<|zJ 41 ((j:Int) <(l39.length:Int)) (fun h4=>?_) fun h4=>?_
  ·
   have aNP:l39.length=l25.length:=by rw[jm afS US]
   refine jd 9 [1] ?_
   obtain⟨x47,Jg⟩:=zG p5 i
   refine jq vi 1 Zd Jg ?_
   obtain⟨l48,aCJ,h48⟩:=iV.get Jg
   obtain aZq:l48.length=l25.length:=by rw[jm aCJ US]
   obtain⟨aXT,aXS,aXQ,aK3,rfl,aXR,aK2,aK1⟩:=h48
   refine jl 0 (Zc _ _ Jg)<|zD 1 ?_
   obtain⟨x50,UD⟩:=zG l48 j
   refine jq aK3 2 aK2 UD<|jl 0 (aK1 _ _ UD)<|jd 3 [0] ?_
   obtain⟨x55,asX⟩:=zG wsU i
   refine jq quc 1 quh asX ?_
   obtain⟨l56,aac,h56⟩:=agl.get asX
   obtain aZp:l56.length=l25.length:=by rw[jm aac US]
   obtain⟨aKQ,aKP,aKN,arx,rfl,aKO,arw,arv⟩:=h56
   refine jl 0 (qul _ _ asX)<|zD 1 ?_
   obtain⟨tR,QK⟩:=zG l56 j
   refine jq arx 2 arw QK<|jl 0 (arv _ _ QK)<|jne Zs (Lj x50.n x50.l tR.n tR.l)<|zD 1<|js 60 (!(x50.n==tR.n&&(x50.l==tR.l&&true))) (fun h5=>?_) (fun h5=>?_)
   ·
    try simp only[zB] at h5
    exfalso;have e:=jm aCJ aac;subst e;have e2:=jm UD QK;subst e2;simp at h5
   try simp only[zB] at h5
   refine zD 4<|zW ((j:Int)+1)<|zD 2<|zY oy (j+1) (by omega) [0,1]
  have aNP:l39.length=l25.length:=by rw[jm afS US]
  refine zD 4<|zW ((i:Int)+1)<|zD 2<|zY cz (i+1) (by omega) [0,1]
 refine zD 7<|zX (.bool true) ⟨rfl,rfl⟩
theorem aqr{vT wT:Value}{S:List (List az)}{W:List (List cE)}{fa ga:Option Addr}{fc gc:Nat}(hS:bU ro vS S)(hT:lG ro vT W)(hU:bU ro wS S)(hW:lG ro wT W)(hn1:S.length≤100∧∀l∈S,l.length≤100)(hn2:W.length≤100∧∀l∈W,l.length≤100):eR zT 76 [.agg ⟨[vS,vT,.slice fa 0 fc]⟩,.agg ⟨[wS,wT,.slice ga 0 gc]⟩] ro (.bool true):=by
 obtain⟨mQ,ht,kz⟩:=hT
 obtain⟨wsW,hw,Rj⟩:=hW
 obtain⟨iZ,I9,I7,gk,rfl,I8,xo,xm⟩:=ht
 obtain⟨E5,qwb,qwo,A2,rfl,qwk,TE,TD⟩:=hw
 have hn4:=hn2.1
 have y6:=kz.len
 have hl4:=Rj.len
 have qzl:∀(i:Nat) (p:iD),([]:List iD)[i]?=some p→da ⟨ro,[]⟩ 0 (0+i*6) 6 (rG p):=fun _ _ h=>wz h
 refine zE<|zD 2<|jn fun b2=>jn fun b3=>jd 9 [1,0]<|jp (vs:=[.agg ⟨[vS]⟩,.agg ⟨[wS]⟩]) [] [] (fun aV hs hZ=>aqt (hS.up hs) (hU.up hs) hn1)<|jd 11 [1,0]<|js 22 (!decide ((mQ.length:Int)=(wsW.length:Int))) (fun h1=>?_) (fun h1=>?_)
 ·
  have qh:=h1
  replace qh:=of_decide_eq_false (by simpa using qh)
  exfalso;omega
 have qh:=h1
 replace qh:=of_decide_eq_true (by simpa using qh)
 refine jd 17 [1,0]<|fX [1,1,0,1,0,0] [] (fun(zz:Nat)=>[(2,zP b2),(3,zP b3),(5,zI (zz:Int))]) (fun zz=>[.b b3 (.cells ⟨[wS,.slice E5 wsW.length A2,.slice ga 0 gc]⟩ 28 (0,0)),.b b2 (.cells ⟨[vS,.slice iZ mQ.length gk,.slice fa 0 fc]⟩ 28 (0,0))]) (fun zz=>zz≤mQ.length) (fun zz=>mQ.length-zz) 0 (Nat.zero_le _) [0,1] ?_
 rintro i hIi K1 cz rest
 refine jd 9 [1]<|zJ 35 ((i:Int) <(mQ.length:Int)) (fun h2=>?_) fun h2=>?_
 ·
  refine jd 9 [1] ?_
  obtain⟨x41,Fb⟩:=zG mQ i
  refine jq gk 1 xo Fb<|zD 1 ?_
  obtain⟨l43,aCK,h43⟩:=kz.get Fb
  obtain aZ7:=hn2.2 _ (zL aCK)
  obtain⟨ayX,aK8,aK4,ayW,rfl,aK6,aK7,aK5⟩:=h43
  refine jl 0 (xm _ _ Fb)<|jd 3 [0] ?_
  obtain⟨x47,Jg⟩:=zG wsW i
  refine jq A2 1 TE Jg<|zD 1 ?_
  obtain⟨l49,aCI,h49⟩:=Rj.get Jg
  obtain aZ6:=hn2.2 _ (zL aCI)
  obtain⟨ayV,aK0,aKW,ayU,rfl,aKY,aKZ,aKX⟩:=h49
  refine jl 0 (TD _ _ Jg)<|jp (vs:=[.slice ayX l43.length ayW,.slice ayV l49.length ayU]) [] [] (fun aV hs hZ=>(by have e:=jm aCK aCI;subst e;exact aqu ((show cD _ _ _ _ _ from ⟨ayX,aK8,aK4,ayW,rfl,aK6,aK7,aK5⟩).up hs) ((show cD _ _ _ _ _ from ⟨ayV,aK0,aKW,ayU,rfl,aKY,aKZ,aKX⟩).up hs) (by omega))) ?_
  refine zD 6<|zW ((i:Int)+1)<|zD 2<|zY cz (i+1) (by omega) [0,1]
 refine zD 8<|fX [1,1,1,0,1,0,0] [] (fun(zz:Nat)=>[(2,zP b2),(3,zP b3),(6,zI (zz:Int))]) (fun zz=>[.b b3 (.cells ⟨[wS,.slice E5 wsW.length A2,.slice ga 0 gc]⟩ 28 (0,0)),.b b2 (.cells ⟨[vS,.slice iZ mQ.length gk,.slice fa 0 fc]⟩ 28 (0,0))]) (fun zz=>zz≤0) (fun zz=>1-zz) 0 (Nat.zero_le _) [0,1] ?_
 rintro o hI K2 oy rest
 refine jd 9 [1]<|zJ 56 ((o:Int) <0) (fun h3=>?_) fun h3=>?_
 ·
  exfalso;omega
 refine zD 7<|zX (.bool true) ⟨rfl,rfl⟩
theorem Mi{m:List Value}{K:cm}(hK:du ro l K)(hM:du ro m K)(hC:JN K):eR zT 24 [.agg ⟨l⟩,.agg ⟨m⟩] ro (.bool true):=by
 obtain⟨vS,vT,vP,vR,vE,fa,fc,rfl,hS,hT,hP,hR,he⟩:=hK
 obtain⟨wS,wT,wP,wR,wE,ga,gc,rfl,iS,iT,iP,iR,hg⟩:=hM
 obtain⟨dS,uY,uW,dM,rfl,uX,rX,rW⟩:=he
 obtain⟨qga,qgb,qgo,qgc,rfl,qgk,qgh,qgl⟩:=hg
 have OJ:=hC.rules.1
 have y6:=hC.ar.1
 have hl3:=hC.ax.1
 have hn1:K.str.length≤100∧∀l∈K.str,l.length≤100:=⟨by rw[hC.qv.two];decide,fun l hl=>by have:=hC.qv.len l hl;omega⟩
 have hn2:K.ways.length≤100∧∀l∈K.ways,l.length≤100:=⟨by have:=hC.ways.one;omega,fun l hl=>by have:=(hC.ways.ok l hl).1.2;omega⟩
 refine zE<|zD 2<|jn fun b2=>jn fun b3=>jd 9 [1,0]<|jp (vs:=[.agg ⟨[vS,vT,.slice fa 0 fc]⟩,.agg ⟨[wS,wT,.slice ga 0 gc]⟩]) [] [] (fun aV hs hZ=>aqr (hS.up hs) (hT.up hs) (iS.up hs) (iT.up hs) hn1 hn2)<|jd 6 [1,0]<|jp (vs:=[vP,wP]) [] [] (fun aV hs hZ=>aqq (hP.up hs) (iP.up hs) y6)<|jd 7 [1,0]<|jp (vs:=[vR,wR]) [] [] (fun aV hs hZ=>aqs (hR.up hs) (iR.up hs) (by omega))<|jd 8 [1,0]<|jw 33 (.bool false) (show Value.bool (!decide (K.days=K.days))= .bool false by simp)<|jd 7 [1,0]<|jw 40 (.bool false) (show Value.bool (!decide (K.stay=K.stay))= .bool false by simp)<|jd 9 [1,0]<|jw 49 (.bool false) (show Value.bool (!decide ((K.ax.length:Int)=(K.ax.length:Int)))= .bool false by simp)<|zD 10<|fX [1,1,0,1,0,0] [] (fun(zz:Nat)=>[(2,zP b2),(3,zP b3),(5,zI (zz:Int))]) (fun zz=>[.b b3 (.cells ⟨[wS,wT,.slice ga 0 gc,wP,wR,zI K.days,zI K.stay,.slice qga K.ax.length qgc]⟩ 33 (0,0)),.b b2 (.cells ⟨[vS,vT,.slice fa 0 fc,vP,vR,zI K.days,zI K.stay,.slice dS K.ax.length dM]⟩ 33 (0,0))]) (fun zz=>zz≤K.ax.length) (fun zz=>K.ax.length-zz) 0 (Nat.zero_le _) [0,1] ?_
 rintro i hIi K1 cz rest
 refine jd 9 [1]<|zJ 55 ((i:Int) <(K.ax.length:Int)) (fun h1=>?_) fun h1=>?_
 ·
  refine jd 9 [1] ?_
  obtain⟨Sz,UC⟩:=zG K.ax i
  refine jq dM 7 rX UC<|jl 0 (rW _ _ UC)<|jd 3 [0] ?_
  obtain⟨JQ,ZP⟩:=zG K.ax i
  refine jq qgc 7 qgh ZP<|jl 0 (qgl _ _ ZP)<|jne arO (amz Sz.name Sz.st Sz.no Sz.lt Sz.late Sz.low Sz.high JQ.name JQ.st JQ.no JQ.lt JQ.late JQ.low JQ.high)<|zD 1<|js 68 (!(Sz.name==JQ.name&&((Sz.st==JQ.st&&((Sz.no==JQ.no&&(Sz.lt==JQ.lt&&true))&&true))&&(Sz.late==JQ.late&&(Sz.low==JQ.low&&(Sz.high==JQ.high&&(true))))))) (fun h2=>?_) (fun h2=>?_)
  ·
   exfalso;have e:=jm UC ZP;subst e;simp at h2
  refine zD 4<|zW ((i:Int)+1)<|zD 2<|zY cz (i+1) (by omega) [0,1]
 refine zD 7<|zX (.bool true) ⟨rfl,rfl⟩
def Pd(s:ByteArray)(n d:Int):bH:=⟨s,0,n,0,false,d,d⟩
def gP:ByteArray:=bs [97,110,110,97]
def ij:ByteArray:=bs [98,101,110]
def aE9:ByteArray:=bs [99,121,100]
def aX(more:List bH):cm:=⟨[[⟨1,0⟩,⟨2,0⟩]],[[⟨1,0,0,0,0,0,0⟩,⟨2,0,0,0,0,0,0⟩]],[gP,ij],[],2,1,[Pd gP 1 0,⟨ij,0,1,0,true,1,1⟩]++more⟩
theorem avy:eR zT 44 [zI n] ro (.agg ⟨[zI 0,zI n,zI 0]⟩):=by
 refine zE<|zD 2<|jn fun b2=>jd 9 [0]<|zR (.agg ⟨[zI 0,zI n,zI 0]⟩) [0] [] [] ⟨rfl,rfl⟩
theorem sS{s:ByteArray}{d:Int}:eR zT 12 [.string s,zI n,zI d] ro (.agg ⟨[.string s,zI 0,zI n,zI 0,.bool false,zI d,zI d]⟩):=by
 refine zE<|zD 2<|jn fun b6=>zD 5<|jp (vs:=[zI n]) [] [] (fun aV hs hZ=>avy)<|jd 6 [0]<|zR (.agg ⟨[.string s,zI 0,zI n,zI 0,.bool false,zI d,zI d]⟩) [0] [] [] ⟨rfl,rfl⟩
theorem S9{b c:Nat}(h1:ro c=some (.cells ⟨[zI 1,zI 0,zI 2,zI 0]⟩ 39 (0,0)))(h2:ro b=some (.cells ⟨[.slice (some ⟨c,0,none⟩) 2 2]⟩ 90 (0,0))):bU ro (.slice (some ⟨b,0,none⟩) 1 1) [[⟨1,0⟩,⟨2,0⟩]]:=
 ⟨[.slice (some ⟨c,0,none⟩) 2 2],bM [_] h2 (fun _ _=>rfl),.cons (bM [(⟨1,0⟩:az),⟨2,0⟩] h1 (fun _ _=>rfl)) .nil⟩
theorem Tb{b c:Nat}(h1:ro c=some (.cells ⟨[zI 1,zI 0,zI 0,zI 0,zI 0,zI 0,zI 0,zI 2,zI 0,zI 0,zI 0,zI 0,zI 0,zI 0]⟩ 92 (0,0)))(h2:ro b=some (.cells ⟨[.slice (some ⟨c,0,none⟩) 2 2]⟩ 82 (0,0))):lG ro (.slice (some ⟨b,0,none⟩) 1 1) [[⟨1,0,0,0,0,0,0⟩,⟨2,0,0,0,0,0,0⟩]]:=
 ⟨[.slice (some ⟨c,0,none⟩) 2 2],bM [_] h2 (fun _ _=>rfl),.cons (bM [(⟨1,0,0,0,0,0,0⟩:cE),⟨2,0,0,0,0,0,0⟩] h1 (fun _ _=>rfl)) .nil⟩
def avU(ro:Nat→Option Obj)(bS bT:Nat)(a:Option Addr)(n c:Nat)(more:List bH):Prop:=bU ro (.slice (some ⟨bS,0,none⟩) 1 1) (aX more).str∧lG ro (.slice (some ⟨bT,0,none⟩) 1 1) (aX more).ways∧cD ro (.slice a n c) 7 nf (aX more).ax
def aAo(bS bT bP:Nat)(a:Option Addr)(n c:Nat):List Value:=[.slice (some ⟨bS,0,none⟩) 1 1,.slice (some ⟨bT,0,none⟩) 1 1,zS,.slice (some ⟨bP,0,none⟩) 2 2,zS,zI 2,zI 1,.slice a n c]
theorem avU.Ui{bS bT bP:Nat}{a:Option Addr}{n c:Nat}{more:List bH}(h:avU ro bS bT a n c more)(hP:ro bP=some (.cells ⟨[.string gP,.string ij]⟩ 9 (0,0))):du ro (aAo bS bT bP a n c) (aX more):=
 ⟨_,_,_,_,_,none,0,rfl,h.1,h.2.1,bM [gP,ij] hP (fun _ _=>rfl),cD.nil _ _ _ _ _,h.2.2⟩
theorem lE{more:List bH}(hm:cD ro v 7 nf more)(hn:more.length≤3):dX zT 9 [v] ro [] (fun r Y=>∃bS bT bP a n c Z,r= .agg ⟨aAo bS bT bP a n c⟩∧Y=(bP,.cells ⟨[.string gP,.string ij]⟩ 9 (0,0))::Z∧∀aR,Knows aR Z→avU aR bS bT a n c more):=by
 obtain⟨qma,qmb,qmo,qmc,rfl,qmk,qmh,qml⟩:=hm
 refine zE<|zD 2<|jn fun b2=>zD 5<|jn fun b7=>jn fun b8=>zD 3<|jn fun wK=>zD 1<|jn fun b14=>zD 1<|jn fun b3=>jd 4 [0]<|jp (vs:=[.string (bs [98,101,110]),zI 1,zI 1]) [] [] (fun aV hs hZ=>sS)<|jn fun b4=>jd 12 [0,0,1,0]<|jp (vs:=[.string (bs [97,110,110,97]),zI 1,zI 0]) [] [] (fun aV hs hZ=>sS)<|jls [1,4] ⟨fun z1 t2 AN=>?_,fun z4 t5 hL6=>?_,trivial⟩
 ·
  refine jn fun DN=>iv AN (zN 1 7)<|dV 4 fun aID aJJ hL7=>jn fun b22=>iv hL7 (zN 1 8)<|dV 6 fun ai1 ajn hL8=>wD (sz:=7) (ps:=[(⟨(bs [97,110,110,97]),0,1,0,false,0,0⟩:bH),(⟨(bs [98,101,110]),0,1,0,true,1,1⟩:bH)]) (qs:=more) (enc:=nf) (w:= .slice qma more.length qmc) [0] [] [] (mE (b:=b22) (T:=43) [(⟨(bs [97,110,110,97]),0,1,0,false,0,0⟩:bH),(⟨(bs [98,101,110]),0,1,0,true,1,1⟩:bH)] rfl (by intro p hp;rfl)) (fun s he _=>⟨qma,qmb,qmo,qmc,rfl,qmh,fun i p hp=>(qml i p hp).ext he⟩) (fun p _=>aP rfl) (by simp only[List.length_cons,List.length_nil];omega) (fun v24 L24 xI=>?_)
  obtain⟨S0,SX,Nr⟩:=xI.form
  subst Nr
  refine wC hL8 [[3]]<|zD 1<|dV 8 fun axm aya hL9=>jd 1 [8]<|IJ hL9<|zD 2<|zR (.agg ⟨[.slice (some ⟨b8,0,none⟩) 1 1,.slice (some ⟨b14,0,none⟩) 1 1,zS,.slice (some ⟨DN,0,none⟩) 2 2,zS,zI 2,zI 1,(.slice S0 (([(⟨(bs [97,110,110,97]),0,1,0,false,0,0⟩:bH),(⟨(bs [98,101,110]),0,1,0,true,1,1⟩:bH)]++more)).length SX)]⟩) [8] [1,0,6,7,4,5] ((DN,.cells ⟨[.string (bs [97,110,110,97]),.string (bs [98,101,110])]⟩ 9 (0,0))::(L24++((b8,.cells ⟨[.slice (some ⟨b7,0,none⟩) 2 2]⟩ 90 (0,0))::((b7,.cells ⟨[zI 1,zI 0,zI 2,zI 0]⟩ 39 (0,0))::((b14,.cells ⟨[.slice (some ⟨wK,0,none⟩) 2 2]⟩ 82 (0,0))::[(wK,.cells ⟨[zI 1,zI 0,zI 0,zI 0,zI 0,zI 0,zI 0,zI 2,zI 0,zI 0,zI 0,zI 0,zI 0,zI 0]⟩ 92 (0,0))]))))) ⟨b8,b14,DN,_,_,_,_,rfl,rfl,fun aR hk=>⟨S9 (hk.right _ (.tail _ (.head _))) (hk.right _ (.head _)),Tb (hk.right _ (.tail _ (.tail _ (.tail _ (.head _))))) (hk.right _ (.tail _ (.tail _ (.head _)))),xI.n9 hk.left⟩⟩
 refine jn fun b22=>iv hL6 (zN 1 7)<|jls [1,6] ⟨fun z10 t11 U6=>?_,fun z13 t14 agp=>?_,trivial⟩
 ·
  refine jn fun DN=>iv U6 (zN 1 8)<|dV 6 fun ano anE ago=>wD (sz:=7) (ps:=[(⟨(bs [97,110,110,97]),0,1,0,false,0,0⟩:bH),(⟨(bs [98,101,110]),0,1,0,true,1,1⟩:bH)]) (qs:=more) (enc:=nf) (w:= .slice qma more.length qmc) [1] [] [] (mE (b:=b22) (T:=43) [(⟨(bs [97,110,110,97]),0,1,0,false,0,0⟩:bH),(⟨(bs [98,101,110]),0,1,0,true,1,1⟩:bH)] rfl (by intro p hp;rfl)) (fun s he _=>⟨qma,qmb,qmo,qmc,rfl,qmh,fun i p hp=>(qml i p hp).ext he⟩) (fun p _=>aP rfl) (by simp only[List.length_cons,List.length_nil];omega) (fun v24 L24 xI=>?_)
  obtain⟨S0,SX,Nr⟩:=xI.form
  subst Nr
  refine wC ago [[3]]<|zD 1<|dV 8 fun ann anD U5=>jd 1 [8]<|IJ U5<|zD 2<|zR (.agg ⟨[.slice (some ⟨b8,0,none⟩) 1 1,.slice (some ⟨b14,0,none⟩) 1 1,zS,.slice (some ⟨DN,0,none⟩) 2 2,zS,zI 2,zI 1,(.slice S0 (([(⟨(bs [97,110,110,97]),0,1,0,false,0,0⟩:bH),(⟨(bs [98,101,110]),0,1,0,true,1,1⟩:bH)]++more)).length SX)]⟩) [8] [1,0,6,7,4,5] ((DN,.cells ⟨[.string (bs [97,110,110,97]),.string (bs [98,101,110])]⟩ 9 (0,0))::(L24++((b8,.cells ⟨[.slice (some ⟨b7,0,none⟩) 2 2]⟩ 90 (0,0))::((b7,.cells ⟨[zI 1,zI 0,zI 2,zI 0]⟩ 39 (0,0))::((b14,.cells ⟨[.slice (some ⟨wK,0,none⟩) 2 2]⟩ 82 (0,0))::[(wK,.cells ⟨[zI 1,zI 0,zI 0,zI 0,zI 0,zI 0,zI 0,zI 2,zI 0,zI 0,zI 0,zI 0,zI 0,zI 0]⟩ 92 (0,0))]))))) ⟨b8,b14,DN,_,_,_,_,rfl,rfl,fun aR hk=>⟨S9 (hk.right _ (.tail _ (.head _))) (hk.right _ (.head _)),Tb (hk.right _ (.tail _ (.tail _ (.tail _ (.head _))))) (hk.right _ (.tail _ (.tail _ (.head _)))),xI.n9 hk.left⟩⟩
 refine wD (sz:=7) (ps:=[(⟨(bs [97,110,110,97]),0,1,0,false,0,0⟩:bH),(⟨(bs [98,101,110]),0,1,0,true,1,1⟩:bH)]) (qs:=more) (enc:=nf) (w:= .slice qma more.length qmc) [0] [] [] (mE (b:=b22) (T:=43) [(⟨(bs [97,110,110,97]),0,1,0,false,0,0⟩:bH),(⟨(bs [98,101,110]),0,1,0,true,1,1⟩:bH)] rfl (by intro p hp;rfl)) (fun s he _=>⟨qma,qmb,qmo,qmc,rfl,qmh,fun i p hp=>(qml i p hp).ext he⟩) (fun p _=>aP rfl) (by simp only[List.length_cons,List.length_nil];omega) (fun v24 L24 xI=>?_)
 obtain⟨S0,SX,Nr⟩:=xI.form
 subst Nr
 refine wC agp [[2]]<|dV 1 fun aTo aUa aQX=>jn fun DN=>iv aQX (zN 1 8)<|zD 1<|dV 8 fun aTn aT9 aQW=>jd 1 [8]<|IJ aQW<|zD 2<|zR (.agg ⟨[.slice (some ⟨b8,0,none⟩) 1 1,.slice (some ⟨b14,0,none⟩) 1 1,zS,.slice (some ⟨DN,0,none⟩) 2 2,zS,zI 2,zI 1,(.slice S0 (([(⟨(bs [97,110,110,97]),0,1,0,false,0,0⟩:bH),(⟨(bs [98,101,110]),0,1,0,true,1,1⟩:bH)]++more)).length SX)]⟩) [8] [0,1,6,7,4,5] ((DN,.cells ⟨[.string (bs [97,110,110,97]),.string (bs [98,101,110])]⟩ 9 (0,0))::(L24++((b8,.cells ⟨[.slice (some ⟨b7,0,none⟩) 2 2]⟩ 90 (0,0))::((b7,.cells ⟨[zI 1,zI 0,zI 2,zI 0]⟩ 39 (0,0))::((b14,.cells ⟨[.slice (some ⟨wK,0,none⟩) 2 2]⟩ 82 (0,0))::[(wK,.cells ⟨[zI 1,zI 0,zI 0,zI 0,zI 0,zI 0,zI 0,zI 2,zI 0,zI 0,zI 0,zI 0,zI 0,zI 0]⟩ 92 (0,0))]))))) ⟨b8,b14,DN,_,_,_,_,rfl,rfl,fun aR hk=>⟨S9 (hk.right _ (.tail _ (.head _))) (hk.right _ (.head _)),Tb (hk.right _ (.tail _ (.tail _ (.tail _ (.head _))))) (hk.right _ (.tail _ (.tail _ (.head _)))),xI.n9 hk.left⟩⟩
abbrev eB1:bH:=Pd ij 1 0
abbrev oR:bH:=Pd ij 2 0
abbrev eB3:bH:=Pd ij 3 0
abbrev eC1:bH:=Pd aE9 1 0
abbrev kTw:cm:={aX [] with ar:=[gP,bs [65,78,78,65]]}
abbrev kDy:cm:={aX [] with days:=3,stay:=4}
abbrev ah8(K:cm):Int:=allM K.ax.length
theorem T4:gB gP:=⟨⟨by decide,by decide⟩,.inl (show ∀b∈([97,110,110,97]:List UInt8),Ay b=true by decide)⟩
theorem As:gB ij:=⟨⟨by decide,by decide⟩,.inl (show ∀b∈([98,101,110]:List UInt8),Ay b=true by decide)⟩
theorem arR:gB aE9:=⟨⟨by decide,by decide⟩,.inl (show ∀b∈([99,121,100]:List UInt8),Ay b=true by decide)⟩
theorem arS:gB (bs [65,78,78,65]):=⟨⟨by decide,by decide⟩,.inr (show ∀b∈([65,78,78,65]:List UInt8),E6 b=true by decide)⟩
theorem azp:eG [[⟨1,0⟩,⟨2,0⟩]] where
 two:=rfl
 len:=by simp
 ok:=by simp[B8]
 asc:=by simp[aka]
theorem axC:s7 [[⟨1,0,0,0,0,0,0⟩,⟨2,0,0,0,0,0,0⟩]]:=⟨by simp,by simp[iE]⟩
theorem akN{more:List bH}{ps:List ByteArray}{d s:Int}(hp:ps.length≤1000∧∀w∈ps,gB w)(hm:more.length≤3∧∀x∈more,gB x.name):JN {aX more with ar:=ps,days:=d,stay:=s} where
 qv:=azp
 ways:=axC
 rules:=⟨by simp[aX],by simp[aX]⟩
 ar:=hp
 ax:=⟨by simp[aX];omega,fun x hx=>by
  simp only[aX,List.cons_append,List.nil_append,List.mem_cons] at hx
  rcases hx with rfl|rfl|hx
  ·exact T4
  ·exact As
  exact hm.2 x hx⟩
theorem arB:([gP,ij]:List ByteArray).length≤1000∧∀w∈[gP,ij],gB w:=⟨by decide,fun w hw=>by
 simp only[List.mem_cons,List.not_mem_nil,or_false] at hw
 rcases hw with rfl|rfl
 ·exact T4
 exact As⟩
theorem FJ{x:bH}(h:gB x.name): [x].length≤3∧∀y∈[x],gB y.name:=⟨by simp,fun y hy=>by rw[List.mem_singleton] at hy;subst hy;exact h⟩
theorem TY:([]:List bH).length≤3∧∀y∈([]:List bH),gB y.name:=⟨by simp,by simp⟩
theorem alH:((aX []).W.all fun w=>(aX []).hs.all fun a=>(aX []).hs.all fun b=> !decide ((aX []).g w a=(aX []).g w b)||decide (a=b))=true:=by kernel_rfl
theorem aMW{more:List bH}:∀w∈(aX more).W,ail (aX more).hs ((aX more).g w):=fun w hw a ha b hb he=>by
 have h:=List.all_eq_true.1 (List.all_eq_true.1 (List.all_eq_true.1 alH w hw) a ha) b hb
 have IT:(aX []).g w a=(aX []).g w b:=he
 rw[decide_eq_true IT] at h
 simpa using h
theorem akM{more:List bH}(hm:more.length≤3∧∀x∈more,gB x.name)(he:mG (aX more)=0)(hn:Nat.ble (iy (aX more) (ah8 (aX more))).length 1000000=true):kV (aX more) where
 c:=akN arB hm
 e:=he
 h3:=show (aX []).hs.length≤3 from Nat.le_of_ble_eq_true (by kernel_rfl)
 inj:=aMW
 n:=Nat.le_of_ble_eq_true hn
theorem OE:kV (aX []):=akM TY (by kernel_rfl) (by kernel_rfl)
theorem asH:kV (aX [eB1]):=akM (FJ As) (by kernel_rfl) (by kernel_rfl)
theorem ZH:kV (aX [oR]):=akM (FJ As) (by kernel_rfl) (by kernel_rfl)
theorem aBd:kV (aX [eC1]):=akM (FJ arR) (by kernel_rfl) (by kernel_rfl)
theorem aMC:mG (aX [eB3])=3:=by kernel_rfl
theorem aMz:mG kTw=4:=by kernel_rfl
theorem aMB:mG kDy=1:=by kernel_rfl
abbrev L0:List aH:=iy (aX []) (ah8 (aX []))
theorem akT:L0.length=8:=by kernel_rfl
theorem aAv:(iy (aX [oR]) (ah8 (aX [oR]))).length=4:=by kernel_rfl
theorem aoo:(iy (aX [eB1]) (ah8 (aX [eB1]))).isEmpty=true:=by kernel_rfl
theorem aAu:(iy (aX [eC1]) (ah8 (aX [eC1]))).isEmpty=true:=by kernel_rfl
section
variable {ro:Nat→Option Obj} {l:List Value}
theorem Bp{a:Int}(h:zs.Perm [a]):nJ zs=[a]:=by rw[GI h];rfl
theorem acw(h:zs.Perm [0,1]):nJ zs=[0,1]:=by rcases yu h with e|e<;>rw[e]<;>rfl
theorem Gl(h:zs.Perm [-1,0,1]):nJ zs=[-1,0,1]:=by rcases TP h with e|e|e|e|e|e<;>rw[e]<;>rfl
abbrev rN(f:FuncId)(vs:List Value)(ro:Nat→Option Obj)(ds:List Int):Prop:=EY zT f vs ro [] (fun r Y=>∃v,r= .tuple ⟨[v,zI 0]⟩∧aK v 1 3 dc ds Y)
abbrev JJ(f:FuncId)(vs:List Value)(ro:Nat→Option Obj)(v:Value):Prop:=EY zT f vs ro [] (fun r Y=>r=v∧Y=[])
theorem aKC(hK:du ro l (aX [])):JJ (f:=25) [.agg ⟨l⟩] ro (.tuple ⟨[zI 8,zI 0]⟩):=(Qy hK OE).mono fun _ _ h=>⟨by rw[h.1,show ((iy (aX []) (allM (aX []).ax.length)).length:Int)=8 by rw[akT];rfl],h.2⟩
theorem WB(hK:du ro l (aX [oR])):JJ (f:=25) [.agg ⟨l⟩] ro (.tuple ⟨[zI 4,zI 0]⟩):=(Qy hK ZH).mono fun _ _ h=>⟨by rw[h.1,show ((iy (aX [oR]) (allM (aX [oR]).ax.length)).length:Int)=4 by rw[aAv];rfl],h.2⟩
theorem Et:0 <(iy (aX []) (allM (aX []).ax.length)).length:=by rw[akT];decide
theorem MI(hK:du ro l (aX []))(hp:p <2)(hd:d <2)(Jw:ET (fun t=>(t.at p).at d) L0 ds)(hdl:ds.length≤12)(hs:∀zs:List Int,zs.Perm ds→nJ zs=ds):rN (f:=13) [.agg ⟨l⟩,zI (p:Int),zI (d:Int)] ro ds:=
 (akX hK OE hp (show (d:Int) <2 by omega) Et Jw hdl).mono fun _ _ ⟨v,zs,h1,h2,h3⟩=>⟨v,h1,by rw[←hs zs h2];exact h3⟩
theorem Zf(hK:du ro l (aX [])):rN (f:=13) [.agg ⟨l⟩,zI 1,zI 1] ro [0,1]:=MI (p:=1) (d:=1) hK (by decide) (by decide) ⟨by decide,by kernel_rfl,by kernel_rfl⟩ (by decide) fun _=>acw
theorem Zh(hK:du ro l (aX [])):rN (f:=13) [.agg ⟨l⟩,zI 0,zI 0] ro [0]:=MI (p:=0) (d:=0) hK (by decide) (by decide) ⟨by decide,by kernel_rfl,by kernel_rfl⟩ (by decide) fun _=>Bp
theorem Zg(hK:du ro l (aX [])):rN (f:=13) [.agg ⟨l⟩,zI 0,zI 1] ro [-1,0,1]:=MI (p:=0) (d:=1) hK (by decide) (by decide) ⟨by decide,by kernel_rfl,by kernel_rfl⟩ (by decide) fun _=>Gl
theorem an3(hK:du ro l (aX []))(hp:p <2)(hd:d <2)(Jw:ET (fun t=>AO 2 t (p:Int) d) L0 ds)(hdl:ds.length≤12)(hs:∀zs:List Int,zs.Perm ds→nJ zs=ds):rN (f:=14) [.agg ⟨l⟩,zI (p:Int),zI (d:Int)] ro ds:=
 (aAz hK OE (show p <(aX []).hs.length from Nat.lt_of_lt_of_le hp (Nat.le_of_ble_eq_true (by kernel_rfl))) (show (d:Int) <2 by omega) Et Jw hdl).mono fun _ _ ⟨v,zs,h1,h2,h3⟩=>⟨v,h1,by rw[←hs zs h2];exact h3⟩
theorem ajZ(hK:du ro l (aX [])):rN (f:=14) [.agg ⟨l⟩,zI 0,zI 1] ro [-1,0,1]:=an3 (p:=0) (d:=1) hK (by decide) (by decide) ⟨by decide,by kernel_rfl,by kernel_rfl⟩ (by decide) fun _=>Gl
theorem aj0(hK:du ro l (aX [])):rN (f:=14) [.agg ⟨l⟩,zI 0,zI 0] ro [0]:=an3 (p:=0) (d:=0) hK (by decide) (by decide) ⟨by decide,by kernel_rfl,by kernel_rfl⟩ (by decide) fun _=>Bp
theorem anv:OX ((iy (aX []) (allM (aX []).ax.length)).length:Int)=0:=by rw[akT];rfl
theorem V1{h y:Int}(hK:du ro l (aX []))(hp:p <2)(hd:d <2)(hh: -1≤h∧h <2)(hv:Mj (pY (fun t=>decide ((t.at p).at d=h)) L0) (L0.length:Int)=y):JJ (f:=16) [.agg ⟨l⟩,zI (p:Int),zI h,zI (d:Int)] ro (.tuple ⟨[zI y,zI 0]⟩):=
 (ash hK OE hp (show (d:Int) <2 by omega) ⟨hh.1,show h <((aX []).hs.length:Int) from Int.lt_of_lt_of_le hh.2 (Int.ofNat_le.2 (Nat.le_of_ble_eq_true (by kernel_rfl)))⟩).mono fun _ _ h=>⟨by rw[h.1,anv];exact congrArg (fun z=>Value.tuple ⟨[zI z,zI 0]⟩) hv,h.2⟩
theorem aru{k:Nat}{a b c:Int}(hK:du ro l (aX []))(h1:([0,1,1,1]:List Int)[k]?=some a) (h2:([0,0,0,-1]:List Int)[k]?=some b) (h3:([0,1,0,1]:List Int)[k]?=some c):EY zT 16 [.agg ⟨l⟩,zI a,zI b,zI c] ro [] (fun r Y=>(∃y,([1,3,2,2]:List Int)[k]?=some y∧r= .tuple ⟨[zI y,zI 0]⟩)∧Y=[]):=by
 match k,h1,h2,h3 with
 |0,h1,h2,h3=>cases h1;cases h2;cases h3;exact(V1 (p:=0) (d:=0) (h:=0) (y:=1) hK (by decide) (by decide) (by decide) (by kernel_rfl)).mono fun _ _ h=>⟨⟨_,rfl,h.1⟩,h.2⟩
 |1,h1,h2,h3=>cases h1;cases h2;cases h3;exact(V1 (p:=1) (d:=1) (h:=0) (y:=3) hK (by decide) (by decide) (by decide) (by kernel_rfl)).mono fun _ _ h=>⟨⟨_,rfl,h.1⟩,h.2⟩
 |2,h1,h2,h3=>cases h1;cases h2;cases h3;exact(V1 (p:=1) (d:=0) (h:=0) (y:=2) hK (by decide) (by decide) (by decide) (by kernel_rfl)).mono fun _ _ h=>⟨⟨_,rfl,h.1⟩,h.2⟩
 |3,h1,h2,h3=>cases h1;cases h2;cases h3;exact(V1 (p:=1) (d:=1) (h:= -1) (y:=2) hK (by decide) (by decide) (by decide) (by kernel_rfl)).mono fun _ _ h=>⟨⟨_,rfl,h.1⟩,h.2⟩
 |n+4,h1,_,_=>simp at h1
theorem ayQ{k:Nat}(hK:du ro l (aX []))(hk:k <2):JJ (f:=17) [.agg ⟨l⟩,zI (k:Int)] ro (.tuple ⟨[.agg ⟨[zI 0,zI 1]⟩,zI 0]⟩):=by
 match k,hk with
 |0,_=>exact W8 (p:=0) (lo:=0) (hi:=1) hK OE (by decide) (by kernel_rfl)
 |1,_=>exact W8 (p:=1) (lo:=0) (hi:=1) hK OE (by decide) (by kernel_rfl)
 |n+2,h=>omega
theorem ql(h:d <2):d <(aX []).hs.length:=Nat.lt_of_lt_of_le h (Nat.le_of_ble_eq_true (by kernel_rfl))
theorem an4{k:Nat}{a b:Int}(hK:du ro l (aX []))(h1:([1,0,1]:List Int)[k]?=some a) (h2:([1,0,0]:List Int)[k]?=some b):EY zT 18 [.agg ⟨l⟩,zI a,zI b] ro [] (fun r Y=>(∃y:Int×Int,([(0,1),(0,0),(1,1)]:List (Int×Int))[k]?=some y∧r= .tuple ⟨[.agg ⟨[zI y.1,zI y.2]⟩,zI 0]⟩)∧Y=[]):=by
 match k,h1,h2 with
 |0,h1,h2=>cases h1;cases h2;exact(M9 (p:=1) (d:=1) (lo:=0) (hi:=1) hK OE (by decide) (ql (by decide)) Et (by kernel_rfl)).mono fun _ _ h=>⟨⟨_,rfl,h.1⟩,h.2⟩
 |1,h1,h2=>cases h1;cases h2;exact(M9 (p:=0) (d:=0) (lo:=0) (hi:=0) hK OE (by decide) (ql (by decide)) Et (by kernel_rfl)).mono fun _ _ h=>⟨⟨_,rfl,h.1⟩,h.2⟩
 |2,h1,h2=>cases h1;cases h2;exact(M9 (p:=1) (d:=0) (lo:=1) (hi:=1) hK OE (by decide) (ql (by decide)) Et (by kernel_rfl)).mono fun _ _ h=>⟨⟨_,rfl,h.1⟩,h.2⟩
 |n+3,h1,_=>simp at h1
theorem aEf{q:Nat}{y:Int}(hK:du ro l (aX []))(hp:p <2)(hq:q <2)(hv:Mj (pY (fun t=>JB 2 t p q 0) L0) (L0.length:Int)=y):JJ (f:=19) [.agg ⟨l⟩,zI 0,zI (p:Int),zI (q:Int)] ro (.tuple ⟨[zI y,zI 0]⟩):=
 (ZE (d:=0) hK OE (ql (by decide)) hp hq).mono fun _ _ h=>⟨by rw[h.1,anv];exact congrArg (fun z=>Value.tuple ⟨[zI z,zI 0]⟩) hv,h.2⟩
theorem aj2(hK:du ro l (aX [])):JJ (f:=19) [.agg ⟨l⟩,zI 0,zI 0,zI 1] ro (.tuple ⟨[zI 3,zI 0]⟩):=aEf (p:=0) (q:=1) hK (by decide) (by decide) (by kernel_rfl)
theorem aj1(hK:du ro l (aX [])):JJ (f:=19) [.agg ⟨l⟩,zI 0,zI 1,zI 0] ro (.tuple ⟨[zI 2,zI 0]⟩):=aEf (p:=1) (q:=0) hK (by decide) (by decide) (by kernel_rfl)
theorem ajX(hK:du ro l (aX [])):rN (f:=20) [.agg ⟨l⟩,zI 1] ro [1]:=(aeJ (p:=1) (ds:=[1]) hK OE Et (by decide) (by show ([1]:List Int)=_;kernel_rfl) (by decide)).mono fun _ _ ⟨v,zs,h1,h2,h3⟩=>⟨v,h1,by rw[←Bp h2];exact h3⟩
theorem ajY(hK:du ro l (aX [])):rN (f:=20) [.agg ⟨l⟩,zI 0] ro [0]:=(aeJ (p:=0) (ds:=[0]) hK OE Et (by decide) (by show ([0]:List Int)=_;kernel_rfl) (by decide)).mono fun _ _ ⟨v,zs,h1,h2,h3⟩=>⟨v,h1,by rw[←Bp h2];exact h3⟩
theorem RL{f:FuncId}{vs:List Value}{ys:List Int}(h:EY zT f vs ro [] (fun r Y=>∃v,r= .tuple ⟨[v,zI 0]⟩∧aK v 1 3 dc xs Y))(e:xs=ys):rN f vs ro ys:=e▸h
theorem ac3(hK:du ro l (aX [])):rN (f:=21) [.agg ⟨l⟩] ro []:=RL (M7 hK OE) (by kernel_rfl)
theorem ac1(hK:du ro l (aX [eC1])):rN (f:=21) [.agg ⟨l⟩] ro [2]:=RL (M7 hK aBd) (by kernel_rfl)
theorem ac2(hK:du ro l (aX [eB1])):rN (f:=21) [.agg ⟨l⟩] ro [0]:=RL (M7 hK asH) (by kernel_rfl)
theorem ac6(hK:du ro l (aX [])):JJ (f:=22) [.agg ⟨l⟩] ro (.tuple ⟨[zS,zI 11]⟩):=ak2 hK OE (by kernel_rfl)
theorem ac5(hK:du ro l (aX [eB1])):rN (f:=22) [.agg ⟨l⟩] ro [0,2]:=RL (Xc hK asH aoo) (by kernel_rfl)
theorem ac4(hK:du ro l (aX [eC1])):rN (f:=22) [.agg ⟨l⟩] ro [2]:=RL (Xc hK aBd aAu) (by kernel_rfl)
theorem ayR(hK:du ro l (aX [])):JJ (f:=42) [.agg ⟨l⟩] ro (.tuple ⟨[zI 0,zI 1,zI 4,zI 0]⟩):=aAM (P:=0) (Q:=1) (R:=4) hK OE Et (by kernel_rfl) (by rw[akT];decide)
theorem ac7(hK:du ro l (aX [])):JJ (f:=23) [.agg ⟨l⟩,.agg ⟨nf eB1⟩] ro (.tuple ⟨[.agg ⟨[zS,zS,zS,zS,zS,zI 0,zI 0,zS]⟩,zI 9]⟩):=aAP hK OE (show kV ((aX []).add eB1) from asH) As (by kernel_rfl) (by decide) (by kernel_rfl) (show (iy ((aX []).add eB1) (allM ((aX []).add eB1).ax.length)).isEmpty=true from aoo)
theorem MJ(hK:du ro l (aX [])):aa9 zT 23 [.agg ⟨l⟩,.agg ⟨nf oR⟩] ro [] (fun r aV Y=>∃l2,r= .tuple ⟨[.agg ⟨l2⟩,zI 0]⟩∧du aV l2 (aX [oR])∧Y=[]):=aAO hK OE (show kV ((aX []).add oR) from ZH) As (by kernel_rfl) (by decide) (by kernel_rfl) (show (iy ((aX []).add oR) (allM ((aX []).add oR).ax.length)).isEmpty=false by kernel_rfl)
end
theorem RQ:∀xs:List Int,eqI xs xs=true
 | []=>rfl
 |x::xs=>by rw[eqI,RQ xs];simp
theorem jI{w:Value}(hv:cD ro v 1 dc xs)(hw:cD ro w 1 dc xs)(hx:xs.length≤1000):eR zT 15 [v,w] ro (.bool true):=by
 have:=aE1 hv hw hx hx
 rwa[RQ] at this
set_option maxHeartbeats 1000000 in
theorem ahR:EY zT 10 [] ro [] (fun r Y=>r= .bool true∧Y=[]):=by
 refine BC aE [] [] bJ fun fr=>zD 6<|jc (vs:=[zS]) [] (lE (more:=[]) (cD.nil _ _ _ _ _) (by decide)) ?_
 rintro _ _ ⟨aFE,aFv,am7,aEW,aEA,aEM,Z14,rfl,rfl,aQa⟩
 refine jg 0 [.b am7 (.cells ⟨[.string gP,.string ij]⟩ 9 (0,0)),.l Z14]<|jf [0,1] ((am7,.cells ⟨[.string gP,.string ij]⟩ 9 (0,0))::Z14) (fun yW cR fe=>?_)
 have aQ6:du yW [.slice (some ⟨aFE,0,none⟩) 1 1,.slice (some ⟨aFv,0,none⟩) 1 1,zS,.slice (some ⟨am7,0,none⟩) 2 2,zS,zI 2,zI 1,.slice aEW aEA aEM] (aX []):=(aQa _ (Knows.tail fe)).Ui (fe _ (.head _))
 refine BE (vs:=[.agg ⟨[(.slice (some ⟨aFE,0,none⟩) 1 1),(.slice (some ⟨aFv,0,none⟩) 1 1),zS,.slice (some ⟨am7,0,none⟩) 2 2,zS,zI 2,zI 1,.slice aEW aEA aEM]⟩]) [] (fun _ _ h=>h) (aKC (aQ6.up (Sub.refl _))) ?_
 rintro _ _ ⟨rfl,rfl⟩
 refine jg 0 []<|zD 8<|jc (vs:=[zS]) [] (lE (more:=[]) (cD.nil _ _ _ _ _) (by decide)) ?_
 rintro _ _ ⟨aFD,aFu,am6,aEV,aEz,aEL,Z19,rfl,rfl,aP9⟩
 refine jg 0 [.b am6 (.cells ⟨[.string gP,.string ij]⟩ 9 (0,0)),.l Z19]<|jf [0,1] ((am6,.cells ⟨[.string gP,.string ij]⟩ 9 (0,0))::Z19) (fun ro6 nz Ck=>?_)
 have aQ5:du ro6 [.slice (some ⟨aFD,0,none⟩) 1 1,.slice (some ⟨aFu,0,none⟩) 1 1,zS,.slice (some ⟨am6,0,none⟩) 2 2,zS,zI 2,zI 1,.slice aEV aEz aEL] (aX []):=(aP9 _ (Knows.tail Ck)).Ui (Ck _ (.head _))
 refine BE (vs:=[.agg ⟨[(.slice (some ⟨aFD,0,none⟩) 1 1),(.slice (some ⟨aFu,0,none⟩) 1 1),zS,.slice (some ⟨am6,0,none⟩) 2 2,zS,zI 2,zI 1,.slice aEV aEz aEL]⟩,zI 1,zI 1]) [] (fun _ _ h=>h) (Zf (aQ5.up (Sub.refl _))) ?_
 rintro _ L20 ⟨v20,rfl,Q5⟩
 obtain⟨S1,SY,UZ⟩:=Q5.form
 subst UZ
 refine zD 8<|jc (vs:=[zS]) [] (lE (more:=[]) (cD.nil _ _ _ _ _) (by decide)) ?_
 rintro _ _ ⟨aFC,aFt,am5,aEU,aEy,aEK,Z24,rfl,rfl,aP8⟩
 refine jg 0 [.b am5 (.cells ⟨[.string gP,.string ij]⟩ 9 (0,0)),.l Z24]<|jf [0,1] ((am5,.cells ⟨[.string gP,.string ij]⟩ 9 (0,0))::Z24) (fun ro9 Ci hk8=>?_)
 have aQ4:du ro9 [.slice (some ⟨aFC,0,none⟩) 1 1,.slice (some ⟨aFt,0,none⟩) 1 1,zS,.slice (some ⟨am5,0,none⟩) 2 2,zS,zI 2,zI 1,.slice aEU aEy aEK] (aX []):=(aP8 _ (Knows.tail hk8)).Ui (hk8 _ (.head _))
 refine BE (vs:=[.agg ⟨[(.slice (some ⟨aFC,0,none⟩) 1 1),(.slice (some ⟨aFt,0,none⟩) 1 1),zS,.slice (some ⟨am5,0,none⟩) 2 2,zS,zI 2,zI 1,.slice aEU aEy aEK]⟩,zI 0,zI 1]) [] (fun _ _ h=>h) (ajZ (aQ4.up (Sub.refl _))) ?_
 rintro _ L25 ⟨v25,rfl,aCp⟩
 obtain⟨aqE,aqz,auj⟩:=aCp.form
 subst auj
 refine zD 8<|jp (vs:=[.string (bs [98,101,110]),zI 1,zI 0]) [] [] (fun aV hs hZ=>sS)<|jn fun b30=>Uu (vs:=[.slice (some ⟨b30,0,none⟩) 1 1]) [] [0] [(b30,.cells ⟨([(⟨(bs [98,101,110]),0,1,0,false,0,0⟩:bH)].map nf).flatten⟩ 43 (0,0))] (fun aV hs hZ=>lE (more:=[(⟨(bs [98,101,110]),0,1,0,false,0,0⟩:bH)]) (bM [(⟨(bs [98,101,110]),0,1,0,false,0,0⟩:bH)] hZ.head (by intro p hp;rfl)) (by decide)) ?_
 rintro _ _ ⟨aFB,aFs,am4,aET,aEx,aEJ,Z31,rfl,rfl,aP7⟩
 refine jg 0 [.b am4 (.cells ⟨[.string gP,.string ij]⟩ 9 (0,0)),.l Z31]<|jf [0,1] ((am4,.cells ⟨[.string gP,.string ij]⟩ 9 (0,0))::Z31) (fun ajI Dg UU=>?_)
 have aQ3:du ajI [.slice (some ⟨aFB,0,none⟩) 1 1,.slice (some ⟨aFs,0,none⟩) 1 1,zS,.slice (some ⟨am4,0,none⟩) 2 2,zS,zI 2,zI 1,.slice aET aEx aEJ] (aX [eB1]):=(aP7 _ (Knows.tail UU)).Ui (UU _ (.head _))
 refine BE (vs:=[.agg ⟨[(.slice (some ⟨aFB,0,none⟩) 1 1),(.slice (some ⟨aFs,0,none⟩) 1 1),zS,.slice (some ⟨am4,0,none⟩) 2 2,zS,zI 2,zI 1,.slice aET aEx aEJ]⟩]) [] (fun _ _ h=>h) (ac2 (aQ3.up (Sub.refl _))) ?_
 rintro _ L32 ⟨v32,rfl,aCn⟩
 obtain⟨aJv,aJb,aPh⟩:=aCn.form
 subst aPh
 refine zD 8<|jc (vs:=[zS]) [] (lE (more:=[]) (cD.nil _ _ _ _ _) (by decide)) ?_
 rintro _ _ ⟨aFy,aFp,am1,aEQ,aEu,aEG,Z36,rfl,rfl,aP6⟩
 refine jg 0 [.b am1 (.cells ⟨[.string gP,.string ij]⟩ 9 (0,0)),.l Z36]<|jf [0,1] ((am1,.cells ⟨[.string gP,.string ij]⟩ 9 (0,0))::Z36) (fun arh ZV Q9=>?_)
 have aQ2:du arh [.slice (some ⟨aFy,0,none⟩) 1 1,.slice (some ⟨aFp,0,none⟩) 1 1,zS,.slice (some ⟨am1,0,none⟩) 2 2,zS,zI 2,zI 1,.slice aEQ aEu aEG] (aX []):=(aP6 _ (Knows.tail Q9)).Ui (Q9 _ (.head _))
 refine BE (vs:=[.agg ⟨[(.slice (some ⟨aFy,0,none⟩) 1 1),(.slice (some ⟨aFp,0,none⟩) 1 1),zS,.slice (some ⟨am1,0,none⟩) 2 2,zS,zI 2,zI 1,.slice aEQ aEu aEG]⟩]) [] (fun _ _ h=>h) (ayR (aQ2.up (Sub.refl _))) ?_
 rintro _ _ ⟨rfl,rfl⟩
 refine jg 0 []<|zD 48<|jn fun b78=>jp (vs:=[(.slice S1 ([0,1]:List Int).length SY),.slice (some ⟨b78,0,none⟩) 2 2]) [4,0] (L20++[(b78,.cells ⟨([0,1].map dc).flatten⟩ 3 (0,0))]) (fun aV hs hZ=>jI (Q5.n9 hZ.left) (bM [0,1] hZ.right.head (by intro p hp;rfl)) (by decide)) ?_
 refine zD 3<|jn fun b83=>jp (vs:=[(.slice aqE ([-1,0,1]:List Int).length aqz),.slice (some ⟨b83,0,none⟩) 3 3]) [4,0] (L25++[(b83,.cells ⟨([(-1),0,1].map dc).flatten⟩ 3 (0,0))]) (fun aV hs hZ=>jI (aCp.n9 hZ.left) (bM [(-1),0,1] hZ.right.head (by intro p hp;rfl)) (by decide)) ?_
 refine zD 3<|jn fun b88=>jp (vs:=[(.slice aJv ([0]:List Int).length aJb),.slice (some ⟨b88,0,none⟩) 1 1]) [3,0] (L32++[(b88,.cells ⟨([0].map dc).flatten⟩ 3 (0,0))]) (fun aV hs hZ=>jI (aCn.n9 hZ.left) (bM [0] hZ.right.head (by intro p hp;rfl)) (by decide)) ?_
 refine zD 4<|Ur qC.a.a.a.a.a (.bool true) [7] [] ((((cR.trans nz).trans Ci).trans Dg).trans ZV) ⟨rfl,rfl⟩
theorem aR9(m:List bH)(hK:du ro l (aX m))(hV:kV (aX m)):dX zT 11 [.agg ⟨l⟩] ro [] (fun r Y=>r= zI 0∧Y=[]):=ak4 hK hV
theorem avx{K:cm}{e:Int}(hK:du ro l K)(hC:JN K)(he:mG K=e)(h0:e≠0):dX zT 11 [.agg ⟨l⟩] ro [] (fun r Y=>r= zI e∧Y=[]):=by
 have:=ak5 hK hC (by rw[he];exact h0)
 rwa[he] at this
theorem aLF:([gP,bs [65,78,78,65]]:List ByteArray).length≤1000∧∀w∈[gP,bs [65,78,78,65]],gB w:=⟨by decide,fun w hw=>by
 simp only[List.mem_cons,List.not_mem_nil,or_false] at hw
 rcases hw with rfl|rfl
 ·exact T4
 exact arS⟩
set_option maxHeartbeats 4000000 in
theorem asm:ap2 zT 3 [] ro (fun r Y=>r= .bool true∧Y=[]):=by
 refine aBg aE (by kernel_rfl) [] bJ fun fr=>zD 6<|jc (vs:=[zS]) [] (lE (more:=[]) (cD.nil _ _ _ _ _) (by decide)) ?_
 rintro _ _ ⟨aFA,aFr,am3,aES,aEw,aEI,Z34,rfl,rfl,auD⟩
 refine jg 0 [.b am3 (.cells ⟨[.string gP,.string ij]⟩ 9 (0,0)),.l Z34]<|jc (vs:=[zS]) [] (lE (more:=[]) (cD.nil _ _ _ _ _) (by decide)) ?_
 rintro _ _ ⟨aFz,aFq,am2,aER,aEv,aEH,Z35,rfl,rfl,auC⟩
 refine jg 0 [.b am2 (.cells ⟨[.string gP,.string ij]⟩ 9 (0,0)),.l Z35]<|jn fun b1=>jn fun b2=>jd 7 [1,0,1]<|jd 13 [4,0,0]<|BE [] (fun _ _ h=>h) (ahR) ?_
 rintro _ _ ⟨rfl,rfl⟩
 refine jg 0 []<|zD 2<|jc (vs:=[zS]) [] (lE (more:=[]) (cD.nil _ _ _ _ _) (by decide)) ?_
 rintro _ _ ⟨aFx,aFo,am0,aEP,aEt,aEF,Z44,rfl,rfl,aP5⟩
 refine jg 0 [.b am0 (.cells ⟨[.string gP,.string ij]⟩ 9 (0,0)),.l Z44]<|jf [0,1] ((am0,.cells ⟨[.string gP,.string ij]⟩ 9 (0,0))::Z44) (fun yW cR fe=>?_)
 have aQ1:du yW [.slice (some ⟨aFx,0,none⟩) 1 1,.slice (some ⟨aFo,0,none⟩) 1 1,zS,.slice (some ⟨am0,0,none⟩) 2 2,zS,zI 2,zI 1,.slice aEP aEt aEF] (aX []):=(aP5 _ (Knows.tail fe)).Ui (fe _ (.head _))
 refine jc (vs:=[.agg ⟨[(.slice (some ⟨aFx,0,none⟩) 1 1),(.slice (some ⟨aFo,0,none⟩) 1 1),zS,.slice (some ⟨am0,0,none⟩) 2 2,zS,zI 2,zI 1,.slice aEP aEt aEF]⟩]) [] (aR9 [] (aQ1.up (Sub.refl _)) OE) ?_
 rintro _ _ ⟨rfl,rfl⟩
 refine jg 0 []<|jd 4 [1]<|jf [4,5] ((am3,.cells ⟨[.string gP,.string (bs [65,78,78,65])]⟩ 9 (0,0))::Z34) (fun ro6 nz Ck=>?_)
 have aQY:du ro6 [.slice (some ⟨aFA,0,none⟩) 1 1,.slice (some ⟨aFr,0,none⟩) 1 1,zS,.slice (some ⟨am3,0,none⟩) 2 2,zS,zI 2,zI 1,.slice aES aEw aEI] kTw:=⟨_,_,_,_,_,none,0,rfl,(auD _ (Knows.tail Ck)).1,(auD _ (Knows.tail Ck)).2.1,bM [gP,bs [65,78,78,65]] (Ck _ (.head _)) (fun _ _=>rfl),cD.nil _ _ _ _ _,(auD _ (Knows.tail Ck)).2.2⟩
 refine jc (vs:=[.agg ⟨[(.slice (some ⟨aFA,0,none⟩) 1 1),(.slice (some ⟨aFr,0,none⟩) 1 1),zS,.slice (some ⟨am3,0,none⟩) 2 2,zS,zI 2,zI 1,.slice aES aEw aEI]⟩]) [] (avx (aQY.up (Sub.refl _)) (akN aLF TY) aMz (by decide)) ?_
 rintro _ _ ⟨rfl,rfl⟩
 refine jg 0 []<|jd 4 [0]<|jf [2,3] ((am2,.cells ⟨[.string gP,.string ij]⟩ 9 (0,0))::Z35) (fun ro9 Ci hk8=>?_)
 have aQZ:du ro9 [.slice (some ⟨aFz,0,none⟩) 1 1,.slice (some ⟨aFq,0,none⟩) 1 1,zS,.slice (some ⟨am2,0,none⟩) 2 2,zS,zI 3,zI 4,.slice aER aEv aEH] kDy:=⟨_,_,_,_,_,none,0,rfl,(auC _ (Knows.tail hk8)).1,(auC _ (Knows.tail hk8)).2.1,bM [gP,ij] (hk8 _ (.head _)) (fun _ _=>rfl),cD.nil _ _ _ _ _,(auC _ (Knows.tail hk8)).2.2⟩
 refine jc (vs:=[.agg ⟨[(.slice (some ⟨aFz,0,none⟩) 1 1),(.slice (some ⟨aFq,0,none⟩) 1 1),zS,.slice (some ⟨am2,0,none⟩) 2 2,zS,zI 3,zI 4,.slice aER aEv aEH]⟩]) [] (avx (aQZ.up (Sub.refl _)) (akN arB TY) aMB (by decide)) ?_
 rintro _ _ ⟨rfl,rfl⟩
 refine jg 0 []<|zD 3<|jp (vs:=[.string (bs [98,101,110]),zI 3,zI 0]) [] [] (fun aV hs hZ=>sS)<|jn fun b60=>Uu (vs:=[.slice (some ⟨b60,0,none⟩) 1 1]) [] [0] [(b60,.cells ⟨([(⟨(bs [98,101,110]),0,3,0,false,0,0⟩:bH)].map nf).flatten⟩ 43 (0,0))] (fun aV hs hZ=>lE (more:=[(⟨(bs [98,101,110]),0,3,0,false,0,0⟩:bH)]) (bM [(⟨(bs [98,101,110]),0,3,0,false,0,0⟩:bH)] hZ.head (by intro p hp;rfl)) (by decide)) ?_
 rintro _ _ ⟨aFw,aFn,amZ,aEO,aEs,aEE,Z61,rfl,rfl,aP4⟩
 refine jg 0 [.b amZ (.cells ⟨[.string gP,.string ij]⟩ 9 (0,0)),.l Z61]<|jf [0,1] ((amZ,.cells ⟨[.string gP,.string ij]⟩ 9 (0,0))::Z61) (fun ajI Dg UU=>?_)
 have aQ0:du ajI [.slice (some ⟨aFw,0,none⟩) 1 1,.slice (some ⟨aFn,0,none⟩) 1 1,zS,.slice (some ⟨amZ,0,none⟩) 2 2,zS,zI 2,zI 1,.slice aEO aEs aEE] (aX [eB3]):=(aP4 _ (Knows.tail UU)).Ui (UU _ (.head _))
 refine jc (vs:=[.agg ⟨[(.slice (some ⟨aFw,0,none⟩) 1 1),(.slice (some ⟨aFn,0,none⟩) 1 1),zS,.slice (some ⟨amZ,0,none⟩) 2 2,zS,zI 2,zI 1,.slice aEO aEs aEE]⟩]) [] (avx (aQ0.up (Sub.refl _)) (akN arB (FJ As)) aMC (by decide)) ?_
 rintro _ _ ⟨rfl,rfl⟩
 refine jg 0 []<|zD 7<|jc (vs:=[zS]) [] (lE (more:=[]) (cD.nil _ _ _ _ _) (by decide)) ?_
 rintro _ _ ⟨rJ,rI,qi,rF,rD,rE,Z65,rfl,rfl,aP3⟩
 refine jg 0 [.b qi (.cells ⟨[.string gP,.string ij]⟩ 9 (0,0)),.l Z65]<|jn fun b3=>jd 1 [0]<|jf [1,2] ((qi,.cells ⟨[.string gP,.string ij]⟩ 9 (0,0))::Z65) (fun arh ZV Q9=>?_)
 have vI:du arh [.slice (some ⟨rJ,0,none⟩) 1 1,.slice (some ⟨rI,0,none⟩) 1 1,zS,.slice (some ⟨qi,0,none⟩) 2 2,zS,zI 2,zI 1,.slice rF rD rE] (aX []):=(aP3 _ (Knows.tail Q9)).Ui (Q9 _ (.head _))
 refine jd 4 [0]<|BE (vs:=[.agg ⟨[(.slice (some ⟨rJ,0,none⟩) 1 1),(.slice (some ⟨rI,0,none⟩) 1 1),zS,.slice (some ⟨qi,0,none⟩) 2 2,zS,zI 2,zI 1,.slice rF rD rE]⟩,zI 0,zI 0]) [] (fun _ _ h=>h) (Zh (vI.up (Sub.refl _))) ?_
 rintro _ L68 ⟨v68,rfl,aCf⟩
 obtain⟨ajd,ai9,aO6⟩:=aCf.form
 subst aO6
 refine jd 9 [1]<|BE (vs:=[.agg ⟨[(.slice (some ⟨rJ,0,none⟩) 1 1),(.slice (some ⟨rI,0,none⟩) 1 1),zS,.slice (some ⟨qi,0,none⟩) 2 2,zS,zI 2,zI 1,.slice rF rD rE]⟩,zI 0,zI 1]) [] (fun _ _ h=>h) (Zg (vI.up (Sub.refl _))) ?_
 rintro _ L73 ⟨v73,rfl,aCd⟩
 obtain⟨ajc,ai8,aO5⟩:=aCd.form
 subst aO5
 refine jd 9 [2]<|BE (vs:=[.agg ⟨[(.slice (some ⟨rJ,0,none⟩) 1 1),(.slice (some ⟨rI,0,none⟩) 1 1),zS,.slice (some ⟨qi,0,none⟩) 2 2,zS,zI 2,zI 1,.slice rF rD rE]⟩,zI 0,zI 0]) [] (fun _ _ h=>h) (aj0 (vI.up (Sub.refl _))) ?_
 rintro _ L78 ⟨v78,rfl,aCc⟩
 obtain⟨ajb,ai7,aO4⟩:=aCc.form
 subst aO4
 refine zD 21<|jn fun b93=>jp (vs:=[(.slice ajd ([0]:List Int).length ai9),.slice (some ⟨b93,0,none⟩) 1 1]) [3,0] (L68++[(b93,.cells ⟨([0].map dc).flatten⟩ 3 (0,0))]) (fun aV hs hZ=>jI (aCf.n9 hZ.left) (bM [0] hZ.right.head (by intro p hp;rfl)) (by decide)) ?_
 refine zD 4<|jn fun b99=>jp (vs:=[(.slice ajc ([-1,0,1]:List Int).length ai8),.slice (some ⟨b99,0,none⟩) 3 3]) [3,0] (L73++[(b99,.cells ⟨([(-1),0,1].map dc).flatten⟩ 3 (0,0))]) (fun aV hs hZ=>jI (aCd.n9 hZ.left) (bM [(-1),0,1] hZ.right.head (by intro p hp;rfl)) (by decide)) ?_
 refine zD 4<|jn fun aFR=>jp (vs:=[(.slice ajb ([0]:List Int).length ai7),.slice (some ⟨aFR,0,none⟩) 1 1]) [3,0] (L78++[(aFR,.cells ⟨([0].map dc).flatten⟩ 3 (0,0))]) (fun aV hs hZ=>jI (aCc.n9 hZ.left) (bM [0] hZ.right.head (by intro p hp;rfl)) (by decide)) ?_
 refine zD 7<|jn fun aaW=>jn fun aaV=>jn fun ah2=>jn fun ah1=>zD 11<|fX [1,1,1,1,1,1,1,1,1,1,1,0,1,0,0] [] (fun(zz:Nat)=>[(3,zP b3),(4,(.slice ajd ([0]:List Int).length ai9)),(5,zI 0),(6,(.slice ajc ([-1,0,1]:List Int).length ai8)),(7,zI 0),(8,(.slice ajb ([0]:List Int).length ai7)),(9,zI 0),(10,.slice (some ⟨aaW,0,none⟩) 4 4),(11,.slice (some ⟨aaV,0,none⟩) 4 4),(12,.slice (some ⟨ah2,0,none⟩) 4 4),(13,.slice (some ⟨ah1,0,none⟩) 4 4),(14,zI (zz:Int))]) (fun zz=>[.b ah1 (.cells ⟨[zI 1,zI 3,zI 2,zI 2]⟩ 3 (0,0)),.b ah2 (.cells ⟨[zI 0,zI 1,zI 0,zI 1]⟩ 3 (0,0)),.b aaV (.cells ⟨[zI 0,zI 0,zI 0,zI (-1)]⟩ 3 (0,0)),.b aaW (.cells ⟨[zI 0,zI 1,zI 1,zI 1]⟩ 3 (0,0)),.b b3 (.cells ⟨[(.slice (some ⟨rJ,0,none⟩) 1 1),(.slice (some ⟨rI,0,none⟩) 1 1),zS,.slice (some ⟨qi,0,none⟩) 2 2,zS,zI 2,zI 1,.slice rF rD rE]⟩ 33 (0,0)),.l fr]) (fun zz=>zz≤4) (fun zz=>4-zz) 0 (Nat.zero_le _) [0,1,2,3,10,14] ?_
 rintro k hI K1 cz rest
 refine zD 8<|zJ 116 ((k:Int) <4) (fun h16=>?_) fun h16=>?_
 ·
  refine jd 9 [4] ?_
  obtain⟨aIN,aff⟩:=zG ([0,1,1,1]:List Int) k (show k <4 from by omega)
  refine jq (a:=(some ⟨aaW,0,none⟩)) (b:=aaW) (off:=0) 4 1 (fun _ _=>rfl) aff<|uD (m:=1) 0 [3] [(aaW,.cells ⟨([0,1,1,1].map dc).flatten⟩ 3 (0,0))] (fun s _ hZ=>jA (hZ _ (.head _)) (by intro p hp;rfl) aff) ?_
  refine zD 2 ?_
  obtain⟨aIM,afe⟩:=zG ([0,0,0,(-1)]:List Int) k (show k <4 from by omega)
  refine jq (a:=(some ⟨aaV,0,none⟩)) (b:=aaV) (off:=0) 4 1 (fun _ _=>rfl) afe<|uD (m:=1) 0 [2] [(aaV,.cells ⟨([0,0,0,(-1)].map dc).flatten⟩ 3 (0,0))] (fun s _ hZ=>jA (hZ _ (.head _)) (by intro p hp;rfl) afe) ?_
  refine zD 2 ?_
  obtain⟨aIL,afd⟩:=zG ([0,1,0,1]:List Int) k (show k <4 from by omega)
  refine jq (a:=(some ⟨ah2,0,none⟩)) (b:=ah2) (off:=0) 4 1 (fun _ _=>rfl) afd<|uD (m:=1) 0 [1] [(ah2,.cells ⟨([0,1,0,1].map dc).flatten⟩ 3 (0,0))] (fun s _ hZ=>jA (hZ _ (.head _)) (by intro p hp;rfl) afd) ?_
  refine dV 13 fun LW Mn Nv=>BE (vs:=[.agg ⟨[(.slice (some ⟨rJ,0,none⟩) 1 1),(.slice (some ⟨rI,0,none⟩) 1 1),zS,.slice (some ⟨qi,0,none⟩) 2 2,zS,zI 2,zI 1,.slice rF rD rE]⟩,zI aIN,zI aIM,zI aIL]) [] (fun _ _ h=>h) (aru (vI.up (Sub.refl _)) aff afe afd) ?_
  rintro _ _ ⟨⟨aIH,aBz,rfl⟩,rfl⟩
  refine jg 0 []<|iv Nv (zN 0 6)<|zD 14 ?_
  obtain⟨aIK,afc⟩:=zG ([1,3,2,2]:List Int) k (show k <4 from by omega)
  refine jq (a:=(some ⟨ah1,0,none⟩)) (b:=ah1) (off:=0) 4 1 (fun _ _=>rfl) afc<|uD (m:=1) 0 [0] [(ah1,.cells ⟨([1,3,2,2].map dc).flatten⟩ 3 (0,0))] (fun s _ hZ=>jA (hZ _ (.head _)) (by intro p hp;rfl) afc) ?_
  refine zD 3<|js 145 (!decide (aIH=aIK)) (fun h18=>?_) (fun h18=>?_)
  ·
   exfalso;have e:=jm aBz afc;subst e;simp at h18
  refine zD 4<|zW ((k:Int)+1)<|zD 2<|zY cz (k+1) (by omega) [0,1,2,3,4,5]
 refine zD 8<|fX [1,1,1,1,1,1,1,1,1,1,1,1,0,1,0,0] [] (fun(zz:Nat)=>[(3,zP b3),(4,(.slice ajd ([0]:List Int).length ai9)),(5,zI 0),(6,(.slice ajc ([-1,0,1]:List Int).length ai8)),(7,zI 0),(8,(.slice ajb ([0]:List Int).length ai7)),(9,zI 0),(10,.slice (some ⟨aaW,0,none⟩) 4 4),(11,.slice (some ⟨aaV,0,none⟩) 4 4),(17,zI (zz:Int))]) (fun zz=>[.b b3 (.cells ⟨[(.slice (some ⟨rJ,0,none⟩) 1 1),(.slice (some ⟨rI,0,none⟩) 1 1),zS,.slice (some ⟨qi,0,none⟩) 2 2,zS,zI 2,zI 1,.slice rF rD rE]⟩ 33 (0,0)),.l fr]) (fun zz=>zz≤2) (fun zz=>2-zz) 0 (Nat.zero_le _) [4,5] ?_
 rintro k hI K3 hK3 rest
 refine zD 6<|zJ 147 ((k:Int) <2) (fun h19=>?_) fun h19=>?_
 ·
  refine jd 8 [0]<|BE (vs:=[.agg ⟨[(.slice (some ⟨rJ,0,none⟩) 1 1),(.slice (some ⟨rI,0,none⟩) 1 1),zS,.slice (some ⟨qi,0,none⟩) 2 2,zS,zI 2,zI 1,.slice rF rD rE]⟩,zI (k:Int)]) [] (fun _ _ h=>h) (ayQ (vI.up (Sub.refl _)) (by omega)) ?_
  rintro _ _ ⟨rfl,rfl⟩
  refine jg 0 []<|zD 3<|jn fun b18=>jd 10 [0,0]<|jne arN (aha 0 1 0 1)<|jw 161 (.bool false) (show Value.bool (!((0:Int)==0&&((1:Int)==1&&true)))= .bool false by rfl)<|zD 6<|zW ((k:Int)+1)<|zD 2<|zY hK3 (k+1) (by omega) [1,2]
 refine zD 4<|jn fun ahZ=>jn fun ahY=>zD 8<|jn fun Sk=>zD 8<|fX [1,1,1,1,1,1,1,1,1,1,1,1,1,1,1,0,1,0,0] [] (fun(zz:Nat)=>[(3,zP b3),(4,(.slice ajd ([0]:List Int).length ai9)),(5,zI 0),(6,(.slice ajc ([-1,0,1]:List Int).length ai8)),(7,zI 0),(8,(.slice ajb ([0]:List Int).length ai7)),(9,zI 0),(10,.slice (some ⟨ahZ,0,none⟩) 3 3),(11,.slice (some ⟨ahY,0,none⟩) 3 3),(20,.slice (some ⟨Sk,0,none⟩) 3 3),(21,zI (zz:Int))]) (fun zz=>[.b Sk (.cells ⟨[zI 0,zI 1,zI 0,zI 0,zI 1,zI 1]⟩ 52 (0,0)),.b ahY (.cells ⟨[zI 1,zI 0,zI 0]⟩ 3 (0,0)),.b ahZ (.cells ⟨[zI 1,zI 0,zI 1]⟩ 3 (0,0)),.b b3 (.cells ⟨[(.slice (some ⟨rJ,0,none⟩) 1 1),(.slice (some ⟨rI,0,none⟩) 1 1),zS,.slice (some ⟨qi,0,none⟩) 2 2,zS,zI 2,zI 1,.slice rF rD rE]⟩ 33 (0,0)),.l fr]) (fun zz=>zz≤3) (fun zz=>3-zz) 0 (Nat.zero_le _) (zN 0 5) ?_
 rintro k hI K4 hK4 rest
 refine zD 8<|zJ 172 ((k:Int) <3) (fun h20=>?_) fun h20=>?_
 ·
  refine jd 9 [3] ?_
  obtain⟨axt,Xp⟩:=zG ([1,0,1]:List Int) k (show k <3 from by omega)
  refine jq (a:=(some ⟨ahZ,0,none⟩)) (b:=ahZ) (off:=0) 3 1 (fun _ _=>rfl) Xp<|uD (m:=1) 0 [2] [(ahZ,.cells ⟨([1,0,1].map dc).flatten⟩ 3 (0,0))] (fun s _ hZ=>jA (hZ _ (.head _)) (by intro p hp;rfl) Xp) ?_
  refine zD 2 ?_
  obtain⟨axs,Xo⟩:=zG ([1,0,0]:List Int) k (show k <3 from by omega)
  refine jq (a:=(some ⟨ahY,0,none⟩)) (b:=ahY) (off:=0) 3 1 (fun _ _=>rfl) Xo<|uD (m:=1) 0 [1] [(ahY,.cells ⟨([1,0,0].map dc).flatten⟩ 3 (0,0))] (fun s _ hZ=>jA (hZ _ (.head _)) (by intro p hp;rfl) Xo) ?_
  refine jls [9,13] ⟨fun z5 t6 hL7=>?_,fun z8 t9 U7=>?_,trivial⟩
  ·
   refine BE (vs:=[.agg ⟨[(.slice (some ⟨rJ,0,none⟩) 1 1),(.slice (some ⟨rI,0,none⟩) 1 1),zS,.slice (some ⟨qi,0,none⟩) 2 2,zS,zI 2,zI 1,.slice rF rD rE]⟩,zI axt,zI axs]) [] (fun _ _ h=>h) (an4 (vI.up (Sub.refl _)) Xp Xo) ?_
   rintro _ _ ⟨⟨LY,ae8,rfl⟩,rfl⟩
   refine jg 0 []<|iv hL7 (zN 0 5)<|zD 3<|dV 13 fun ans anI agt=>jn fun b22=>iv agt (zN 1 5)<|dV 14 fun anr anH U6=>jd 1 [0]<|wC U6 []<|jd 10 [0] ?_
   obtain⟨Ma,He⟩:=zG ([((0,1):Int×Int),((0,0):Int×Int),((1,1):Int×Int)]:List _) k (show k <3 from by omega)
   refine jq (a:=(some ⟨Sk,0,none⟩)) (b:=Sk) (off:=0) 3 2 (fun _ _=>rfl) He<|uD (m:=2) 0 [1] [(Sk,.cells ⟨([((0,1):Int×Int),((0,0):Int×Int),((1,1):Int×Int)].map ePr).flatten⟩ 52 (0,0))] (fun s _ hZ=>jA (hZ _ (.head _)) (by intro p hp;rfl) He) ?_
   refine jne arN (aha LY.1 LY.2 Ma.1 Ma.2)<|zD 2<|js 197 (!(LY.1==Ma.1&&(LY.2==Ma.2&&(true)))) (fun h24=>?_) (fun h24=>?_)
   ·
    exfalso;have e:=jm ae8 He;subst e;simp at h24
   refine zD 4<|zW ((k:Int)+1)<|zD 2<|zY hK4 (k+1) (by omega) [1,2,3,4,5]
  refine jn fun b22=>iv U7 (zN 1 5)<|dV 9 fun anq anG ags=>BE (vs:=[.agg ⟨[(.slice (some ⟨rJ,0,none⟩) 1 1),(.slice (some ⟨rI,0,none⟩) 1 1),zS,.slice (some ⟨qi,0,none⟩) 2 2,zS,zI 2,zI 1,.slice rF rD rE]⟩,zI axt,zI axs]) [] (fun _ _ h=>h) (an4 (vI.up (Sub.refl _)) Xp Xo) ?_
  rintro _ _ ⟨⟨LY,ae8,rfl⟩,rfl⟩
  refine jg 0 []<|iv ags (zN 0 6)<|zD 3<|dV 14 fun anp anF agq=>jd 1 [0]<|wC agq []<|jd 10 [0] ?_
  obtain⟨Ma,He⟩:=zG ([((0,1):Int×Int),((0,0):Int×Int),((1,1):Int×Int)]:List _) k (show k <3 from by omega)
  refine jq (a:=(some ⟨Sk,0,none⟩)) (b:=Sk) (off:=0) 3 2 (fun _ _=>rfl) He<|uD (m:=2) 0 [1] [(Sk,.cells ⟨([((0,1):Int×Int),((0,0):Int×Int),((1,1):Int×Int)].map ePr).flatten⟩ 52 (0,0))] (fun s _ hZ=>jA (hZ _ (.head _)) (by intro p hp;rfl) He) ?_
  refine jne arN (aha LY.1 LY.2 Ma.1 Ma.2)<|zD 2<|js 197 (!(LY.1==Ma.1&&(LY.2==Ma.2&&(true)))) (fun h28=>?_) (fun h28=>?_)
  ·
   exfalso;have e:=jm ae8 He;subst e;simp at h28
  refine zD 4<|zW ((k:Int)+1)<|zD 2<|zY hK4 (k+1) (by omega) [1,2,3,4,5]
 refine jd 5 [3]<|BE (vs:=[.agg ⟨[(.slice (some ⟨rJ,0,none⟩) 1 1),(.slice (some ⟨rI,0,none⟩) 1 1),zS,.slice (some ⟨qi,0,none⟩) 2 2,zS,zI 2,zI 1,.slice rF rD rE]⟩,zI 0,zI 0,zI 1]) [] (fun _ _ h=>h) (aj2 (vI.up (Sub.refl _))) ?_
 rintro _ _ ⟨rfl,rfl⟩
 refine jg 0 []<|jd 9 [3]<|BE (vs:=[.agg ⟨[(.slice (some ⟨rJ,0,none⟩) 1 1),(.slice (some ⟨rI,0,none⟩) 1 1),zS,.slice (some ⟨qi,0,none⟩) 2 2,zS,zI 2,zI 1,.slice rF rD rE]⟩,zI 0,zI 1,zI 0]) [] (fun _ _ h=>h) (aj1 (vI.up (Sub.refl _))) ?_
 rintro _ _ ⟨rfl,rfl⟩
 refine jg 0 []<|jd 9 [3]<|BE (vs:=[.agg ⟨[(.slice (some ⟨rJ,0,none⟩) 1 1),(.slice (some ⟨rI,0,none⟩) 1 1),zS,.slice (some ⟨qi,0,none⟩) 2 2,zS,zI 2,zI 1,.slice rF rD rE]⟩,zI 1]) [] (fun _ _ h=>h) (ajX (vI.up (Sub.refl _))) ?_
 rintro _ aSK ⟨aXf,rfl,aoN⟩
 obtain⟨axX,axT,aDj⟩:=aoN.form
 subst aDj
 refine jd 9 [4]<|BE (vs:=[.agg ⟨[(.slice (some ⟨rJ,0,none⟩) 1 1),(.slice (some ⟨rI,0,none⟩) 1 1),zS,.slice (some ⟨qi,0,none⟩) 2 2,zS,zI 2,zI 1,.slice rF rD rE]⟩,zI 0]) [] (fun _ _ h=>h) (ajY (vI.up (Sub.refl _))) ?_
 rintro _ aSJ ⟨aXe,rfl,aoM⟩
 obtain⟨axW,axS,aDi⟩:=aoM.form
 subst aDi
 refine zD 33<|jn fun aFP=>jp (vs:=[(.slice axX ([1]:List Int).length axT),.slice (some ⟨aFP,0,none⟩) 1 1]) [2,0] (aSK++[(aFP,.cells ⟨([1].map dc).flatten⟩ 3 (0,0))]) (fun aV hs hZ=>jI (aoN.n9 hZ.left) (bM [1] hZ.right.head (by intro p hp;rfl)) (by decide)) ?_
 refine zD 4<|jn fun aFO=>jp (vs:=[(.slice axW ([0]:List Int).length axS),.slice (some ⟨aFO,0,none⟩) 1 1]) [2,0] (aSJ++[(aFO,.cells ⟨([0].map dc).flatten⟩ 3 (0,0))]) (fun aV hs hZ=>jI (aoM.n9 hZ.left) (bM [0] hZ.right.head (by intro p hp;rfl)) (by decide)) ?_
 refine jd 8 [7]<|BE (vs:=[.agg ⟨[(.slice (some ⟨rJ,0,none⟩) 1 1),(.slice (some ⟨rI,0,none⟩) 1 1),zS,.slice (some ⟨qi,0,none⟩) 2 2,zS,zI 2,zI 1,.slice rF rD rE]⟩]) [] (fun _ _ h=>h) (ac3 (vI.up (Sub.refl _))) ?_
 rintro _ bcH ⟨aXb,rfl,aCo⟩
 obtain⟨aTu,aTt,aDh⟩:=aCo.form
 subst aDh
 refine zD 8<|jp (vs:=[.string (bs [99,121,100]),zI 1,zI 0]) [] [] (fun aV hs hZ=>sS)<|jn fun aFN=>Uu (vs:=[.slice (some ⟨aFN,0,none⟩) 1 1]) [] [0] [(aFN,.cells ⟨([(⟨(bs [99,121,100]),0,1,0,false,0,0⟩:bH)].map nf).flatten⟩ 43 (0,0))] (fun aV hs hZ=>lE (more:=[(⟨(bs [99,121,100]),0,1,0,false,0,0⟩:bH)]) (bM [(⟨(bs [99,121,100]),0,1,0,false,0,0⟩:bH)] hZ.head (by intro p hp;rfl)) (by decide)) ?_
 rintro _ _ ⟨apS,apP,Yn,apw,apq,apt,aF1,rfl,rfl,aDz⟩
 refine jg 0 [.b Yn (.cells ⟨[.string gP,.string ij]⟩ 9 (0,0)),.l aF1]<|jf [0,1] ((Yn,.cells ⟨[.string gP,.string ij]⟩ 9 (0,0))::aF1) (fun aKf Hi aCU=>?_)
 have aDH:du aKf [.slice (some ⟨apS,0,none⟩) 1 1,.slice (some ⟨apP,0,none⟩) 1 1,zS,.slice (some ⟨Yn,0,none⟩) 2 2,zS,zI 2,zI 1,.slice apw apq apt] (aX [eC1]):=(aDz _ (Knows.tail aCU)).Ui (aCU _ (.head _))
 refine BE (vs:=[.agg ⟨[(.slice (some ⟨apS,0,none⟩) 1 1),(.slice (some ⟨apP,0,none⟩) 1 1),zS,.slice (some ⟨Yn,0,none⟩) 2 2,zS,zI 2,zI 1,.slice apw apq apt]⟩]) [] (fun _ _ h=>h) (ac1 (aDH.up (Sub.refl _))) ?_
 rintro _ anj ⟨aXa,rfl,Q4⟩
 obtain⟨V7,V4,aDg⟩:=Q4.form
 subst aDg
 refine jd 9 [10]<|BE (vs:=[.agg ⟨[(.slice (some ⟨rJ,0,none⟩) 1 1),(.slice (some ⟨rI,0,none⟩) 1 1),zS,.slice (some ⟨qi,0,none⟩) 2 2,zS,zI 2,zI 1,.slice rF rD rE]⟩]) [] (fun _ _ h=>h) (ac6 (vI.up Hi)) ?_
 rintro _ _ ⟨rfl,rfl⟩
 refine jg 0 []<|zD 7<|jp (vs:=[.string (bs [98,101,110]),zI 1,zI 0]) [] [] (fun aV hs hZ=>sS)<|jn fun aFL=>Uu (vs:=[.slice (some ⟨aFL,0,none⟩) 1 1]) [] [0] [(aFL,.cells ⟨([(⟨(bs [98,101,110]),0,1,0,false,0,0⟩:bH)].map nf).flatten⟩ 43 (0,0))] (fun aV hs hZ=>lE (more:=[(⟨(bs [98,101,110]),0,1,0,false,0,0⟩:bH)]) (bM [(⟨(bs [98,101,110]),0,1,0,false,0,0⟩:bH)] hZ.head (by intro p hp;rfl)) (by decide)) ?_
 rintro _ _ ⟨apR,apO,Ym,apv,apo,aps,aF0,rfl,rfl,aDy⟩
 refine jg 0 [.b Ym (.cells ⟨[.string gP,.string ij]⟩ 9 (0,0)),.l aF0]<|jf [0,1] ((Ym,.cells ⟨[.string gP,.string ij]⟩ 9 (0,0))::aF0) (fun aKe Jm aCT=>?_)
 have aDG:du aKe [.slice (some ⟨apR,0,none⟩) 1 1,.slice (some ⟨apO,0,none⟩) 1 1,zS,.slice (some ⟨Ym,0,none⟩) 2 2,zS,zI 2,zI 1,.slice apv apo aps] (aX [eB1]):=(aDy _ (Knows.tail aCT)).Ui (aCT _ (.head _))
 refine BE (vs:=[.agg ⟨[(.slice (some ⟨apR,0,none⟩) 1 1),(.slice (some ⟨apO,0,none⟩) 1 1),zS,.slice (some ⟨Ym,0,none⟩) 2 2,zS,zI 2,zI 1,.slice apv apo aps]⟩]) [] (fun _ _ h=>h) (ac5 (aDG.up (Sub.refl _))) ?_
 rintro _ ani ⟨aW8,rfl,Q3⟩
 obtain⟨V6,V3,aDf⟩:=Q3.form
 subst aDf
 refine zD 8<|jp (vs:=[.string (bs [99,121,100]),zI 1,zI 0]) [] [] (fun aV hs hZ=>sS)<|jn fun aFK=>Uu (vs:=[.slice (some ⟨aFK,0,none⟩) 1 1]) [] [0] [(aFK,.cells ⟨([(⟨(bs [99,121,100]),0,1,0,false,0,0⟩:bH)].map nf).flatten⟩ 43 (0,0))] (fun aV hs hZ=>lE (more:=[(⟨(bs [99,121,100]),0,1,0,false,0,0⟩:bH)]) (bM [(⟨(bs [99,121,100]),0,1,0,false,0,0⟩:bH)] hZ.head (by intro p hp;rfl)) (by decide)) ?_
 rintro _ _ ⟨apQ,apN,Yl,apu,apn,apr,aFZ,rfl,rfl,aDx⟩
 refine jg 0 [.b Yl (.cells ⟨[.string gP,.string ij]⟩ 9 (0,0)),.l aFZ]<|jf [0,1] ((Yl,.cells ⟨[.string gP,.string ij]⟩ 9 (0,0))::aFZ) (fun aKd Jl aCS=>?_)
 have aDF:du aKd [.slice (some ⟨apQ,0,none⟩) 1 1,.slice (some ⟨apN,0,none⟩) 1 1,zS,.slice (some ⟨Yl,0,none⟩) 2 2,zS,zI 2,zI 1,.slice apu apn apr] (aX [eC1]):=(aDx _ (Knows.tail aCS)).Ui (aCS _ (.head _))
 refine BE (vs:=[.agg ⟨[(.slice (some ⟨apQ,0,none⟩) 1 1),(.slice (some ⟨apN,0,none⟩) 1 1),zS,.slice (some ⟨Yl,0,none⟩) 2 2,zS,zI 2,zI 1,.slice apu apn apr]⟩]) [] (fun _ _ h=>h) (ac4 (aDF.up (Sub.refl _))) ?_
 rintro _ anh ⟨aW7,rfl,Q1⟩
 obtain⟨V5,V2,aDe⟩:=Q1.form
 subst aDe
 refine jd 9 [14]<|jp (vs:=[.string (bs [98,101,110]),zI 1,zI 0]) [] [] (fun aV hs hZ=>sS)<|jls [2,6] ⟨fun z15 t16 U5=>?_,fun z18 t19 aQV=>?_,trivial⟩
 ·
  refine BE (vs:=[.agg ⟨[(.slice (some ⟨rJ,0,none⟩) 1 1),(.slice (some ⟨rI,0,none⟩) 1 1),zS,.slice (some ⟨qi,0,none⟩) 2 2,zS,zI 2,zI 1,.slice rF rD rE]⟩,.agg ⟨[.string (bs [98,101,110]),zI 0,zI 1,zI 0,.bool false,zI 0,zI 0]⟩]) [] (fun _ _ h=>h) (ac7 (vI.up ((Hi.trans Jm).trans Jl))) ?_
  rintro _ _ ⟨rfl,rfl⟩
  refine jg 0 []<|IJ U5<|zD 3<|dV 6 fun aTm aT8 aQU=>jn fun b29=>iv aQU (zN 1 16)<|dV 7 fun aTl aT7 aQT=>jd 1 [0]<|iv aQT (zN 0 17)<|jd 5 [15]<|jp (vs:=[.string (bs [98,101,110]),zI 2,zI 0]) [] [] (fun aV hs hZ=>sS)<|jls [2,6] ⟨fun z23 t24 aQS=>?_,fun z26 t27 aQR=>?_,trivial⟩
  ·
   refine tD (vs:=[.agg ⟨[(.slice (some ⟨rJ,0,none⟩) 1 1),(.slice (some ⟨rI,0,none⟩) 1 1),zS,.slice (some ⟨qi,0,none⟩) 2 2,zS,zI 2,zI 1,.slice rF rD rE]⟩,.agg ⟨[.string (bs [98,101,110]),zI 0,zI 2,zI 0,.bool false,zI 0,zI 0]⟩]) [] (fun _ _ h=>h) (MJ (vI.up ((Hi.trans Jm).trans Jl))) ?_
   rintro _ aXx _ aNE ⟨l2,rfl,U8,rfl⟩
   obtain⟨vS,vT,vP,vR,vE,fa,fc,rfl,UA,Uz,hxP,hxR,hxE⟩:=id U8
   obtain⟨xS,UA,_⟩:=UA
   obtain⟨xT,Uz,_⟩:=Uz
   obtain⟨qSa,qSb,qSo,qSc,rfl,_,_,_⟩:=UA
   obtain⟨qTa,qTb,qTo,qTc,rfl,_,_,_⟩:=Uz
   obtain⟨qPa,qPb,qPo,qPc,rfl,_,_,_⟩:=hxP
   obtain⟨qRa,qRb,qRo,qRc,rfl,_,_,_⟩:=hxR
   obtain⟨qEa,qEb,qEo,qEc,rfl,_,_,_⟩:=hxE
   refine jg 0 []<|alE aQS<|zD 3<|dV 6 fun aTk aT6 aQQ=>jn fun b31=>iv aQQ (zN 1 17)<|dV 7 fun aTj aT5 aQP=>jd 1 [0]<|wC aQP []<|zD 37<|js 31 (decide ((([]:List Int).length:Int)>0)) (fun h45=>?_) (fun h45=>?_)
   ·
    have aar:=h45
    replace aar:=of_decide_eq_true aar
    exfalso;simp at aar
   have aar:=h45
   replace aar:=of_decide_eq_false aar
   refine zD 1<|dV 33 fun aTi aT4 aQO=>jn fun Ip=>iv aQO (zN 1 18)<|jp (vs:=[(.slice V7 ([2]:List Int).length V4),.slice (some ⟨Ip,0,none⟩) 1 1]) [7,0] (anj++[(Ip,.cells ⟨([2].map dc).flatten⟩ 3 (0,0))]) (fun aV hs hZ=>jI (Q4.n9 hZ.left) (bM [2] hZ.right.head (by intro p hp;rfl)) (by decide)) ?_
   refine zD 4<|dV 39 fun aTh aT3 aQN=>jn fun Io=>iv aQN (zN 1 19)<|jp (vs:=[(.slice V6 ([0,2]:List Int).length V3),.slice (some ⟨Io,0,none⟩) 2 2]) [6,0] (ani++[(Io,.cells ⟨([0,2].map dc).flatten⟩ 3 (0,0))]) (fun aV hs hZ=>jI (Q3.n9 hZ.left) (bM [0,2] hZ.right.head (by intro p hp;rfl)) (by decide)) ?_
   refine zD 4<|dV 45 fun aTg aT2 aQM=>jn fun Im=>iv aQM (zN 1 20)<|jp (vs:=[(.slice V5 ([2]:List Int).length V2),.slice (some ⟨Im,0,none⟩) 1 1]) [5,0] (anh++[(Im,.cells ⟨([2].map dc).flatten⟩ 3 (0,0))]) (fun aV hs hZ=>jI (Q1.n9 hZ.left) (bM [2] hZ.right.head (by intro p hp;rfl)) (by decide)) ?_
   refine jd 4 [3]<|jp (vs:=[.string (bs [98,101,110]),zI 2,zI 0]) [] [] (fun aV hs hZ=>sS)<|dV 52 fun aTf aT1 aQL=>jn fun Il=>iv aQL (zN 1 21)<|dV 53 fun aTe aT0 aQK=>Uu (vs:=[.slice (some ⟨Il,0,none⟩) 1 1]) [] [0] [(Il,.cells ⟨([(⟨(bs [98,101,110]),0,2,0,false,0,0⟩:bH)].map nf).flatten⟩ 43 (0,0))] (fun aV hs hZ=>lE (more:=[(⟨(bs [98,101,110]),0,2,0,false,0,0⟩:bH)]) (bM [(⟨(bs [98,101,110]),0,2,0,false,0,0⟩:bH)] hZ.head (by intro p hp;rfl)) (by decide)) ?_
   rintro _ _ ⟨Ik,Ij,rL,HV,HS,HU,Iu,rfl,rfl,HA⟩
   refine jg 0 [.b rL (.cells ⟨[.string gP,.string ij]⟩ 9 (0,0)),.l Iu]<|iv aQK (zN 2 22)<|jp (vs:=[.agg ⟨[(.slice qSa xS.length qSc),(.slice qTa xT.length qTc),(.slice fa 0 fc),(.slice qPa (aX [oR]).ar.length qPc),(.slice qRa (aX [oR]).rules.length qRc),zI ((aX [oR]).days),zI ((aX [oR]).stay),(.slice qEa (aX [oR]).ax.length qEc)]⟩,.agg ⟨[(.slice (some ⟨Ik,0,none⟩) 1 1),(.slice (some ⟨Ij,0,none⟩) 1 1),zS,.slice (some ⟨rL,0,none⟩) 2 2,zS,zI 2,zI 1,.slice HV HS HU]⟩]) [1,0] (Iu++[(rL,.cells ⟨[.string gP,.string ij]⟩ 9 (0,0))]) (fun aV hs hZ=>Mi (U8.up hs) (show du _ _ (aX [oR]) from (HA _ hZ.left).Ui hZ.right.head) ZH.c)<|jd 8 [6]<|BE (vs:=[.agg ⟨[(.slice qSa xS.length qSc),(.slice qTa xT.length qTc),(.slice fa 0 fc),(.slice qPa (aX [oR]).ar.length qPc),(.slice qRa (aX [oR]).rules.length qRc),zI ((aX [oR]).days),zI ((aX [oR]).stay),(.slice qEa (aX [oR]).ax.length qEc)]⟩]) [] (fun _ _ h=>h) (WB (U8.up (Sub.refl _))) ?_
   rintro _ _ ⟨rfl,rfl⟩
   refine jg 0 []<|zD 17<|Ur qC.a.a.a.a.a.a.a.a.a (.bool true) [23] [] ((((((((cR.trans nz).trans Ci).trans Dg).trans ZV).trans Hi).trans Jm).trans Jl).trans aNE) ⟨rfl,rfl⟩
  refine jn fun b31=>iv aQR (zN 1 17)<|dV 2 fun aTd aTZ aQJ=>tD (vs:=[.agg ⟨[(.slice (some ⟨rJ,0,none⟩) 1 1),(.slice (some ⟨rI,0,none⟩) 1 1),zS,.slice (some ⟨qi,0,none⟩) 2 2,zS,zI 2,zI 1,.slice rF rD rE]⟩,.agg ⟨[.string (bs [98,101,110]),zI 0,zI 2,zI 0,.bool false,zI 0,zI 0]⟩]) [] (fun _ _ h=>h) (MJ (vI.up ((Hi.trans Jm).trans Jl))) ?_
  rintro _ aXw _ aND ⟨l2,rfl,U8,rfl⟩
  obtain⟨vS,vT,vP,vR,vE,fa,fc,rfl,UA,Uz,hxP,hxR,hxE⟩:=id U8
  obtain⟨xS,UA,_⟩:=UA
  obtain⟨xT,Uz,_⟩:=Uz
  obtain⟨qSa,qSb,qSo,qSc,rfl,_,_,_⟩:=UA
  obtain⟨qTa,qTb,qTo,qTc,rfl,_,_,_⟩:=Uz
  obtain⟨qPa,qPb,qPo,qPc,rfl,_,_,_⟩:=hxP
  obtain⟨qRa,qRb,qRo,qRc,rfl,_,_,_⟩:=hxR
  obtain⟨qEa,qEb,qEo,qEc,rfl,_,_,_⟩:=hxE
  refine jg 0 []<|alE aQJ<|zD 3<|dV 7 fun aTc aTY aQI=>jd 1 [0]<|wC aQI []<|zD 37<|js 31 (decide ((([]:List Int).length:Int)>0)) (fun h55=>?_) (fun h55=>?_)
  ·
   have aaq:=h55
   replace aaq:=of_decide_eq_true aaq
   exfalso;simp at aaq
  have aaq:=h55
  replace aaq:=of_decide_eq_false aaq
  refine zD 1<|dV 33 fun aTb aTX aQH=>jn fun Ip=>iv aQH (zN 1 18)<|jp (vs:=[(.slice V7 ([2]:List Int).length V4),.slice (some ⟨Ip,0,none⟩) 1 1]) [7,0] (anj++[(Ip,.cells ⟨([2].map dc).flatten⟩ 3 (0,0))]) (fun aV hs hZ=>jI (Q4.n9 hZ.left) (bM [2] hZ.right.head (by intro p hp;rfl)) (by decide)) ?_
  refine zD 4<|dV 39 fun aTa aTW aQG=>jn fun Io=>iv aQG (zN 1 19)<|jp (vs:=[(.slice V6 ([0,2]:List Int).length V3),.slice (some ⟨Io,0,none⟩) 2 2]) [6,0] (ani++[(Io,.cells ⟨([0,2].map dc).flatten⟩ 3 (0,0))]) (fun aV hs hZ=>jI (Q3.n9 hZ.left) (bM [0,2] hZ.right.head (by intro p hp;rfl)) (by decide)) ?_
  refine zD 4<|dV 45 fun aS9 aTV aQF=>jn fun Im=>iv aQF (zN 1 20)<|jp (vs:=[(.slice V5 ([2]:List Int).length V2),.slice (some ⟨Im,0,none⟩) 1 1]) [5,0] (anh++[(Im,.cells ⟨([2].map dc).flatten⟩ 3 (0,0))]) (fun aV hs hZ=>jI (Q1.n9 hZ.left) (bM [2] hZ.right.head (by intro p hp;rfl)) (by decide)) ?_
  refine jd 4 [3]<|jp (vs:=[.string (bs [98,101,110]),zI 2,zI 0]) [] [] (fun aV hs hZ=>sS)<|dV 52 fun aS8 aTU aQE=>jn fun Il=>iv aQE (zN 1 21)<|dV 53 fun aS7 aTT aQD=>Uu (vs:=[.slice (some ⟨Il,0,none⟩) 1 1]) [] [0] [(Il,.cells ⟨([(⟨(bs [98,101,110]),0,2,0,false,0,0⟩:bH)].map nf).flatten⟩ 43 (0,0))] (fun aV hs hZ=>lE (more:=[(⟨(bs [98,101,110]),0,2,0,false,0,0⟩:bH)]) (bM [(⟨(bs [98,101,110]),0,2,0,false,0,0⟩:bH)] hZ.head (by intro p hp;rfl)) (by decide)) ?_
  rintro _ _ ⟨Ik,Ij,rL,HV,HS,HU,Iu,rfl,rfl,HA⟩
  refine jg 0 [.b rL (.cells ⟨[.string gP,.string ij]⟩ 9 (0,0)),.l Iu]<|iv aQD (zN 2 22)<|jp (vs:=[.agg ⟨[(.slice qSa xS.length qSc),(.slice qTa xT.length qTc),(.slice fa 0 fc),(.slice qPa (aX [oR]).ar.length qPc),(.slice qRa (aX [oR]).rules.length qRc),zI ((aX [oR]).days),zI ((aX [oR]).stay),(.slice qEa (aX [oR]).ax.length qEc)]⟩,.agg ⟨[(.slice (some ⟨Ik,0,none⟩) 1 1),(.slice (some ⟨Ij,0,none⟩) 1 1),zS,.slice (some ⟨rL,0,none⟩) 2 2,zS,zI 2,zI 1,.slice HV HS HU]⟩]) [1,0] (Iu++[(rL,.cells ⟨[.string gP,.string ij]⟩ 9 (0,0))]) (fun aV hs hZ=>Mi (U8.up hs) (show du _ _ (aX [oR]) from (HA _ hZ.left).Ui hZ.right.head) ZH.c)<|jd 8 [6]<|BE (vs:=[.agg ⟨[(.slice qSa xS.length qSc),(.slice qTa xT.length qTc),(.slice fa 0 fc),(.slice qPa (aX [oR]).ar.length qPc),(.slice qRa (aX [oR]).rules.length qRc),zI ((aX [oR]).days),zI ((aX [oR]).stay),(.slice qEa (aX [oR]).ax.length qEc)]⟩]) [] (fun _ _ h=>h) (WB (U8.up (Sub.refl _))) ?_
  rintro _ _ ⟨rfl,rfl⟩
  refine jg 0 []<|zD 17<|Ur qC.a.a.a.a.a.a.a.a.a (.bool true) [23] [] ((((((((cR.trans nz).trans Ci).trans Dg).trans ZV).trans Hi).trans Jm).trans Jl).trans aND) ⟨rfl,rfl⟩
 refine jn fun b29=>iv aQV (zN 1 16)<|dV 2 fun aS6 aTS aQC=>BE (vs:=[.agg ⟨[(.slice (some ⟨rJ,0,none⟩) 1 1),(.slice (some ⟨rI,0,none⟩) 1 1),zS,.slice (some ⟨qi,0,none⟩) 2 2,zS,zI 2,zI 1,.slice rF rD rE]⟩,.agg ⟨[.string (bs [98,101,110]),zI 0,zI 1,zI 0,.bool false,zI 0,zI 0]⟩]) [] (fun _ _ h=>h) (ac7 (vI.up ((Hi.trans Jm).trans Jl))) ?_
 rintro _ _ ⟨rfl,rfl⟩
 refine jg 0 []<|IJ aQC<|zD 3<|dV 7 fun aS5 aTR aQB=>jd 1 [0]<|iv aQB (zN 0 17)<|jd 5 [15]<|jp (vs:=[.string (bs [98,101,110]),zI 2,zI 0]) [] [] (fun aV hs hZ=>sS)<|jls [2,6] ⟨fun z45 t46 aQA=>?_,fun z48 t49 aQz=>?_,trivial⟩
 ·
  refine tD (vs:=[.agg ⟨[(.slice (some ⟨rJ,0,none⟩) 1 1),(.slice (some ⟨rI,0,none⟩) 1 1),zS,.slice (some ⟨qi,0,none⟩) 2 2,zS,zI 2,zI 1,.slice rF rD rE]⟩,.agg ⟨[.string (bs [98,101,110]),zI 0,zI 2,zI 0,.bool false,zI 0,zI 0]⟩]) [] (fun _ _ h=>h) (MJ (vI.up ((Hi.trans Jm).trans Jl))) ?_
  rintro _ aXv _ aNC ⟨l2,rfl,U8,rfl⟩
  obtain⟨vS,vT,vP,vR,vE,fa,fc,rfl,UA,Uz,hxP,hxR,hxE⟩:=id U8
  obtain⟨xS,UA,_⟩:=UA
  obtain⟨xT,Uz,_⟩:=Uz
  obtain⟨qSa,qSb,qSo,qSc,rfl,_,_,_⟩:=UA
  obtain⟨qTa,qTb,qTo,qTc,rfl,_,_,_⟩:=Uz
  obtain⟨qPa,qPb,qPo,qPc,rfl,_,_,_⟩:=hxP
  obtain⟨qRa,qRb,qRo,qRc,rfl,_,_,_⟩:=hxR
  obtain⟨qEa,qEb,qEo,qEc,rfl,_,_,_⟩:=hxE
  refine jg 0 []<|alE aQA<|zD 3<|dV 6 fun aS4 aTQ aQy=>jn fun b31=>iv aQy (zN 1 17)<|dV 7 fun aS3 aTP aQx=>jd 1 [0]<|wC aQx []<|zD 37<|js 31 (decide ((([]:List Int).length:Int)>0)) (fun h68=>?_) (fun h68=>?_)
  ·
   have aap:=h68
   replace aap:=of_decide_eq_true aap
   exfalso;simp at aap
  have aap:=h68
  replace aap:=of_decide_eq_false aap
  refine zD 1<|dV 33 fun aS2 aTO aQw=>jn fun Ip=>iv aQw (zN 1 18)<|jp (vs:=[(.slice V7 ([2]:List Int).length V4),.slice (some ⟨Ip,0,none⟩) 1 1]) [7,0] (anj++[(Ip,.cells ⟨([2].map dc).flatten⟩ 3 (0,0))]) (fun aV hs hZ=>jI (Q4.n9 hZ.left) (bM [2] hZ.right.head (by intro p hp;rfl)) (by decide)) ?_
  refine zD 4<|dV 39 fun aS1 aTN aQv=>jn fun Io=>iv aQv (zN 1 19)<|jp (vs:=[(.slice V6 ([0,2]:List Int).length V3),.slice (some ⟨Io,0,none⟩) 2 2]) [6,0] (ani++[(Io,.cells ⟨([0,2].map dc).flatten⟩ 3 (0,0))]) (fun aV hs hZ=>jI (Q3.n9 hZ.left) (bM [0,2] hZ.right.head (by intro p hp;rfl)) (by decide)) ?_
  refine zD 4<|dV 45 fun aS0 aTM aQu=>jn fun Im=>iv aQu (zN 1 20)<|jp (vs:=[(.slice V5 ([2]:List Int).length V2),.slice (some ⟨Im,0,none⟩) 1 1]) [5,0] (anh++[(Im,.cells ⟨([2].map dc).flatten⟩ 3 (0,0))]) (fun aV hs hZ=>jI (Q1.n9 hZ.left) (bM [2] hZ.right.head (by intro p hp;rfl)) (by decide)) ?_
  refine jd 4 [3]<|jp (vs:=[.string (bs [98,101,110]),zI 2,zI 0]) [] [] (fun aV hs hZ=>sS)<|dV 52 fun aSZ aTL aQt=>jn fun Il=>iv aQt (zN 1 21)<|dV 53 fun aSY aTK aQs=>Uu (vs:=[.slice (some ⟨Il,0,none⟩) 1 1]) [] [0] [(Il,.cells ⟨([(⟨(bs [98,101,110]),0,2,0,false,0,0⟩:bH)].map nf).flatten⟩ 43 (0,0))] (fun aV hs hZ=>lE (more:=[(⟨(bs [98,101,110]),0,2,0,false,0,0⟩:bH)]) (bM [(⟨(bs [98,101,110]),0,2,0,false,0,0⟩:bH)] hZ.head (by intro p hp;rfl)) (by decide)) ?_
  rintro _ _ ⟨Ik,Ij,rL,HV,HS,HU,Iu,rfl,rfl,HA⟩
  refine jg 0 [.b rL (.cells ⟨[.string gP,.string ij]⟩ 9 (0,0)),.l Iu]<|iv aQs (zN 2 22)<|jp (vs:=[.agg ⟨[(.slice qSa xS.length qSc),(.slice qTa xT.length qTc),(.slice fa 0 fc),(.slice qPa (aX [oR]).ar.length qPc),(.slice qRa (aX [oR]).rules.length qRc),zI ((aX [oR]).days),zI ((aX [oR]).stay),(.slice qEa (aX [oR]).ax.length qEc)]⟩,.agg ⟨[(.slice (some ⟨Ik,0,none⟩) 1 1),(.slice (some ⟨Ij,0,none⟩) 1 1),zS,.slice (some ⟨rL,0,none⟩) 2 2,zS,zI 2,zI 1,.slice HV HS HU]⟩]) [1,0] (Iu++[(rL,.cells ⟨[.string gP,.string ij]⟩ 9 (0,0))]) (fun aV hs hZ=>Mi (U8.up hs) (show du _ _ (aX [oR]) from (HA _ hZ.left).Ui hZ.right.head) ZH.c)<|jd 8 [6]<|BE (vs:=[.agg ⟨[(.slice qSa xS.length qSc),(.slice qTa xT.length qTc),(.slice fa 0 fc),(.slice qPa (aX [oR]).ar.length qPc),(.slice qRa (aX [oR]).rules.length qRc),zI ((aX [oR]).days),zI ((aX [oR]).stay),(.slice qEa (aX [oR]).ax.length qEc)]⟩]) [] (fun _ _ h=>h) (WB (U8.up (Sub.refl _))) ?_
  rintro _ _ ⟨rfl,rfl⟩
  refine jg 0 []<|zD 17<|Ur qC.a.a.a.a.a.a.a.a.a (.bool true) [23] [] ((((((((cR.trans nz).trans Ci).trans Dg).trans ZV).trans Hi).trans Jm).trans Jl).trans aNC) ⟨rfl,rfl⟩
 refine jn fun b31=>iv aQz (zN 1 17)<|dV 2 fun aSX aTJ aQr=>tD (vs:=[.agg ⟨[(.slice (some ⟨rJ,0,none⟩) 1 1),(.slice (some ⟨rI,0,none⟩) 1 1),zS,.slice (some ⟨qi,0,none⟩) 2 2,zS,zI 2,zI 1,.slice rF rD rE]⟩,.agg ⟨[.string (bs [98,101,110]),zI 0,zI 2,zI 0,.bool false,zI 0,zI 0]⟩]) [] (fun _ _ h=>h) (MJ (vI.up ((Hi.trans Jm).trans Jl))) ?_
 rintro _ aXu _ aNB ⟨l2,rfl,U8,rfl⟩
 obtain⟨vS,vT,vP,vR,vE,fa,fc,rfl,UA,Uz,hxP,hxR,hxE⟩:=id U8
 obtain⟨xS,UA,_⟩:=UA
 obtain⟨xT,Uz,_⟩:=Uz
 obtain⟨qSa,qSb,qSo,qSc,rfl,_,_,_⟩:=UA
 obtain⟨qTa,qTb,qTo,qTc,rfl,_,_,_⟩:=Uz
 obtain⟨qPa,qPb,qPo,qPc,rfl,_,_,_⟩:=hxP
 obtain⟨qRa,qRb,qRo,qRc,rfl,_,_,_⟩:=hxR
 obtain⟨qEa,qEb,qEo,qEc,rfl,_,_,_⟩:=hxE
 refine jg 0 []<|alE aQr<|zD 3<|dV 7 fun aSW aTI aQq=>jd 1 [0]<|wC aQq []<|zD 37<|js 31 (decide ((([]:List Int).length:Int)>0)) (fun h78=>?_) (fun h78=>?_)
 ·
  have aao:=h78
  replace aao:=of_decide_eq_true aao
  exfalso;simp at aao
 have aao:=h78
 replace aao:=of_decide_eq_false aao
 refine zD 1<|dV 33 fun aSV aTH aQp=>jn fun Ip=>iv aQp (zN 1 18)<|jp (vs:=[(.slice V7 ([2]:List Int).length V4),.slice (some ⟨Ip,0,none⟩) 1 1]) [7,0] (anj++[(Ip,.cells ⟨([2].map dc).flatten⟩ 3 (0,0))]) (fun aV hs hZ=>jI (Q4.n9 hZ.left) (bM [2] hZ.right.head (by intro p hp;rfl)) (by decide)) ?_
 refine zD 4<|dV 39 fun aSU aTG aQo=>jn fun Io=>iv aQo (zN 1 19)<|jp (vs:=[(.slice V6 ([0,2]:List Int).length V3),.slice (some ⟨Io,0,none⟩) 2 2]) [6,0] (ani++[(Io,.cells ⟨([0,2].map dc).flatten⟩ 3 (0,0))]) (fun aV hs hZ=>jI (Q3.n9 hZ.left) (bM [0,2] hZ.right.head (by intro p hp;rfl)) (by decide)) ?_
 refine zD 4<|dV 45 fun aST aTF aQn=>jn fun Im=>iv aQn (zN 1 20)<|jp (vs:=[(.slice V5 ([2]:List Int).length V2),.slice (some ⟨Im,0,none⟩) 1 1]) [5,0] (anh++[(Im,.cells ⟨([2].map dc).flatten⟩ 3 (0,0))]) (fun aV hs hZ=>jI (Q1.n9 hZ.left) (bM [2] hZ.right.head (by intro p hp;rfl)) (by decide)) ?_
 refine jd 4 [3]<|jp (vs:=[.string (bs [98,101,110]),zI 2,zI 0]) [] [] (fun aV hs hZ=>sS)<|dV 52 fun aSS aTE aQm=>jn fun Il=>iv aQm (zN 1 21)<|dV 53 fun aSR aTD aQl=>Uu (vs:=[.slice (some ⟨Il,0,none⟩) 1 1]) [] [0] [(Il,.cells ⟨([(⟨(bs [98,101,110]),0,2,0,false,0,0⟩:bH)].map nf).flatten⟩ 43 (0,0))] (fun aV hs hZ=>lE (more:=[(⟨(bs [98,101,110]),0,2,0,false,0,0⟩:bH)]) (bM [(⟨(bs [98,101,110]),0,2,0,false,0,0⟩:bH)] hZ.head (by intro p hp;rfl)) (by decide)) ?_
 rintro _ _ ⟨Ik,Ij,rL,HV,HS,HU,Iu,rfl,rfl,HA⟩
 refine jg 0 [.b rL (.cells ⟨[.string gP,.string ij]⟩ 9 (0,0)),.l Iu]<|iv aQl (zN 2 22)<|jp (vs:=[.agg ⟨[(.slice qSa xS.length qSc),(.slice qTa xT.length qTc),(.slice fa 0 fc),(.slice qPa (aX [oR]).ar.length qPc),(.slice qRa (aX [oR]).rules.length qRc),zI ((aX [oR]).days),zI ((aX [oR]).stay),(.slice qEa (aX [oR]).ax.length qEc)]⟩,.agg ⟨[(.slice (some ⟨Ik,0,none⟩) 1 1),(.slice (some ⟨Ij,0,none⟩) 1 1),zS,.slice (some ⟨rL,0,none⟩) 2 2,zS,zI 2,zI 1,.slice HV HS HU]⟩]) [1,0] (Iu++[(rL,.cells ⟨[.string gP,.string ij]⟩ 9 (0,0))]) (fun aV hs hZ=>Mi (U8.up hs) (show du _ _ (aX [oR]) from (HA _ hZ.left).Ui hZ.right.head) ZH.c)<|jd 8 [6]<|BE (vs:=[.agg ⟨[(.slice qSa xS.length qSc),(.slice qTa xT.length qTc),(.slice fa 0 fc),(.slice qPa (aX [oR]).ar.length qPc),(.slice qRa (aX [oR]).rules.length qRc),zI ((aX [oR]).days),zI ((aX [oR]).stay),(.slice qEa (aX [oR]).ax.length qEc)]⟩]) [] (fun _ _ h=>h) (WB (U8.up (Sub.refl _))) ?_
 rintro _ _ ⟨rfl,rfl⟩
 refine jg 0 []<|zD 17<|Ur qC.a.a.a.a.a.a.a.a.a (.bool true) [23] [] ((((((((cR.trans nz).trans Ci).trans Dg).trans ZV).trans Hi).trans Jm).trans Jl).trans aNB) ⟨rfl,rfl⟩
def R3:Obj→Obj
 | .pending c t=> .pending c (t+(Fj+1))
 |o=>o
theorem Mx(o:Obj):DU (R3 o) (some o):=by
 cases o with
 |pending c t=>exact .inr (.inr ⟨c,t,rfl,rfl⟩)
 |_=>exact .inl ⟨rfl,rfl⟩
theorem NT{o:Obj}{h:Option Obj}(k:DU (R3 o) h):h=some o:=by
 rcases k with ⟨h1,h2⟩| ⟨c,c',t,h1,_,_,_,h2⟩| ⟨c,t,h1,h2⟩
 ·cases o with
  |pending c t=>cases h2
  |_=>exact h1
 ·cases o with
  |pending c0 t0=>exact absurd (Obj.pending.inj h1).2.symm (Ug h2)
  |_=>cases h1
 cases o with
 |pending c0 t0=>
  obtain⟨e1,e2⟩:=Obj.pending.inj h1
  rw[h2,e1,Nat.add_right_cancel e2]
 |_=>cases h1
theorem KD(W:World){Post:Value→World→Prop}
 (Rl:∀w:World,(∀(b:Nat) (o:Obj),W.heap[b]?=some o→w.heap[b]?=some o)→Go.ConcM.OsLater W.os w.os→w.output=W.output→Post (.bool true) w):
 ∃N last o w' t',runNT zT (N+1) (solo (G (Frame.enter zT 3 ⟨[]⟩ .normal) []) W) #[]=(.ended o w',t')∧Go.runN zT N (solo (G (Frame.enter zT 3 ⟨[]⟩ .normal) []) W)= .next last∧step zT last= .ended o w'∧Good zT Post last o w' t':=by
 have ha:aZ ⟨fun b=>(W.heap[b]?).map R3,[]⟩ W:=by
  refine⟨fun b o h=>?_,(fun _ _ h=>(by cases h)),(fun _ _ h=>(by cases h)),by simp,(fun _ _ h=>(by cases h))⟩
  obtain⟨o',h1,rfl⟩:=Option.map_eq_some_iff.1 h
  rw[h1];exact Mx o'
 exact YM ha (asm _ _ _ fun v Y w pO rU UN BG=>by
  obtain⟨rfl,rfl⟩:=pO
  exact Rl w (fun b o hb=>NT (rU.ro b (R3 o) (by show (W.heap[b]?).map R3=_;rw[hb];rfl))) UN BG)
end Go.L
