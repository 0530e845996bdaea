/- Part 12 of the proof. -/
import Derived.Test.YtfamogolneloaaaGreatDoorT11
set_option maxRecDepth 100000
set_option linter.all false
namespace Go.L
open Go Go.Conc Go.Proofs
variable {ro:Nat→Option Obj} {l:List Value} {K:aE} {x:bK} {fs:List bK} {xs:List Int} {vd:Value}
theorem asO{vS vT wS wT:Value}{S:List (List ai)}{W:List (List aL)}{fa ga:Option Addr}{fc gc:Nat}(hS:cQ ro vS S)(hT:mz ro vT W)(hU:cQ ro wS S)(hW:mz ro wT W)(hn1:S.length≤100∧∀l∈S,l.length≤100)(hn2:W.length≤100∧∀l∈W,l.length≤100):dv zT 59 [.agg ⟨[vS,vT,.slice fa 0 fc]⟩,.agg ⟨[wS,wT,.slice ga 0 gc]⟩] ro (.bool true):=by
 obtain⟨fD,hs,ei⟩:=hS
 obtain⟨fK,ht,dY⟩:=hT
 obtain⟨wsU,hu,arN⟩:=hU
 obtain⟨KU,hw,SN⟩:=hW
 obtain⟨kg,PO,PM,jo,rfl,PN,Gg,Gf⟩:=hs
 obtain⟨eB,yM,yK,dH,rfl,yL,qt,qp⟩:=ht
 obtain⟨qua,qub,quo,quc,rfl,quk,quh,qul⟩:=hu
 obtain⟨Ka,qwb,qwo,Ew,rfl,qwk,qwh,qwl⟩:=hw
 have Zi:=hn1.1
 have hn4:=hn2.1
 have yR:=ei.len
 have pF:=dY.len
 have JL:=arN.len
 have JK:=SN.len
 have Hb:∀(i:Nat) (p:bU),([]:List bU)[i]?=some p→cb ⟨ro,[]⟩ 0 (0+i*6) 6 (jF p):=fun _ _ h=>lR h
 refine zE<|zD 2<|jn fun b2=>jn fun b3=>jd 15 [1,0]<|js 23 (!decide ((fD.length:Int)=(wsU.length:Int))) (fun h1=>?_) (fun h1=>?_)
 ·
  have fH:=h1
  replace fH:=of_decide_eq_false (by simpa using fH)
  exfalso;omega
 have fH:=h1
 replace fH:=of_decide_eq_true (by simpa using fH)
 refine jd 9 [1,0]<|js 32 (!decide ((fK.length:Int)=(KU.length:Int))) (fun h2=>?_) (fun h2=>?_)
 ·
  have kI:=h2
  replace kI:=of_decide_eq_false (by simpa using kI)
  exfalso;omega
 have kI:=h2
 replace kI:=of_decide_eq_true (by simpa using kI)
 refine jd 17 [1,0]<|dL [1,1,0,1,0,0] [] (fun(zz:Nat)=>[(2,zP b2),(3,zP b3),(5,zI (zz:Int))]) (fun zz=>[.b b3 (.cells ⟨[.slice qua wsU.length quc,.slice Ka KU.length Ew,.slice ga 0 gc]⟩ 31 (0,0)),.b b2 (.cells ⟨[.slice kg fD.length jo,.slice eB fK.length dH,.slice fa 0 fc]⟩ 31 (0,0))]) (fun zz=>zz≤fD.length) (fun zz=>fD.length-zz) 0 (Nat.zero_le _) [0,1] ?_
 rintro i hIi K1 bE rest
 refine jd 10 [1]<|zJ 46 ((i:Int) <(fD.length:Int)) (fun h3=>?_) fun h3=>?_
 ·
  refine jd 10 [1] ?_
  obtain⟨xF,yA⟩:=zG fD i
  refine fL jo 1 Gg yA ?_
  obtain⟨HJ,Kx,h54⟩:=ei.get yA
  obtain aFg:=hn1.2 _ (zL Kx)
  obtain⟨Vd,amK,amJ,Q5,rfl,aCA,ae5,ae4⟩:=h54
  refine jl 0 (Gf _ _ yA)<|jd 4 [0] ?_
  obtain⟨x59,avQ⟩:=zG wsU i
  refine fL quc 1 quh avQ ?_
  obtain⟨l60,ah3,h60⟩:=arN.get avQ
  obtain bc6:=hn1.2 _ (zL ah3)
  obtain⟨aM6,ba1,baZ,aCz,rfl,ba0,aM5,aM4⟩:=h60
  refine jl 0 (qul _ _ avQ)<|zD 12<|js 65 (!decide ((HJ.length:Int)=(l60.length:Int))) (fun h4=>?_) (fun h4=>?_)
  ·
   replace h4:=of_decide_eq_false (by simpa using h4)
   exfalso;rw[kp Kx ah3] at h4;omega
  replace h4:=of_decide_eq_true (by simpa using h4)
  refine zD 3 ?_
  have hll:l60.length=HJ.length:=by rw[kp Kx ah3]
  refine zD 4<|dL [1,1,0,1,0,0,1,0,0,1,1,1,0,0] [K1] (fun(zz:Nat)=>[(2,zP b2),(3,zP b3),(5,zI (i:Int)),(6,.slice Vd HJ.length Q5),(7,.slice aM6 l60.length aCz),(8,zI (zz:Int))]) (fun zz=>[.b b3 (.cells ⟨[.slice qua wsU.length quc,.slice Ka KU.length Ew,.slice ga 0 gc]⟩ 31 (0,0)),.b b2 (.cells ⟨[.slice kg fD.length jo,.slice eB fK.length dH,.slice fa 0 fc]⟩ 31 (0,0))]) (fun zz=>zz≤HJ.length) (fun zz=>HJ.length-zz) 0 (Nat.zero_le _) [0,1] ?_
  rintro j hJj K2 lG rest
  refine zD 8<|zJ 69 ((j:Int) <(HJ.length:Int)) (fun h5=>?_) fun h5=>?_
  ·
   refine zD 8 ?_
   obtain⟨x74,abF⟩:=zG HJ j
   refine fL Q5 2 ae5 abF<|jl 0 (ae4 _ _ abF)<|zD 2 ?_
   obtain⟨x78,avO⟩:=zG l60 j
   refine fL aCz 2 aM5 avO<|jl 0 (aM4 _ _ avO)<|TY Fv (u9 x74.n x74.l x78.n x78.l)<|zD 1<|js 80 (!(x74.n==x78.n&&(x74.l==x78.l&&true))) (fun h6=>?_) (fun h6=>?_)
   ·
    try simp only[zB] at h6
    exfalso;have e:=kp Kx ah3;subst e;have e2:=kp abF avO;subst e2;simp at h6
   try simp only[zB] at h6
   refine zD 4<|ja ((j:Int)+1) (by omega)<|zD 2<|bF lG (j+1) (by omega) (by omega) [0,1] (Sub.refl _)
  refine zD 4<|ja ((i:Int)+1) (by omega)<|zD 2<|bF bE (i+1) (by omega) (by omega) [0,1] (Sub.refl _)
 refine zD 8<|dL [1,1,1,0,1,0,0] [] (fun(zz:Nat)=>[(2,zP b2),(3,zP b3),(9,zI (zz:Int))]) (fun zz=>[.b b3 (.cells ⟨[.slice qua wsU.length quc,.slice Ka KU.length Ew,.slice ga 0 gc]⟩ 31 (0,0)),.b b2 (.cells ⟨[.slice kg fD.length jo,.slice eB fK.length dH,.slice fa 0 fc]⟩ 31 (0,0))]) (fun zz=>zz≤fK.length) (fun zz=>fK.length-zz) 0 (Nat.zero_le _) [0,1] ?_
 rintro m hMm K3 Zy rest
 refine jd 9 [1]<|zJ 85 ((m:Int) <(fK.length:Int)) (fun h7=>?_) fun h7=>?_
 ·
  refine jd 9 [1] ?_
  obtain⟨x91,avN⟩:=zG fK m
  refine fL dH 1 qt avN<|zD 1 ?_
  obtain⟨l93,aoj,h93⟩:=dY.get avN
  obtain bc5:=hn2.2 _ (zL aoj)
  obtain⟨aM3,baY,baW,aCy,rfl,baX,aM2,aM1⟩:=h93
  refine jl 0 (qp _ _ avN)<|jd 3 [0] ?_
  obtain⟨x97,avL⟩:=zG KU m
  refine fL Ew 1 qwh avL<|zD 1 ?_
  obtain⟨l99,aoi,h99⟩:=SN.get avL
  obtain bc4:=hn2.2 _ (zL aoi)
  obtain⟨aM0,baV,baT,aCx,rfl,baU,aMZ,aMY⟩:=h99
  refine jl 0 (qwl _ _ avL)<|zD 12<|js 104 (!decide ((l93.length:Int)=(l99.length:Int))) (fun h8=>?_) (fun h8=>?_)
  ·
   replace h8:=of_decide_eq_false (by simpa using h8)
   exfalso;rw[kp aoj aoi] at h8;omega
  replace h8:=of_decide_eq_true (by simpa using h8)
  refine zD 3 ?_
  have hll:l99.length=l93.length:=by rw[kp aoj aoi]
  refine zD 4<|dL [1,1,1,0,1,0,0,1,0,0,1,1,1,0,0] [K3] (fun(zz:Nat)=>[(2,zP b2),(3,zP b3),(9,zI (m:Int)),(10,.slice aM3 l93.length aCy),(11,.slice aM0 l99.length aCx),(12,zI (zz:Int))]) (fun zz=>[.b b3 (.cells ⟨[.slice qua wsU.length quc,.slice Ka KU.length Ew,.slice ga 0 gc]⟩ 31 (0,0)),.b b2 (.cells ⟨[.slice kg fD.length jo,.slice eB fK.length dH,.slice fa 0 fc]⟩ 31 (0,0))]) (fun zz=>zz≤l93.length) (fun zz=>l93.length-zz) 0 (Nat.zero_le _) [0,1] ?_
  rintro n hNn K4 hK4 rest
  refine zD 8<|zJ 108 ((n:Int) <(l93.length:Int)) (fun h9=>?_) fun h9=>?_
  ·
   refine zD 8 ?_
   obtain⟨A5,ahc⟩:=zG l93 n
   refine fL aCy 7 aM2 ahc<|jl 0 (aM1 _ _ ahc)<|zD 2 ?_
   obtain⟨A4,ahb⟩:=zG l99 n
   refine fL aCx 7 aMZ ahb<|jl 0 (aMY _ _ ahb)<|TY aOp (aHv A5.k A5.st A5.ot A5.fn A5.fl A5.tn A5.tl A4.k A4.st A4.ot A4.fn A4.fl A4.tn A4.tl)<|zD 1<|js 119 (!(A5.k==A4.k&&(A5.st==A4.st&&(A5.ot==A4.ot&&((A5.fn==A4.fn&&(A5.fl==A4.fl&&true))&&((A5.tn==A4.tn&&(A5.tl==A4.tl&&true))&&(true))))))) (fun DM=>?_) (fun DM=>?_)
   ·
    try simp only[zB] at DM
    exfalso;have e:=kp aoj aoi;subst e;have e2:=kp ahc ahb;subst e2;simp at DM
   try simp only[zB] at DM
   refine zD 4<|ja ((n:Int)+1) (by omega)<|zD 2<|bF hK4 (n+1) (by omega) (by omega) [0,1] (Sub.refl _)
  refine zD 4<|ja ((m:Int)+1) (by omega)<|zD 2<|bF Zy (m+1) (by omega) (by omega) [0,1] (Sub.refl _)
 refine zD 8<|dL [1,1,1,1,0,1,0,0] [] (fun(zz:Nat)=>[(2,zP b2),(3,zP b3),(13,zI (zz:Int))]) (fun zz=>[.b b3 (.cells ⟨[.slice qua wsU.length quc,.slice Ka KU.length Ew,.slice ga 0 gc]⟩ 31 (0,0)),.b b2 (.cells ⟨[.slice kg fD.length jo,.slice eB fK.length dH,.slice fa 0 fc]⟩ 31 (0,0))]) (fun zz=>zz≤0) (fun zz=>1-zz) 0 (Nat.zero_le _) [0,1] ?_
 rintro o hI K5 hK5 rest
 refine jd 9 [1]<|zJ 124 ((o:Int) <0) (fun BT=>?_) fun BT=>?_
 ·
  exfalso;omega
 refine zD 7<|zX (.bool true) ⟨rfl,rfl⟩
theorem asP{v w:Value}{xs:List cR}(hp:a8 ro v 2 fW xs)(hq:a8 ro w 2 fW xs)(hn:xs.length≤100):dv zT 61 [v,w] ro (.bool true):=by
 obtain⟨Hc,qpb,qpo,Bu,rfl,qpk,NO,NN⟩:=hp
 obtain⟨qqa,qqb,qqo,qqc,rfl,qqk,qqh,qql⟩:=hq
 refine zE<|zD 13<|js 10 (!decide ((xs.length:Int)=(xs.length:Int))) (fun h1=>?_) (fun h1=>?_)
 ·
  exfalso;simp at h1
 refine zD 8<|dL [1,1,0,1,0,0] [] (fun(zz:Nat)=>[(0,.slice Hc xs.length Bu),(1,.slice qqa xs.length qqc),(5,zI (zz:Int))]) (fun zz=>[]) (fun zz=>zz≤xs.length) (fun zz=>xs.length-zz) 0 (Nat.zero_le _) [] ?_
 rintro i hIi K1 bE rest
 refine zD 8<|zJ 14 ((i:Int) <(xs.length:Int)) (fun h2=>?_) fun h2=>?_
 ·
  refine zD 8 ?_
  obtain⟨tM,pU⟩:=zG xs i
  refine fL Bu 2 NO pU<|jl 0 (NN _ _ pU)<|zD 2 ?_
  obtain⟨mV,lT⟩:=zG xs i
  refine fL qqc 2 qqh lT<|jl 0 (qql _ _ lT)<|TY aOo (aHu tM.f tM.t mV.f mV.t)<|zD 1<|js 25 (!(tM.f==mV.f&&(tM.t==mV.t&&(true)))) (fun h3=>?_) (fun h3=>?_)
  ·
   try simp only[zB] at h3
   exfalso;have e:=kp pU lT;subst e;simp at h3
  try simp only[zB] at h3
  refine zD 4<|ja ((i:Int)+1) (by omega)<|zD 2<|bF bE (i+1) (by omega) (by omega) [] (Sub.refl _)
 refine zD 7<|zX (.bool true) ⟨rfl,rfl⟩
theorem adC{v w:Value}{xs:List aB}(hp:a8 ro v 5 di xs)(hq:a8 ro w 5 di xs)(hn:xs.length≤100):dv zT 62 [v,w] ro (.bool true):=by
 obtain⟨Hc,qpb,qpo,Bu,rfl,qpk,NO,NN⟩:=hp
 obtain⟨qqa,qqb,qqo,qqc,rfl,qqk,qqh,qql⟩:=hq
 refine zE<|zD 13<|js 10 (!decide ((xs.length:Int)=(xs.length:Int))) (fun h1=>?_) (fun h1=>?_)
 ·
  exfalso;simp at h1
 refine zD 8<|dL [1,1,0,1,0,0] [] (fun(zz:Nat)=>[(0,.slice Hc xs.length Bu),(1,.slice qqa xs.length qqc),(5,zI (zz:Int))]) (fun zz=>[]) (fun zz=>zz≤xs.length) (fun zz=>xs.length-zz) 0 (Nat.zero_le _) [] ?_
 rintro i hIi K1 bE rest
 refine zD 8<|zJ 14 ((i:Int) <(xs.length:Int)) (fun h2=>?_) fun h2=>?_
 ·
  refine zD 8 ?_
  obtain⟨tM,pU⟩:=zG xs i
  refine fL Bu 5 NO pU<|jl 0 (NN _ _ pU)<|zD 2 ?_
  obtain⟨mV,lT⟩:=zG xs i
  refine fL qqc 5 qqh lT<|jl 0 (qql _ _ lT)<|TY aOn (aHt tM.name tM.st tM.no tM.head tM.bold mV.name mV.st mV.no mV.head mV.bold)<|zD 1<|js 25 (!(tM.name==mV.name&&(tM.st==mV.st&&(tM.no==mV.no&&(tM.head==mV.head&&(tM.bold==mV.bold&&(true))))))) (fun h3=>?_) (fun h3=>?_)
  ·
   try simp only[zB] at h3
   exfalso;have e:=kp pU lT;subst e;simp at h3
  try simp only[zB] at h3
  refine zD 4<|ja ((i:Int)+1) (by omega)<|zD 2<|bF bE (i+1) (by omega) (by omega) [] (Sub.refl _)
 refine zD 7<|zX (.bool true) ⟨rfl,rfl⟩
theorem asN{vc vh wc wh:Value}{cs cs2:List bO}{hv hw:List aY}{hd:List cy}(hT:Px cs hd)(h1:iv ro vc vh cs hv hd)(h2:iv ro wc wh cs2 hw hd)(hcs:cs2=cs):dv zT 60 [.agg ⟨[vc,vh]⟩,.agg ⟨[wc,wh]⟩] ro (.bool true):=by
 obtain⟨hc,hh,hA1⟩:=h1
 obtain⟨he,hk,hA2⟩:=h2
 obtain⟨dS,yw,yu,dP,rfl,AR,vK,vJ⟩:=hc
 obtain⟨dC,s9,s8,de,rfl,uX,pJ,pH⟩:=hh
 obtain⟨qea,qeb,qeo,qec,rfl,qek,qeh,qel⟩:=he
 obtain⟨qka,qkb,qko,qkc,rfl,qkk,qkh,qkl⟩:=hk
 have yR:=hA1.len
 have pF:=hA2.len
 have hnh:=hT.nh
 have Dy:=hT.nc
 have iZ:cs2.length=cs.length:=by rw[hcs]
 refine zE<|zD 2<|jn fun b2=>jn fun b3=>jd 13 [1,0]<|js 16 (!decide ((cs.length:Int)=(cs2.length:Int))) (fun h1=>?_) (fun h1=>?_)
 ·
  have fH:=h1
  replace fH:=of_decide_eq_false (by simpa using fH)
  exfalso;omega
 have fH:=h1
 replace fH:=of_decide_eq_true (by simpa using fH)
 refine jd 9 [1,0]<|js 24 (!decide ((hv.length:Int)=(hw.length:Int))) (fun h2=>?_) (fun h2=>?_)
 ·
  replace h2:=of_decide_eq_false (by simpa using h2)
  exfalso;omega
 replace h2:=of_decide_eq_true (by simpa using h2)
 refine zD 8<|dL [1,1,0,1,0,0] [] (fun(zz:Nat)=>[(2,zP b2),(3,zP b3),(5,zI (zz:Int))]) (fun zz=>[.b b3 (.cells ⟨[.slice qea cs2.length qec,.slice qka hw.length qkc]⟩ 35 (0,0)),.b b2 (.cells ⟨[.slice dS cs.length dP,.slice dC hv.length de]⟩ 35 (0,0))]) (fun zz=>zz≤cs.length) (fun zz=>cs.length-zz) 0 (Nat.zero_le _) [0,1] ?_
 rintro i hIi K1 bE rest
 refine jd 9 [1]<|zJ 29 ((i:Int) <(cs.length:Int)) (fun h3=>?_) fun h3=>?_
 ·
  refine jd 9 [1] ?_
  obtain⟨x35,HU⟩:=zG cs i
  refine fL dP 2 vK HU<|jl 0 (vJ _ _ HU)<|jd 3 [0] ?_
  obtain⟨x40,Sb⟩:=zG cs2 i
  refine fL qec 2 qeh Sb<|jl 0 (qel _ _ Sb)<|TY aDq (ayr x35.name x35.under x40.name x40.under)<|zD 1<|js 42 (!(x35.name==x40.name&&(x35.under==x40.under&&(true)))) (fun h4=>?_) (fun h4=>?_)
  ·
   try simp only[zB] at h4
   exfalso;rw[hcs] at Sb;have e:=kp HU Sb;subst e;simp at h4
  try simp only[zB] at h4
  refine zD 4<|ja ((i:Int)+1) (by omega)<|zD 2<|bF bE (i+1) (by omega) (by omega) [0,1] (Sub.refl _)
 refine zD 8<|dL [1,1,1,0,1,0,0] [] (fun(zz:Nat)=>[(2,zP b2),(3,zP b3),(6,zI (zz:Int))]) (fun zz=>[.b b3 (.cells ⟨[.slice qea cs2.length qec,.slice qka hw.length qkc]⟩ 35 (0,0)),.b b2 (.cells ⟨[.slice dS cs.length dP,.slice dC hv.length de]⟩ 35 (0,0))]) (fun zz=>zz≤hv.length) (fun zz=>hv.length-zz) 0 (Nat.zero_le _) [0,1] ?_
 rintro j hJj K2 lG rest
 refine jd 9 [1]<|zJ 47 ((j:Int) <(hv.length:Int)) (fun h5=>?_) fun h5=>?_
 ·
  refine jd 9 [1] ?_
  obtain⟨xF,yA⟩:=zG hv j
  refine fL de 4 pJ yA<|jl 0 (pH _ _ yA)<|jd 3 [0] ?_
  obtain⟨q7,HS⟩:=zG hw j
  refine fL qkc 4 qkh HS<|jl 0 (qkl _ _ HS)<|Gm [10,11] ⟨fun z3 t4 Au=>?_,fun z6 t7 OH=>?_,trivial⟩
  ·
   refine jn fun b7=>ep Au [1,2]<|aS 11 fun Ni Nt KD=>jn fun b8=>ep KD [1,2,3]<|aS 12 fun yG yI qN=>PS 1 b7 0 [.string ByteArray.empty,zI 0,zI 0,zS] [.string xF.word,zI xF.cls,zI xF.lE,xF.dt] 143 (eX hA1 _ (zL yA)) rfl<|fR qN [[],[2]]<|aS 13 fun Eh Eo wQ=>PS 1 b8 0 [.string ByteArray.empty,zI 0,zI 0,zS] [.string q7.word,zI q7.cls,zI q7.lE,q7.dt] 143 (eX hA2 _ (zL HS)) rfl<|gA wQ<|zD 2 ?_
   obtain⟨y54,agZ,Ox⟩:=hA1.get yA
   obtain⟨y59,avF,Ow⟩:=hA2.get HS
   obtain rfl:=kp agZ avF
   have T3:=(hT.u4 _ _ agZ).2.2.1.1
   have hq1:xF.word=q7.word:=Ox.1.trans Ow.1.symm
   have hq2:xF.cls=q7.cls:=Ox.2.1.trans Ow.2.1.symm
   have hq3:xF.lE=q7.lE:=Ox.2.2.1.trans Ow.2.2.1.symm
   refine jd 7 [1,0]<|js 65 (!(cI xF.word q7.word)) (fun DM=>?_) (fun DM=>?_)
   ·
    have ajt:=DM
    try simp only[zB] at ajt
    exfalso;rw[hq1] at ajt;simp[cI] at ajt
   have ajt:=DM
   try simp only[zB] at ajt
   refine jd 7 [1,0]<|js 72 (!decide (xF.cls=q7.cls)) (fun BT=>?_) (fun BT=>?_)
   ·
    have ajs:=BT
    replace ajs:=of_decide_eq_false (by simpa using ajs)
    exfalso;omega
   have ajs:=BT
   replace ajs:=of_decide_eq_true (by simpa using ajs)
   refine jd 7 [1,0]<|js 79 (!decide (xF.lE=q7.lE)) (fun EP=>?_) (fun EP=>?_)
   ·
    have Iz:=EP
    replace Iz:=of_decide_eq_false (by simpa using Iz)
    exfalso;omega
   have Iz:=EP
   replace Iz:=of_decide_eq_true (by simpa using Iz)
   refine jd 4 [1,0]<|jp (vs:=[xF.dt,q7.dt]) [] [] (fun aF hs hZ=>(show dv _ _ _ _ (.bool true) from by have:=Tl (Ox.2.2.2.up hs) (Ow.2.2.2.up hs) (by omega) (by omega);rwa[B5] at this)) ?_
   refine zD 7<|ja ((j:Int)+1) (by omega)<|zD 2<|bF lG (j+1) (by omega) (by omega) [2,3] (Sub.refl _)
  refine jn fun b8=>ep OH [1,2]<|aS 10 fun GC GS wP=>jn fun b7=>ep wP [1,2,3]<|aS 12 fun Xq XF DL=>PS 0 b7 0 [.string ByteArray.empty,zI 0,zI 0,zS] [.string xF.word,zI xF.cls,zI xF.lE,xF.dt] 143 (eX hA1 _ (zL yA)) rfl<|fR DL [[],[2]]<|aS 13 fun ap6 aqt aiY=>PS 1 b8 0 [.string ByteArray.empty,zI 0,zI 0,zS] [.string q7.word,zI q7.cls,zI q7.lE,q7.dt] 143 (eX hA2 _ (zL HS)) rfl<|gA aiY<|zD 2 ?_
  obtain⟨y54,agZ,Ox⟩:=hA1.get yA
  obtain⟨y59,avF,Ow⟩:=hA2.get HS
  obtain rfl:=kp agZ avF
  have T3:=(hT.u4 _ _ agZ).2.2.1.1
  have hq1:xF.word=q7.word:=Ox.1.trans Ow.1.symm
  have hq2:xF.cls=q7.cls:=Ox.2.1.trans Ow.2.1.symm
  have hq3:xF.lE=q7.lE:=Ox.2.2.1.trans Ow.2.2.1.symm
  refine jd 7 [1,0]<|js 65 (!(cI xF.word q7.word)) (fun SU=>?_) (fun SU=>?_)
  ·
   have qO:=SU
   try simp only[zB] at qO
   exfalso;rw[hq1] at qO;simp[cI] at qO
  have qO:=SU
  try simp only[zB] at qO
  refine jd 7 [1,0]<|js 72 (!decide (xF.cls=q7.cls)) (fun OW=>?_) (fun OW=>?_)
  ·
   have Ax:=OW
   replace Ax:=of_decide_eq_false (by simpa using Ax)
   exfalso;omega
  have Ax:=OW
  replace Ax:=of_decide_eq_true (by simpa using Ax)
  refine jd 7 [1,0]<|js 79 (!decide (xF.lE=q7.lE)) (fun PZ=>?_) (fun PZ=>?_)
  ·
   have OU:=PZ
   replace OU:=of_decide_eq_false (by simpa using OU)
   exfalso;omega
  have OU:=PZ
  replace OU:=of_decide_eq_true (by simpa using OU)
  refine jd 4 [1,0]<|jp (vs:=[xF.dt,q7.dt]) [] [] (fun aF hs hZ=>(show dv _ _ _ _ (.bool true) from by have:=Tl (Ox.2.2.2.up hs) (Ow.2.2.2.up hs) (by omega) (by omega);rwa[B5] at this)) ?_
  refine zD 7<|ja ((j:Int)+1) (by omega)<|zD 2<|bF lG (j+1) (by omega) (by omega) [2,3] (Sub.refl _)
 refine zD 7<|zX (.bool true) ⟨rfl,rfl⟩
theorem asQ{m:List Value}(hK:eR ro l K)(hM:eR ro m K)(hO:jm K):dv zT 20 [.agg ⟨l⟩,.agg ⟨m⟩] ro (.bool true):=by
 obtain⟨vS,vT,vc,vh,vr,vb,va,vf,fa,fc,hv,rfl,hS,hT,nF,_,hr,hb,ha,hf⟩:=hK
 obtain⟨wS,wT,wc,wh,wr,wb,wa,wf,ga,gc,hw,rfl,iS,iT,iTR,_,ir,ib,ia,hg⟩:=hM
 obtain⟨fp,td,tb,eS,rfl,wu,pM,pK⟩:=hf
 obtain⟨qga,qgb,qgo,qgc,rfl,qgk,qgh,qgl⟩:=hg
 have Hb:∀(i:Nat) (p:bU),([]:List bU)[i]?=some p→cb ⟨ro,[]⟩ 0 (0+i*6) 6 (jF p):=fun _ _ h=>lR h
 have yR:=hO.rules
 have pF:=hO.before.1
 have JL:=hO.after.1
 have JK:=hO.facts.1
 have hn1:K.str.length≤100∧∀l∈K.str,l.length≤100:=⟨by rw[hO.m8.two];decide,fun l hl=>by have:=hO.m8.len l hl;omega⟩
 have hn2:K.ways.length≤100∧∀l∈K.ways,l.length≤100:=⟨by have:=hO.ways.1;omega,fun l hl=>by have:=(hO.ways.2 l hl).1.2;omega⟩
 refine zE<|zD 2<|jn fun b2=>jn fun b3=>jd 13 [1,0]<|js 12 (!decide ((K.facts.length:Int)=(K.facts.length:Int))) (fun h1=>?_) (fun h1=>?_)
 ·
  exfalso;simp at h1
 refine zD 8<|dL [1,1,0,1,0,0] [] (fun(zz:Nat)=>[(2,zP b2),(3,zP b3),(5,zI (zz:Int))]) (fun zz=>[.b b3 (.cells ⟨[wS,wT,.slice ga 0 gc,wc,wh,wr,wb,wa,zI K.gone,zI K.new,zI K.ab,.slice qga K.facts.length qgc]⟩ 40 (0,0)),.b b2 (.cells ⟨[vS,vT,.slice fa 0 fc,vc,vh,vr,vb,va,zI K.gone,zI K.new,zI K.ab,.slice fp K.facts.length eS]⟩ 40 (0,0))]) (fun zz=>zz≤K.facts.length) (fun zz=>K.facts.length-zz) 0 (Nat.zero_le _) [0,1] ?_
 rintro i hIi K1 bE rest
 refine jd 9 [1]<|zJ 17 ((i:Int) <(K.facts.length:Int)) (fun h2=>?_) fun h2=>?_
 ·
  refine jd 9 [1] ?_
  obtain⟨mV,lT⟩:=zG K.facts i
  refine fL eS 3 pM lT<|jl 0 (pK _ _ lT)<|jd 3 [0] ?_
  obtain⟨KT,VJ⟩:=zG K.facts i
  refine fL qgc 3 qgh VJ<|jl 0 (qgl _ _ VJ)<|TY aOm (aHs mV.a mV.b mV.same KT.a KT.b KT.same)<|zD 1<|js 30 (!(mV.a==KT.a&&(mV.b==KT.b&&(mV.same==KT.same&&(true))))) (fun h3=>?_) (fun h3=>?_)
  ·
   try simp only[zB] at h3
   exfalso;have e:=kp lT VJ;subst e;simp at h3
  try simp only[zB] at h3
  refine zD 4<|ja ((i:Int)+1) (by omega)<|zD 2<|bF bE (i+1) (by omega) (by omega) [0,1] (Sub.refl _)
 refine jd 8 [1,0]<|jp (vs:=[.agg ⟨[vS,vT,.slice fa 0 fc]⟩,.agg ⟨[wS,wT,.slice ga 0 gc]⟩]) [] [] (fun aF hs hZ=>asO (hS.up hs) (hT.up hs) (iS.up hs) (iT.up hs) hn1 hn2)<|jd 5 [1,0]<|jp (vs:=[.agg ⟨[vc,vh]⟩,.agg ⟨[wc,wh]⟩]) [] [] (fun aF hs hZ=>asN hO.cX (nF.up hs) (iTR.up hs) rfl)<|jd 6 [1,0]<|jp (vs:=[vr,wr]) [] [] (fun aF hs hZ=>asP (hr.up hs) (ir.up hs) (by omega))<|jd 6 [1,0]<|jp (vs:=[vb,wb]) [] [] (fun aF hs hZ=>adC (hb.up hs) (ib.up hs) (by omega))<|jd 6 [1,0]<|jp (vs:=[va,wa]) [] [] (fun aF hs hZ=>adC (ha.up hs) (ia.up hs) (by omega))<|jd 9 [1,0]<|js 71 (decide (K.gone=K.gone)) (fun h4=>?_) (fun h4=>?_)
 ·
  have uC:=h4
  replace uC:=of_decide_eq_true uC
  refine jd 7 [1,0]<|js 78 (decide (K.new=K.new)) (fun h5=>?_) (fun h5=>?_)
  ·
   have yU:=h5
   replace yU:=of_decide_eq_true yU
   refine jd 9 [1,0]<|zX (.bool (decide (K.ab=K.ab))) ⟨by simp,rfl⟩
  have yU:=h5
  replace yU:=of_decide_eq_false yU
  exfalso;simp at yU
 have uC:=h4
 replace uC:=of_decide_eq_false uC
 exfalso;simp at uC
def PI(ro:Nat→Option Obj)(l:List Value)(K:aE)(rows:List bD):Prop:=∀aF,Sub ro aF→dQ zT 43 [.agg ⟨l⟩] aF [] (fun r Y=>∃f,r= .tuple ⟨[pV f,zI 0]⟩∧∀kU,Sub aF kU→Knows kU Y→ov kU f K rows∧aIJ kU f l rows)
theorem apA(hK:eR ro l K)(hO:jm K)(hV:eH K):PI ro l K (dq K):=
 fun aF hs=>agO (hK.up hs) hO hV (Uo hO) ((Qp hK hO).up hs) ((Xw hK hO).up hs)
def FX(K:aE)(x:bK)(rows:List bD):Bool:=FV K rows (aQ K)&& !FV (cu K x) rows (aQ (cu K x))
theorem MY{α:Type}{p:α→Bool}:∀(l:List α) (k:Nat),decide (bJ p l k≥0)=l.any p
 | [],k=>by simp[bJ]
 |x::l,k=>by
  have ih:=MY (p:=p) l (k+1)
  simp only[bJ,List.any_cons]
  by_cases h:p x=true
  ·simp only[h,cond_true,Bool.true_or];exact decide_eq_true (by omega)
  have h':p x=false:=by simpa using h
  simp only[h',cond_false,Bool.false_or];exact ih
theorem KY:decide (bJ (zh x) fs 0≥0)=oJ fs x.a x.b:=MY fs 0
theorem avv{vp:Value}(hK:eR ro l K)(hO:jm K)(hp:a8 ro vp 3 kJ fs)(hn:fs.length≤1000)(hx:(0≤x.a∧x.a <K.before.length)∧(0≤x.b∧x.b <K.after.length))(hw:0≤bJ (zh x) fs 0):dv zT 55 [.agg ⟨l⟩,vp,.agg ⟨[zI x.a,zI x.b,.bool x.same]⟩] ro (zI 4):=by
 obtain⟨vS,vT,vc,vh,vr,vb,va,vf,fa,fc,hv,rfl,hS,hT,nF,mH,hr,hb,ha,hf⟩:=hK
 obtain⟨fD,hs,ei⟩:=id hS
 obtain⟨fK,ht,dY⟩:=id hT
 obtain⟨hc,hh,rJ⟩:=id nF
 obtain⟨kg,PO,PM,jo,rfl,PN,Gg,Gf⟩:=hs
 obtain⟨eB,yM,yK,dH,rfl,yL,qt,qp⟩:=ht
 obtain⟨dS,yw,yu,dP,rfl,AR,vK,vJ⟩:=hc
 obtain⟨dC,s9,s8,de,rfl,uX,pJ,pH⟩:=hh
 obtain⟨ju,Fg,Ff,jq,rfl,Kb,Ey,Ex⟩:=hr
 obtain⟨jD,Hf,Hd,jv,rfl,He,Gi,Gh⟩:=hb
 obtain⟨iW,Fs,Fj,iQ,rfl,Fo,EA,Ez⟩:=ha
 obtain⟨fp,td,tb,eS,rfl,wu,pM,pK⟩:=hf
 have yR:=hO.rules
 have pF:=hO.before.1
 have JL:=hO.after.1
 have JK:=hO.facts.1
 have MC:=hO.ways.1
 have Gs:=ei.len
 have DE:=dY.len
 have Ua:=hO.m8.two
 have Zk:=hO.cX.nh
 have Hb:∀(i:Nat) (p:bU),([]:List bU)[i]?=some p→cb ⟨ro,[]⟩ 0 (0+i*6) 6 (jF p):=fun _ _ h=>lR h
 obtain⟨Hc,qpb,qpo,Bu,rfl,qpk,NO,NN⟩:=hp
 refine zE<|zD 2<|jn fun b3=>jn fun b5=>jd 12 [0,1]<|ja ((K.before.length:Int)-1) (by omega)<|jp (vs:=[zI x.a,zI 0,zI ((K.before.length:Int)-1)]) [] [] (fun aF hs hZ=>dW)<|zD 3<|js 7 (!(gT x.a 0 ((K.before.length:Int)-1))) (fun h1=>?_) (fun h1=>?_)
 ·
  try simp only[zB] at h1
  exfalso;simp only[gT,Bool.and_eq_false_iff,decide_eq_false_iff_not] at h1;omega
 try simp only[zB] at h1
 refine jd 7 [0,1]<|ja ((K.after.length:Int)-1) (by omega)<|jp (vs:=[zI x.b,zI 0,zI ((K.after.length:Int)-1)]) [] [] (fun aF hs hZ=>dW)<|zD 3<|js 7 (!(gT x.b 0 ((K.after.length:Int)-1))) (fun h2=>?_) (fun h2=>?_)
 ·
  try simp only[zB] at h2
  exfalso;simp only[gT,Bool.and_eq_false_iff,decide_eq_false_iff_not] at h2;omega
 try simp only[zB] at h2
 refine zD 5<|jp (vs:=[.slice Hc fs.length Bu,.func (.func 93) ⟨[]⟩ ⟨[zP b5]⟩]) [0] [(b5,.cells ⟨[zI x.a,zI x.b,.bool x.same]⟩ 54 (0,0))] (fun aF hs hZ=>YR ((show a8 _ _ _ _ _ from ⟨Hc,qpb,qpo,Bu,rfl,qpk,NO,NN⟩).up hs) (by first|omega| (simp only[List.length_set,zM];omega)) hZ.head) ?_
 refine zD 2<|js 24 (decide (bJ (zh x) fs 0≥0)) (fun h3=>?_) (fun h3=>?_)
 ·
  refine zD 6<|zX (zI 4) ⟨rfl,rfl⟩
 exfalso;have:=of_decide_eq_false h3;omega
theorem aDT{rows:List bD}(hK:eR ro l K)(hC:jm K)(hV:eH K)(hR:rows.length≤2)(hB:PI ro l K rows)(Zi:K.facts.length≤3)(hx:(0≤x.a∧x.a <K.before.length)∧(0≤x.b∧x.b <K.after.length))(dX:oJ K.facts x.a x.b=true):dQ zT 18 [.agg ⟨l⟩,.agg ⟨[zI x.a,zI x.b,.bool x.same]⟩] ro [] (fun r Y=>∃(v0 v1 v3 v4 v5 v6 v7 vb:Value) (fa:Option Addr) (fc:Nat) (g n m e:Int),r= .tuple ⟨[.agg ⟨[v0,v1,.slice fa 0 fc,v3,v4,v5,v6,v7,zI g,zI n,zI m,vb]⟩,zI e]⟩∧(∀v∈[v0,v1,v3,v4,v5,v6,v7,vb],single v=true)∧(e=4)):=by
 have MJ:=hK
 obtain⟨v0,v1,v3,v4,v5,v6,v7,vb,fa,fc,hv,rfl,hS,hT,nF,mH,hr,hb,ha,hf⟩:=id hK
 have hf0:=hf
 obtain⟨fp,td,tb,eS,rfl,wu,pM,pK⟩:=hf
 refine zE<|zD 2<|jn fun b2=>jn fun b3=>jn fun b4=>jd 5 [2]<|jc (vs:=[.agg ⟨[v0,v1,.slice fa 0 fc,v3,v4,v5,v6,v7,zI K.gone,zI K.new,zI K.ab,.slice fp K.facts.length eS]⟩]) [] (hB _ (Sub.refl _)) ?_
 rintro _ Y12 ⟨f12,rfl,Wm⟩
 refine zD 5<|jf [0] Y12 (fun yt bL iJ=>?_)
 obtain⟨yE,vt,aFL,hvt⟩:=Wm _ bL iJ
 have ahl:∀v∈[v0,v1,.slice fa 0 fc,v3,v4,v5,v6,v7,zI K.gone,zI K.new,zI K.ab,.slice fp K.facts.length eS,vt],single v=true:=ny hK.L.all (iB hvt)
 refine jd 17 [2]<|zJ 22 ((K.facts.length:Int)=4) (fun h4=>?_) fun h4=>?_
 ·
  exfalso;omega
 refine jd 9 [2,2,1]<|jp (vs:=[.agg ⟨[v0,v1,.slice fa 0 fc,v3,v4,v5,v6,v7,zI K.gone,zI K.new,zI K.ab,.slice fp K.facts.length eS]⟩,.slice fp K.facts.length eS,.agg ⟨[zI x.a,zI x.b,.bool x.same]⟩]) [] [] (fun aF hs hZ=>(avv ((MJ.up bL).up hs) hC ((hf0.up bL).up hs) (by omega) hx (of_decide_eq_true (KY.trans dX))))<|jd 16 [0]<|aI q0.a (.tuple ⟨[.agg ⟨zO⟩,zI 4]⟩) [0] [] [] bL ⟨_,_,rfl,rfl,_,_,_,_,_,_,_,_,_,_,_,_,_,_,rfl,qn rfl rfl rfl rfl rfl rfl rfl rfl,rfl⟩
theorem aDU{rows:List bD}(hK:eR ro l K)(hC:jm K)(hV:eH K)(hR:rows.length≤2)(hB:PI ro l K rows)(Zi:K.facts.length≤3)(hx:(0≤x.a∧x.a <K.before.length)∧(0≤x.b∧x.b <K.after.length))(htn:oJ K.facts x.a x.b=false):dQ zT 18 [.agg ⟨l⟩,.agg ⟨[zI x.a,zI x.b,.bool x.same]⟩] ro [] (fun r Y=>∃(v0 v1 v3 v4 v5 v6 v7 vb:Value) (fa:Option Addr) (fc:Nat) (g n m e:Int),r= .tuple ⟨[.agg ⟨[v0,v1,.slice fa 0 fc,v3,v4,v5,v6,v7,zI g,zI n,zI m,vb]⟩,zI e]⟩∧(∀v∈[v0,v1,v3,v4,v5,v6,v7,vb],single v=true)∧((FX K x rows=true∧e=9)∨(FX K x rows=false∧e=0∧∀aC,Sub ro aC→Knows aC Y→eR aC [v0,v1,.slice fa 0 fc,v3,v4,v5,v6,v7,zI g,zI n,zI m,vb] (cu K x)))):=by
 have MJ:=hK
 obtain⟨v0,v1,v3,v4,v5,v6,v7,vb,fa,fc,hv,rfl,hS,hT,nF,mH,hr,hb,ha,hf⟩:=id hK
 have hf0:=hf
 obtain⟨fp,td,tb,eS,rfl,wu,pM,pK⟩:=hf
 refine agP ar [] [] aU<|zD 2<|jn fun b2=>jn fun b3=>jn fun b4=>jd 5 [2]<|jc (vs:=[.agg ⟨[v0,v1,.slice fa 0 fc,v3,v4,v5,v6,v7,zI K.gone,zI K.new,zI K.ab,.slice fp K.facts.length eS]⟩]) [] (hB _ (Sub.refl _)) ?_
 rintro _ Y12 ⟨f12,rfl,Wm⟩
 refine zD 5<|jf [0] Y12 (fun yt bL iJ=>?_)
 obtain⟨yE,vt,aFL,hvt⟩:=Wm _ bL iJ
 have ahl:∀v∈[v0,v1,.slice fa 0 fc,v3,v4,v5,v6,v7,zI K.gone,zI K.new,zI K.ab,.slice fp K.facts.length eS,vt],single v=true:=ny hK.L.all (iB hvt)
 refine jd 17 [2]<|zJ 22 ((K.facts.length:Int)=4) (fun h4=>?_) fun h4=>?_
 ·
  exfalso;omega
 refine jd 9 [2,2,1]<|jp (vs:=[.agg ⟨[v0,v1,.slice fa 0 fc,v3,v4,v5,v6,v7,zI K.gone,zI K.new,zI K.ab,.slice fp K.facts.length eS]⟩,.slice fp K.facts.length eS,.agg ⟨[zI x.a,zI x.b,.bool x.same]⟩]) [] [] (fun aF hs hZ=>(arc ((MJ.up bL).up hs) hC ((hf0.up bL).up hs) (by omega) hx (by have:=of_decide_eq_false (KY.trans htn);omega))) ?_
 refine zD 13<|jl (b:=f12) (off:=0) (m:=13) (vs:=[v0,v1,.slice fa 0 fc,v3,v4,v5,v6,v7,zI K.gone,zI K.new,zI K.ab,.slice fp K.facts.length eS,vt]) 0 ⟨_,_,_,.inl aFL,rfl⟩<|jn fun b9=>PS 0 b9 0 [zS,zS,zS,zS,zS,zS,zS,zS,zI 0,zI 0,zI 0,zS,zS] [v0,v1,.slice fa 0 fc,v3,v4,v5,v6,v7,zI K.gone,zI K.new,zI K.ab,.slice fp K.facts.length eS,vt] 128 ahl rfl<|zD 2<|EL [1,1,1,1,1,1,1] [] (fun(zz:Value×Cells)=>[(4,zP b4),(5,zI 0),(6,zP f12),(9,zP b9)]) (fun zz=>[.b b9 (.cells ⟨[v0,v1,.slice fa 0 fc,v3,v4,v5,v6,v7,zI K.gone,zI K.new,zI K.ab,zz.1,vt]⟩ 128 (0,0)),.l zz.2,.b b4 (.cells ⟨zO⟩ 40 (0,0)),.b b3 (.cells ⟨[zI x.a,zI x.b,.bool x.same]⟩ 54 (0,0)),.b b2 (.cells ⟨[v0,v1,.slice fa 0 fc,v3,v4,v5,v6,v7,zI K.gone,zI K.new,zI K.ab,.slice fp K.facts.length eS]⟩ 40 (0,0))]) (fun zz=>aw zz.1 3 54 kJ (K.facts++[x]) zz.2) ?_ (fun K1 bE=>?_)
 ·
  rintro⟨vF,LF⟩ hJ rest
  dsimp only at hJ
  refine zD 3<|jf [0,1] ((b9,.cells ⟨[v0,v1,.slice fa 0 fc,v3,v4,v5,v6,v7,zI K.gone,zI K.new,zI K.ab,vF,vt]⟩ 128 (0,0))::LF) (fun ro7 PW hk6=>?_)
  have ahe:=hJ.jC (hk6).tail
  have hFB:ov ro7 b9 (cu K x) rows:=⟨_,_,_,_,_,_,_,_,_,_,hv,hk6 _ (.head _),nF.up (bL.trans PW),mH,hr.up (bL.trans PW),hb.up (bL.trans PW),ha.up (bL.trans PW),ahe,hvt.up PW⟩
  have hVx:eH (cu K x):=hV.add (t:=x) Zi hx.1 hx.2
  replace yE:=yE.up PW
  refine zD 2<|jp (vs:=[zP f12]) [] [] (fun aF hs hZ=>HL hV (yE.up hs))<|jc (vs:=[zP f12,.int .u8 (aQ K)]) [] (ayo (K:=K) yE hV (by omega)) ?_
  rintro _ _ ⟨rfl,rfl⟩
  refine jg 0 []<|zD 1<|js 48 (FV K rows (aQ K)) (fun h8=>?_) (fun h8=>?_)
  ·
   refine jp (vs:=[zP b9]) [] [] (fun aF hs hZ=>HL hVx (hFB.up hs))<|jc (vs:=[zP b9,.int .u8 (aQ (cu K x))]) [] (ayo (K:=(cu K x)) hFB hVx (by omega)) ?_
   rintro _ _ ⟨rfl,rfl⟩
   refine jg 0 []<|zD 3<|js 52 (!(FV (cu K x) rows (aQ (cu K x)))) (fun h9=>?_) (fun h9=>?_)
   ·
    try simp only[zB] at h9
    refine jd 8 [0]<|jrM qm0.a.a (.tuple ⟨[.agg ⟨zO⟩,zI 9]⟩) [] [0] [] [] (bL.trans PW) ⟨_,_,_,_,_,_,_,_,_,_,_,_,_,_,rfl,qn rfl rfl rfl rfl rfl rfl rfl rfl,.inl ⟨by rw[FX];simp[*],rfl⟩⟩
   try simp only[zB] at h9
   refine zD 5<|jl (b:=b9) (off:=0) (m:=13) (vs:=[v0,v1,.slice fa 0 fc,v3,v4,v5,v6,v7,zI K.gone,zI K.new,zI K.ab,vF,vt]) 0 ⟨_,_,_,.inl (hk6 _ (.head _)),rfl⟩<|jc (vs:=[.agg ⟨[v0,v1,.slice fa 0 fc,v3,v4,v5,v6,v7,zI K.gone,zI K.new,zI K.ab,vF]⟩]) [] (YS (fs:=K.facts++[x]) MJ (bL.trans PW) ahe hC (by simp only[zM];omega)) ?_
   rintro _ Z56 ⟨_,_,rfl,⟨Bj,Bi,Bh,Bg,Bf,Be,Bd,Bb,Bc,Ba,DF,ahk⟩,aw0,rfl⟩
   have ahi:=Jz.all (K:=K) ⟨Bj,Bi,Bh,Bg,Bf,Be,Bd,Bb,Bc,Ba,DF,ahk⟩
   subst DF
   refine PS 1 b4 0 zO [Bj,Bi,.slice Bc 0 Ba,Bh,Bg,Bf,Be,Bd,zI K.gone,zI K.new,zI K.ab,Bb] 40 ahi rfl<|zD 3<|jrM qm0.a.a (.tuple ⟨[.agg ⟨[Bj,Bi,.slice Bc 0 Ba,Bh,Bg,Bf,Be,Bd,zI K.gone,zI K.new,zI K.ab,Bb]⟩,zI 0]⟩) [] [0] [1] Z56 (bL.trans PW) ⟨Bj,Bi,Bh,Bg,Bf,Be,Bd,Bb,Bc,Ba,_,_,_,_,rfl,ahk,.inr ⟨by rw[FX];simp[*],rfl,fun aC h1 h2=>aw0 aC h1 h2⟩⟩
  refine zD 10<|jl (b:=b9) (off:=0) (m:=13) (vs:=[v0,v1,.slice fa 0 fc,v3,v4,v5,v6,v7,zI K.gone,zI K.new,zI K.ab,vF,vt]) 0 ⟨_,_,_,.inl (hk6 _ (.head _)),rfl⟩<|jc (vs:=[.agg ⟨[v0,v1,.slice fa 0 fc,v3,v4,v5,v6,v7,zI K.gone,zI K.new,zI K.ab,vF]⟩]) [] (YS (fs:=K.facts++[x]) MJ (bL.trans PW) ahe hC (by simp only[zM];omega)) ?_
  rintro _ Z56 ⟨_,_,rfl,⟨Bj,Bi,Bh,Bg,Bf,Be,Bd,Bb,Bc,Ba,DF,ahk⟩,aw0,rfl⟩
  have ahi:=Jz.all (K:=K) ⟨Bj,Bi,Bh,Bg,Bf,Be,Bd,Bb,Bc,Ba,DF,ahk⟩
  subst DF
  refine PS 1 b4 0 zO [Bj,Bi,.slice Bc 0 Ba,Bh,Bg,Bf,Be,Bd,zI K.gone,zI K.new,zI K.ab,Bb] 40 ahi rfl<|zD 3<|jrM qm0.a.a (.tuple ⟨[.agg ⟨[Bj,Bi,.slice Bc 0 Ba,Bh,Bg,Bf,Be,Bd,zI K.gone,zI K.new,zI K.ab,Bb]⟩,zI 0]⟩) [] [0] [1] Z56 (bL.trans PW) ⟨Bj,Bi,Bh,Bg,Bf,Be,Bd,Bb,Bc,Ba,_,_,_,_,rfl,ahk,.inr ⟨by rw[FX];simp[*],rfl,fun aC h1 h2=>aw0 aC h1 h2⟩⟩
 refine jd 4 [3,2]<|Gm [2,4] ⟨fun z2 t3 qL=>?_,fun z5 t6 OI=>?_,trivial⟩
 ·
  refine jc (vs:=[.slice fp K.facts.length eS]) [] (UW ((show a8 _ _ _ _ _ from ⟨fp,td,tb,eS,rfl,wu,pM,pK⟩).up bL) (by omega)) ?_
  rintro v38 L38 ⟨_,ahR,rfl⟩
  obtain⟨aLS,aLr,axk⟩:=ahR.form
  subst axk
  refine ep qL (zN 1 4)<|aS 4 fun P8 Qv OH=>jn fun sJ=>ep OH (zN 1 5)<|aS 5 fun Ni Nt KD=>gL (sz:=3) (ps:=K.facts) (qs:=[(⟨x.a,x.b,x.same⟩:bK)]) (enc:=kJ) (w:= .slice (some ⟨sJ,0,none⟩) 1 1) [1] [0] [(sJ,.cells ⟨([(⟨x.a,x.b,x.same⟩:bK)].map kJ).flatten⟩ 54 (0,0))] (ahR) (fun s _ hZ=>bN [(⟨x.a,x.b,x.same⟩:bK)] (hZ _ (.head _)) (by intro p hp;rfl)) (fun p _=>ah rfl) (by simp only[zM];omega) (fun v41 L41 wL=>?_)
  obtain⟨Nq,Nn,OC⟩:=wL.form
  subst OC
  refine fR KD []<|zD 2<|aS 8 fun yG yI qN=>jd 1 [2]<|fR qN []<|zD 1<|bF bE ⟨(.slice Nq ((K.facts++[(⟨x.a,x.b,x.same⟩:bK)])).length Nn),L41⟩ wL Nat.zero_lt_one [2,0,3,4,5] (Sub.refl _)
 refine jn fun sJ=>ep OI (zN 1 4)<|aS 2 fun Eh Eo wQ=>jc (vs:=[.slice fp K.facts.length eS]) [] (UW ((show a8 _ _ _ _ _ from ⟨fp,td,tb,eS,rfl,wu,pM,pK⟩).up bL) (by omega)) ?_
 rintro v38 L38 ⟨_,ahR,rfl⟩
 obtain⟨aLS,aLr,axk⟩:=ahR.form
 subst axk
 refine ep wQ (zN 1 5)<|aS 5 fun GC GS wP=>gL (sz:=3) (ps:=K.facts) (qs:=[(⟨x.a,x.b,x.same⟩:bK)]) (enc:=kJ) (w:= .slice (some ⟨sJ,0,none⟩) 1 1) [0] [1] [(sJ,.cells ⟨([(⟨x.a,x.b,x.same⟩:bK)].map kJ).flatten⟩ 54 (0,0))] (ahR) (fun s _ hZ=>bN [(⟨x.a,x.b,x.same⟩:bK)] (hZ _ (.head _)) (by intro p hp;rfl)) (fun p _=>ah rfl) (by simp only[zM];omega) (fun v41 L41 wL=>?_)
 obtain⟨Nq,Nn,OC⟩:=wL.form
 subst OC
 refine fR wP []<|zD 2<|aS 8 fun Xq XF DL=>jd 1 [2]<|fR DL []<|zD 1<|bF bE ⟨(.slice Nq ((K.facts++[(⟨x.a,x.b,x.same⟩:bK)])).length Nn),L41⟩ wL Nat.zero_lt_one [2,0,3,4,5] (Sub.refl _)
theorem Jt{rows:List bD}{p:Nat→Int}:∀n,FW K rows p n=true↔∃i,i <n∧cw K.gone K.new K.ab (cB K ((rows[i]?).getD ⟨fun _ _=>false⟩) i p)=true
 |0=>⟨(fun h=>by cases h),fun⟨_,h,_⟩=>absurd h (Nat.not_lt_zero _)⟩
 |n+1=>by
  rw[FW,Bool.or_eq_true,Jt n]
  constructor
  ·rintro(⟨i,h1,h2⟩|h)
   ·exact⟨i,by omega,h2⟩
   exact⟨n,by omega,h⟩
  rintro⟨i,h1,h2⟩
  by_cases e:i=n
  ·subst e;exact .inr h2
  exact .inl ⟨i,by omega,h2⟩
theorem ZY{rows:List bD}:FV K rows (aQ K)=true↔0 <(cW K (aQ K) (cw K.gone K.new K.ab) rows).length:=by
 rw[FV,List.any_eq_true]
 constructor
 ·rintro⟨p,hp,h⟩
  obtain⟨i,hi,hk⟩:=(Jt _).1 h
  have hr:rows[i]?=some rows[i]:=List.getElem?_eq_getElem hi
  rw[hr] at hk
  refine List.length_pos_of_mem (a:=cB K rows[i] i p) (List.mem_flatten.2 ⟨_,List.mem_map.2 ⟨i,List.mem_range.2 hi,rfl⟩,?_⟩)
  simp only[hr,Option.getD_some,mX] at hk ⊢
  exact List.mem_filter.2 ⟨List.mem_map_of_mem hp,hk⟩
 intro h
 obtain⟨x,hx⟩:=List.length_pos_iff_exists_mem.1 h
 obtain⟨i,r,p,hr,hp,rfl,hk⟩:=eP hx
 exact⟨p,hp,(Jt _).2 ⟨i,(List.getElem?_eq_some_iff.1 hr).1,by rw[hr];exact hk⟩⟩
theorem aak{na nb:Nat}{xs:Bool}{zs:List aj}{v e:Int}(h3:K.facts.length≤3)(ha:na <4)(hz:zs.Perm (cW K (aQ K) (cw K.gone K.new K.ab) (dq K)))
 (hp:(zs=[]∧e=9∧v=0)∨(zs≠[]∧e=0∧v=nH ((ax zs).c na nb) ((zs.length:Nat):Int))):FX K ⟨(na:Int),(nb:Int),xs⟩ (dq K)=true↔e=0∧((xs=true∧v=2)∨(xs=false∧v=1)):=by
 have hl:zs.length=cN K:=hz.length_eq
 have hc:(ax zs).c na nb=(AK K).c na nb:=by rw[xm hz];rfl
 have h1:=akH (K:=K) (i:=na) (j:=nb) h3 ha
 have h2:=UB (K:=K) (a:=(na:Int)) (b:=(nb:Int)) h3 ⟨by omega,by omega⟩ (by omega)
 have hle:=apC K na nb
 have hA:FX K ⟨(na:Int),(nb:Int),xs⟩ (dq K)=true↔0 <cN K∧cN (cu K ⟨(na:Int),(nb:Int),xs⟩)=0:=by
  rw[FX,Bool.and_eq_true,Bool.not_eq_true',ZY,←Bool.not_eq_true,ZY]
  show 0 <cN K∧¬0 <cN (cu K ⟨(na:Int),(nb:Int),xs⟩)↔_
  omega
 rw[hA]
 rcases hp with ⟨hn,he,hv⟩| ⟨hn,he,hv⟩
 ·rw[hn,List.length_nil] at hl
  constructor
  ·rintro⟨h,_⟩;omega
  rintro⟨h,_⟩;omega
 have awg:=List.length_pos_iff.2 hn
 rw[hc,hl] at hv
 simp only[nH] at hv
 cases xs with
 |true=>
  simp only[true_and,Bool.true_eq_false,false_and,or_false]
  split at hv
  ·omega
  split at hv<;>omega
 |false=>
  simp only[true_and,Bool.false_eq_true,false_and,false_or]
  split at hv
  ·omega
  split at hv<;>omega
theorem aDV{rows:List bD}(hK:eR ro l K)(hC:jm K)(hV:eH K)(hR:rows.length≤2)(hB:PI ro l K rows)(Zi:K.facts.length≤3)(hx:(0≤x.a∧x.a <K.before.length)∧(0≤x.b∧x.b <K.after.length)):dQ zT 18 [.agg ⟨l⟩,.agg ⟨[zI x.a,zI x.b,.bool x.same]⟩] ro [] (fun r Y=>∃(v0 v1 v3 v4 v5 v6 v7 vb:Value) (fa:Option Addr) (fc:Nat) (g n m e:Int),r= .tuple ⟨[.agg ⟨[v0,v1,.slice fa 0 fc,v3,v4,v5,v6,v7,zI g,zI n,zI m,vb]⟩,zI e]⟩∧(∀v∈[v0,v1,v3,v4,v5,v6,v7,vb],single v=true)∧((oJ K.facts x.a x.b=true∧e=4)∨(oJ K.facts x.a x.b=false∧((FX K x rows=true∧e=9)∨(FX K x rows=false∧e=0∧∀aC,Sub ro aC→Knows aC Y→eR aC [v0,v1,.slice fa 0 fc,v3,v4,v5,v6,v7,zI g,zI n,zI m,vb] (cu K x)))))):=by
 cases ht:oJ K.facts x.a x.b
 ·exact(aDU hK hC hV hR hB Zi hx ht).mono fun r Y ⟨v0,v1,v3,v4,v5,v6,v7,vb,fa,fc,g,n,m,e,h1,h2,h3⟩=>⟨v0,v1,v3,v4,v5,v6,v7,vb,fa,fc,g,n,m,e,h1,h2,.inr ⟨rfl,h3⟩⟩
 exact(aDT hK hC hV hR hB Zi hx ht).mono fun r Y ⟨v0,v1,v3,v4,v5,v6,v7,vb,fa,fc,g,n,m,e,h1,h2,h3⟩=>⟨v0,v1,v3,v4,v5,v6,v7,vb,fa,fc,g,n,m,e,h1,h2,.inl ⟨rfl,h3⟩⟩
theorem au2(hN:Dn ro vd xs):asw zT 5 [vd] ro (fun r Y=>r= .bool true∧Y=[]):=by
 have hN0:=hN
 obtain⟨hl,hxn⟩:=hN
 obtain⟨dB,mP,mO,dz,rfl,qd,gY,jV⟩:=hl
 refine aDX ar (by kernel_rfl) [] aU fun fr=>zD 7<|jc (vs:=[.slice dB xs.length dz]) [] (aUa hN0.1) ?_
 rintro _ X16 ⟨d16,rfl,ai5⟩
 refine zD 5<|jcG (vs:=[zP d16,zI 3,zI 2]) [0] (aUb hN0 ai5 (by decide) (by decide)) ?_
 rintro _ aF X18 bL ⟨K,l,rfl,hO,u3,hK,OT⟩
 obtain⟨v0,v1,v3,v4,v5,v6,v7,vb,va,vc,hv,rfl,_,_,_,_,_,hb,ha,hf⟩:=id hK
 obtain⟨jD,Hf,Hd,jv,rfl,He,Gi,Gh⟩:=hb
 obtain⟨iW,Fs,Fj,iQ,rfl,Fo,EA,Ez⟩:=ha
 obtain⟨fp,td,tb,eS,rfl,wu,pM,pK⟩:=hf
 have hC:=hO.c
 have hV:=hO.v
 have awK:=hO.wE
 have Ir:=hV.before.1
 have MI:=hV.after.1
 refine jn fun b4=>PS 0 b4 0 zO [v0,v1,.slice va 0 vc,v3,v4,v5,.slice jD K.before.length jv,.slice iW K.after.length iQ,zI K.gone,zI K.new,zI K.ab,.slice fp K.facts.length eS] 40 hK.L.all rfl<|jd 9 [0]<|js 19 (decide ((K.before.length:Int)=0)) (fun h2=>?_) (fun h2=>?_)
 ·
  have kI:=h2
  replace kI:=of_decide_eq_true kI
  refine zD 9<|JF [] (fun _ _ h=>h) (Bs) ?_
  rintro _ _ ⟨rfl,rfl⟩
  refine jg 0 []<|zD 3<|Fx qC.a (.bool true) [2] [] bL ⟨rfl,rfl⟩
 have kI:=h2
 replace kI:=of_decide_eq_false kI
 refine jd 6 [0]<|zJ 24 ((K.after.length:Int)=0) (fun h3=>?_) fun h3=>?_
 ·
  refine zD 3<|JF [] (fun _ _ h=>h) (Bs) ?_
  rintro _ _ ⟨rfl,rfl⟩
  refine jg 0 []<|zD 3<|Fx qC.a (.bool true) [2] [] bL ⟨rfl,rfl⟩
 refine jd 6 [0]<|jc (vs:=[zP d16,.agg ⟨[v0,v1,.slice va 0 vc,v3,v4,v5,.slice jD K.before.length jv,.slice iW K.after.length iQ,zI K.gone,zI K.new,zI K.ab,.slice fp K.facts.length eS]⟩]) [1] (aHF (hN0.up bL) OT (show a8 _ _ _ _ _ from ⟨jD,Hf,Hd,jv,rfl,He,Gi,Gh⟩) (show a8 _ _ _ _ _ from ⟨iW,Fs,Fj,iQ,rfl,Fo,EA,Ez⟩) (by omega)) ?_
 rintro _ X28 ⟨⟨xa,xb,xs⟩,rfl,hxa,hxb,beo⟩
 dsimp only at hxa hxb
 obtain⟨na,rfl⟩:=Int.eq_ofNat_of_zero_le hxa.1
 obtain⟨nb,rfl⟩:=Int.eq_ofNat_of_zero_le hxb.1
 have Ok:(0≤((⟨(na:Int),(nb:Int),xs⟩:bK)).a∧((⟨(na:Int),(nb:Int),xs⟩:bK)).a <K.before.length)∧(0≤((⟨(na:Int),(nb:Int),xs⟩:bK)).b∧((⟨(na:Int),(nb:Int),xs⟩:bK)).b <K.after.length):=⟨by dsimp only;omega,by dsimp only;omega⟩
 have hf3:K.facts.length≤3:=by omega
 refine jn fun b5=>jd 6 [0,2,0]<|jc (vs:=[.agg ⟨[v0,v1,.slice va 0 vc,v3,v4,v5,.slice jD K.before.length jv,.slice iW K.after.length iQ,zI K.gone,zI K.new,zI K.ab,.slice fp K.facts.length eS]⟩,.agg ⟨[zI (na:Int),zI (nb:Int),.bool xs]⟩]) [] (aDV (x:=(⟨(na:Int),(nb:Int),xs⟩:bK)) hK hC hV (mY hC) (apA hK hC hV) hf3 Ok) ?_
 rintro _ Y32 ⟨y0,y1,y3,y4,y5,y6,y7,yb,ya,yc,yg,yn,ym,e32,rfl,hys,awm⟩
 have aEb:=Jz.all (K:={K with gone:=yg,new:=yn,ab:=ym}) ⟨y0,y1,y3,y4,y5,y6,y7,yb,ya,yc,rfl,hys⟩
 refine zD 3<|jn fun b6=>PS 0 b6 0 zO [y0,y1,.slice ya 0 yc,y3,y4,y5,y6,y7,zI yg,zI yn,zI ym,yb] 40 aEb rfl<|jd 7 [4,2]<|jp (vs:=[.agg ⟨[v0,v1,.slice va 0 vc,v3,v4,v5,.slice jD K.before.length jv,.slice iW K.after.length iQ,zI K.gone,zI K.new,zI K.ab,.slice fp K.facts.length eS]⟩,.agg ⟨[zI (na:Int),zI (nb:Int),.bool xs]⟩]) [] [] (fun aF hs hZ=>aq8 (x:=(⟨(na:Int),(nb:Int),xs⟩:bK)) ((show a8 _ _ _ _ _ from ⟨fp,td,tb,eS,rfl,wu,pM,pK⟩).up hs) (by omega))<|zD 1<|js 37 (oJ K.facts (na:Int) (nb:Int)) (fun h4=>?_) (fun h4=>?_)
 ·
  have htd:oJ K.facts (na:Int) (nb:Int)=true:=by assumption
  have he4:e32=4:=(by rcases awm with h|h;exact h.2;exact Bool.noConfusion (htd.symm.trans h.1))
  refine zD 6<|js 40 (decide (e32=4)) (fun h5=>?_) (fun h5=>?_)
  ·
   have yU:=h5
   replace yU:=of_decide_eq_true yU
   refine JF [] (fun _ _ h=>h) (Bs) ?_
   rintro _ _ ⟨rfl,rfl⟩
   refine jg 0 []<|zD 4<|Fx qC.a (.bool true) [5] [] bL ⟨rfl,rfl⟩
  have yU:=h5
  replace yU:=of_decide_eq_false yU
  exfalso;omega
 have htf:oJ K.facts (na:Int) (nb:Int)=false:=by assumption
 refine jd 9 [4,2,2]<|JF (vs:=[.agg ⟨[v0,v1,.slice va 0 vc,v3,v4,v5,.slice jD K.before.length jv,.slice iW K.after.length iQ,zI K.gone,zI K.new,zI K.ab,.slice fp K.facts.length eS]⟩,zI (na:Int),zI (nb:Int)]) [] (fun _ _ h=>h) (agt (a:=na) (b:=nb) hK hV (mY hC) (AI hK hC hV) I1 (by omega) (by omega)) ?_
 rintro _ _ ⟨zV,vV,eV,hzV,rfl,rfl,hpV⟩
 have heV:eV=0∨eV=9:=by rcases hpV with h|h;exact .inr h.2.1;exact .inl h.2.1
 refine jg 0 []<|zD 12<|jj 3 [(2,.bool false),(4,zP b4),(5,zP b5),(6,zP b6),(7,zI e32),(8,zI vV),(9,zI eV),(57,.bool ((!decide (eV=0))&&(!decide (eV=9))))] (fun gN=>?_) (fun hj=>?_)
 rotate_left
 refine js 54 (!decide (eV=0)) (fun h6=>?_) (fun h6=>?_)
 ·
  have SS:=h6
  replace SS:=of_decide_eq_false (by simpa using SS)
  refine zD 3<|jw 57 (.bool ((!decide (eV=0))&&(!decide (eV=9)))) (w:= .bool (!decide (eV=9))) (by rw[h6]<;>rfl) ?_
  exact zK hj
 ·
  have SS:=h6
  replace SS:=of_decide_eq_true (by simpa using SS)
  refine zD 3<|jw 57 (.bool ((!decide (eV=0))&&(!decide (eV=9)))) (w:= .bool false) (by rw[h6]<;>rfl) ?_
  exact zK hj
 refine zD 1<|js 57 ((!decide (eV=0))&&(!decide (eV=9))) (fun h7=>?_) (fun h7=>?_)
 ·
  try simp only[zB] at h7
  exfalso;omega
 try simp only[zB] at h7
 refine zD 4<|EL [1,1,1,1,1,1,1,1,1,0,1] [] (fun(zz:Bool)=>[(2,.bool false),(4,zP b4),(5,zP b5),(6,zP b6),(7,zI e32),(76,.bool zz)]) (fun zz=>[.b b6 (.cells ⟨[y0,y1,.slice ya 0 yc,y3,y4,y5,y6,y7,zI yg,zI yn,zI ym,yb]⟩ 40 (0,0)),.l Y32,.b b5 (.cells ⟨[zI (na:Int),zI (nb:Int),.bool xs]⟩ 54 (0,0)),.l X28,.b b4 (.cells ⟨[v0,v1,.slice va 0 vc,v3,v4,v5,.slice jD K.before.length jv,.slice iW K.after.length iQ,zI K.gone,zI K.new,zI K.ab,.slice fp K.facts.length eS]⟩ 40 (0,0)),.l fr]) (fun zz=>(zz=true↔eV=0∧((xs=true∧vV=2)∨(xs=false∧vV=1)))) ?_ (fun K1 bE=>?_)
 ·
  rintro q hJq rest
  refine js 76 q (fun h8=>?_) (fun h8=>?_)
  ·
   subst h8
   refine zD 2 ?_
   have hA:FX K (⟨(na:Int),(nb:Int),xs⟩:bK) (dq K)=true:=(aak (xs:=xs) hf3 (by omega) hzV hpV).2 (hJq.1 rfl)
   have he9:e32=9:=by rcases awm with h| ⟨_,h|h⟩;exact Bool.noConfusion (h.1.symm.trans htf);exact h.2;exact Bool.noConfusion (hA.symm.trans h.1)
   refine zD 4<|js 79 (decide (e32=9)) (fun h9=>?_) (fun h9=>?_)
   ·
    have h9g:=h9
    replace h9g:=of_decide_eq_true h9g
    refine JF [] (fun _ _ h=>h) (Bs) ?_
    rintro _ _ ⟨rfl,rfl⟩
    refine jg 0 []<|zD 4<|Fx qC.a (.bool true) [5] [] bL ⟨rfl,rfl⟩
   have h9g:=h9
   replace h9g:=of_decide_eq_false h9g
   exfalso;omega
  subst h8
  refine zD 3 ?_
  have hA:FX K (⟨(na:Int),(nb:Int),xs⟩:bK) (dq K)=false:=Bool.eq_false_iff.2 fun h=>by have h2:=hJq.2 ((aak (xs:=xs) hf3 (by omega) hzV hpV).1 h);cases h2
  obtain⟨_,he0,aS7⟩:=((awm.resolve_left fun h=>Bool.noConfusion (h.1.symm.trans htf)).2.resolve_left fun h=>Bool.noConfusion (h.1.symm.trans hA))
  refine jd 2 [4]<|jc (vs:=[.agg ⟨[v0,v1,.slice va 0 vc,v3,v4,v5,.slice jD K.before.length jv,.slice iW K.after.length iQ,zI K.gone,zI K.new,zI K.ab,.slice fp K.facts.length eS]⟩]) [] (agJ hK hC) ?_
  rintro _ _ ⟨ad4,ad3,ad2,ad1,ad0,adZ,adY,aBe,adX,adW,aU9,Z83,rfl,aPS,aEV,aQW,rfl⟩
  have aEt:=Jz.all (K:=K) ⟨ad4,ad3,ad2,ad1,ad0,adZ,adY,aBe,adX,adW,rfl,aPS⟩
  refine jg 0 [.l aU9,.l Z83]<|jn (fun lV=>?_)
  obtain⟨vQ,vP,ais⟩:=aEV.form
  subst ais
  refine PS 0 lV 0 zO [ad4,ad3,.slice adX 0 adW,ad2,ad1,ad0,adZ,adY,zI K.gone,zI K.new,zI K.ab,(.slice vQ (K.facts).length vP)] 40 aEt rfl<|jd 6 [0,5]<|jn fun b87=>gL (sz:=3) (ps:=K.facts) (qs:=[(⟨(na:Int),(nb:Int),xs⟩:bK)]) (enc:=kJ) (w:= .slice (some ⟨b87,0,none⟩) 1 1) [2] [0] [(b87,.cells ⟨([(⟨(na:Int),(nb:Int),xs⟩:bK)].map kJ).flatten⟩ 54 (0,0))] (aEV) (fun s _ hZ=>bN [(⟨(na:Int),(nb:Int),xs⟩:bK)] (hZ _ (.head _)) (by intro p hp;rfl)) (fun p _=>ah rfl) (by simp only[zM];omega) (fun v88 L88 ahx=>?_)
  obtain⟨aLE,aLd,aRr⟩:=ahx.form
  subst aRr
  refine jd 5 [2]<|jf [0,3,5] (L88++(Z83++Y32)) (fun aMB abM ah8=>?_)
  have hKd:=aQW _ abM (Knows.left (Knows.right ah8)) _ _ (ahx.jC (Knows.left ah8))
  have hKy:=aS7 _ abM (Knows.right (Knows.right ah8))
  have hCx:=hC.add (t:=⟨(na:Int),(nb:Int),xs⟩) hf3 Ok.1 Ok.2 htf
  refine zD 3<|js 92 (decide (e32=0)) (fun SW=>?_) (fun SW=>?_)
  ·
   have Iy:=SW
   replace Iy:=of_decide_eq_true Iy
   refine jd 2 [2,1]<|jp (vs:=[.agg ⟨[y0,y1,.slice ya 0 yc,y3,y4,y5,y6,y7,zI yg,zI yn,zI ym,yb]⟩,.agg ⟨[ad4,ad3,.slice adX 0 adW,ad2,ad1,ad0,adZ,adY,zI K.gone,zI K.new,zI K.ab,(.slice aLE ((K.facts++[(⟨(na:Int),(nb:Int),xs⟩:bK)])).length aLd)]⟩]) [] [] (fun aF hs hZ=>asQ (hKy.up hs) (hKd.up hs) hCx)<|zD 2<|JF [] (fun _ _ h=>h) (Bs) ?_
   rintro _ _ ⟨rfl,rfl⟩
   refine jg 0 []<|zD 4<|Fx qC.a.a (.bool true) [6] [] (bL.trans abM) ⟨rfl,rfl⟩
  have Iy:=SW
  replace Iy:=of_decide_eq_false Iy
  exfalso;omega
 refine zD 4<|js 60 (decide (eV=0)) (fun Ix=>?_) (fun Ix=>?_)
 ·
  have wU:=Ix
  replace wU:=of_decide_eq_true wU
  refine jd 3 [2]<|js 63 xs (fun SV=>?_) (fun SV=>?_)
  ·
   refine zD 4<|js 67 (decide (vV=2)) (fun SU=>?_) (fun SU=>?_)
   ·
    have qO:=SU
    replace qO:=of_decide_eq_true qO
    refine zD 10<|bF bE true (by first|exact⟨(fun h=>by cases h),(fun h=>by omega)⟩|exact⟨fun _=>⟨by omega,.inl ⟨by assumption,by omega⟩⟩,fun _=>rfl⟩|exact absurd (show xs=true by assumption) (by rw[show xs=false by assumption];decide)|exact⟨(fun h=>by cases h),fun⟨_,h⟩=>by rcases h with ⟨_,h3⟩| ⟨h2,_⟩;omega;exact absurd h2 (by rw[show xs=true by assumption];decide)⟩|exact⟨fun h=>⟨by omega,.inr ⟨by assumption,of_decide_eq_true h⟩⟩,fun⟨_,h⟩=>by rcases h with ⟨h2,_⟩| ⟨_,h3⟩;exact absurd h2 (by rw[show xs=false by assumption];decide);exact decide_eq_true h3⟩) Nat.zero_lt_one (zN 0 6) (Sub.refl _)
   have qO:=SU
   replace qO:=of_decide_eq_false qO
   refine jd 4 [2]<|js 71 (!xs) (fun OW=>?_) (fun OW=>?_)
   ·
    have Ax:=OW
    try simp only[zB] at Ax
    refine zD 6<|bF bE (decide (vV=1)) (by first|exact⟨(fun h=>by cases h),(fun h=>by omega)⟩|exact⟨fun _=>⟨by omega,.inl ⟨by assumption,by omega⟩⟩,fun _=>rfl⟩|exact absurd (show xs=true by assumption) (by rw[show xs=false by assumption];decide)|exact⟨(fun h=>by cases h),fun⟨_,h⟩=>by rcases h with ⟨_,h3⟩| ⟨h2,_⟩;omega;exact absurd h2 (by rw[show xs=true by assumption];decide)⟩|exact⟨fun h=>⟨by omega,.inr ⟨by assumption,of_decide_eq_true h⟩⟩,fun⟨_,h⟩=>by rcases h with ⟨h2,_⟩| ⟨_,h3⟩;exact absurd h2 (by rw[show xs=false by assumption];decide);exact decide_eq_true h3⟩) Nat.zero_lt_one (zN 0 6) (Sub.refl _)
   have Ax:=OW
   try simp only[zB] at Ax
   refine zD 6<|bF bE false (by first|exact⟨(fun h=>by cases h),(fun h=>by omega)⟩|exact⟨fun _=>⟨by omega,.inl ⟨by assumption,by omega⟩⟩,fun _=>rfl⟩|exact absurd (show xs=true by assumption) (by rw[show xs=false by assumption];decide)|exact⟨(fun h=>by cases h),fun⟨_,h⟩=>by rcases h with ⟨_,h3⟩| ⟨h2,_⟩;omega;exact absurd h2 (by rw[show xs=true by assumption];decide)⟩|exact⟨fun h=>⟨by omega,.inr ⟨by assumption,of_decide_eq_true h⟩⟩,fun⟨_,h⟩=>by rcases h with ⟨h2,_⟩| ⟨_,h3⟩;exact absurd h2 (by rw[show xs=false by assumption];decide);exact decide_eq_true h3⟩) Nat.zero_lt_one (zN 0 6) (Sub.refl _)
  refine jd 8 [2]<|js 71 (!xs) (fun PZ=>?_) (fun PZ=>?_)
  ·
   have OU:=PZ
   try simp only[zB] at OU
   refine zD 6<|bF bE (decide (vV=1)) (by first|exact⟨(fun h=>by cases h),(fun h=>by omega)⟩|exact⟨fun _=>⟨by omega,.inl ⟨by assumption,by omega⟩⟩,fun _=>rfl⟩|exact absurd (show xs=true by assumption) (by rw[show xs=false by assumption];decide)|exact⟨(fun h=>by cases h),fun⟨_,h⟩=>by rcases h with ⟨_,h3⟩| ⟨h2,_⟩;omega;exact absurd h2 (by rw[show xs=true by assumption];decide)⟩|exact⟨fun h=>⟨by omega,.inr ⟨by assumption,of_decide_eq_true h⟩⟩,fun⟨_,h⟩=>by rcases h with ⟨h2,_⟩| ⟨_,h3⟩;exact absurd h2 (by rw[show xs=false by assumption];decide);exact decide_eq_true h3⟩) Nat.zero_lt_one (zN 0 6) (Sub.refl _)
  have OU:=PZ
  try simp only[zB] at OU
  refine zD 6<|bF bE false (by first|exact⟨(fun h=>by cases h),(fun h=>by omega)⟩|exact⟨fun _=>⟨by omega,.inl ⟨by assumption,by omega⟩⟩,fun _=>rfl⟩|exact absurd (show xs=true by assumption) (by rw[show xs=false by assumption];decide)|exact⟨(fun h=>by cases h),fun⟨_,h⟩=>by rcases h with ⟨_,h3⟩| ⟨h2,_⟩;omega;exact absurd h2 (by rw[show xs=true by assumption];decide)⟩|exact⟨fun h=>⟨by omega,.inr ⟨by assumption,of_decide_eq_true h⟩⟩,fun⟨_,h⟩=>by rcases h with ⟨h2,_⟩| ⟨_,h3⟩;exact absurd h2 (by rw[show xs=false by assumption];decide);exact decide_eq_true h3⟩) Nat.zero_lt_one (zN 0 6) (Sub.refl _)
 have wU:=Ix
 replace wU:=of_decide_eq_false wU
 refine zD 17<|bF bE false (by first|exact⟨(fun h=>by cases h),(fun h=>by omega)⟩|exact⟨fun _=>⟨by omega,.inl ⟨by assumption,by omega⟩⟩,fun _=>rfl⟩|exact absurd (show xs=true by assumption) (by rw[show xs=false by assumption];decide)|exact⟨(fun h=>by cases h),fun⟨_,h⟩=>by rcases h with ⟨_,h3⟩| ⟨h2,_⟩;omega;exact absurd h2 (by rw[show xs=true by assumption];decide)⟩|exact⟨fun h=>⟨by omega,.inr ⟨by assumption,of_decide_eq_true h⟩⟩,fun⟨_,h⟩=>by rcases h with ⟨h2,_⟩| ⟨_,h3⟩;exact absurd h2 (by rw[show xs=false by assumption];decide);exact decide_eq_true h3⟩) Nat.zero_lt_one (zN 0 6) (Sub.refl _)
theorem HF(W:World)(hN:Dn (fun b=>W.heap[b]?) vd xs) {Post:Value→World→Prop}
 (SO:∀w:World,(∀(b:Nat) (o:Obj),W.heap[b]?=some o→w.heap[b]?=some o)→w.os=W.os→w.output=W.output→Post (.bool true) w):
 ∃N last o w' t',runNT zT (N+1) (solo (G (Frame.enter zT 5 ⟨[vd]⟩ .normal) []) W) #[]=(.ended o w',t')∧runN zT N (solo (G (Frame.enter zT 5 ⟨[vd]⟩ .normal) []) W)= .next last∧step zT last= .ended o w'∧Good zT Post last o w' t':=by
 have ha:aT ⟨fun b=>W.heap[b]?,[]⟩ W:=⟨fun _ _ h=>h,(fun _ _ h=>(by cases h)),by simp,(fun _ _ h=>(by cases h))⟩
 exact aen ha (au2 hN _ _ _ fun v Y w qB pX tO FJ=>by
  obtain⟨rfl,rfl⟩:=qB
  exact SO w (fun b o hb=>pX.ro b o hb) tO FJ)
end Go.L
