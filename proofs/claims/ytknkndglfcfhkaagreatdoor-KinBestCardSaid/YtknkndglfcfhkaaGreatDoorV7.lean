/- Part 7 of the proof. -/
import Derived.Test.YtknkndglfcfhkaaGreatDoorV6
set_option maxRecDepth 100000
set_option linter.all false
namespace Go.L
open Go Go.Conc Go.Proofs
variable {ro:Nat→Option Obj} {hd:List cy} {cs:List bO} {f t:ByteArray} {k i b sz:Nat} {l:List Value} {α β:Type} {xs ys:List ByteArray} {fs:List cu} {K:aB} {x:aA} {vc vh vp c11 vd c0 c1 c5 c6 c7 vt:Value} {r n af gone new lo hi:Int}
set_option maxHeartbeats 2000000 in
theorem aUB {d:Nat} {X:Cells} {xs:List Int} {np nf:Int} (hN:Dn ro vd xs) (hD:bL vd xs d X) (hnp:0≤np∧np≤4) (hnf:0≤nf∧nf≤4):FnG zT 9 [zP d,zI np,zI nf] ro X (fun r aI Y=>∃(K:aB) (l:List Value),r= .agg ⟨l⟩∧Tb K∧(K.facts.length:Int)≤nf∧fI aI l K∧bL vd xs d Y):=by
 refine aEW (hm:=au) [.l X] [] ba<|zD 2<|jn fun b6=>zD 4<|jc [1] (aps hN hD) ?_
 rintro _ _ ⟨kN,jP,VC,aaa,baw,Z18,X18,rfl,HS,CU,aS2,rfl,Sa⟩
 refine jg 0 [.l Z18,.l X18]<|jf [0] Z18 (fun z0 bZ iQ=>?_)
 have pR:=aS2 _ iQ
 obtain⟨hc,hh,di⟩:=id pR
 obtain⟨ep,AK,AJ,dZ,rfl,Dx,yR,yQ⟩:=hc
 obtain⟨dH,u5,u4,du,rfl,xp,qR,qQ⟩:=hh
 refine zD 2<|jn fun b21=>zD 2<|jn fun IS=>jn fun n8=>zD 3<|jn fun b7=>jd 5 [0]<|jf [1,2,3] ((n8,.cells ⟨[.slice (some ⟨b21,0,none⟩) 2 2,.slice (some ⟨IS,0,none⟩) 2 2]⟩ 80 (0,0))::((IS,.cells ⟨[zI 1,zI 0,zI 3,zI 0]⟩ 79 (0,0))::[(b21,.cells ⟨[zI 1,zI 0,zI 2,zI 0]⟩ 79 (0,0))])) (fun ro6 ki YR=>?_)
 have aS3:=T7 (YR _ (.tail _ (.tail _ (.head _)))) (YR _ (.tail _ (.head _))) (YR _ (.head _))
 refine zD 1<|jc (vs:=[zP d,zI 2]) [1] (tx (hN.up (bZ.trans ki)) Sa (by omega)) ?_
 rintro _ X30 ⟨w30,rfl,aHz⟩
 refine zD 1<|Jc [1,1,1] [] (fun(zz:Value×Cells×(List (List aO))×Cells)=>[(0,zP d),(1,zI np),(2,zI nf),(6,zP b6),(7,zP b7)]) (fun(zz:Value×Cells×(List (List aO))×Cells)=>[.l zz.2.1,.l zz.2.2.2,.b b7 (.cells ⟨[.slice (some ⟨n8,0,none⟩) 2 2,zz.1,zS,.slice ep kN.length dZ,.slice dH jP.length du,zS,zS,zS,zI 0,zI 0,zI 0,zS]⟩ 40 (0,0)),.b b6 (.cells ⟨zO⟩ 40 (0,0))]) (fun(zz:Value×Cells×(List (List aO))×Cells)=>(∀k8,Knows k8 zz.2.1→nO k8 zz.1 zz.2.2.1)∧(zz.2.2.1.length≤1∧∀l∈zz.2.2.1,(1≤l.length∧l.length≤2)∧∀c∈l,jz c)∧bL vd xs d zz.2.2.2) ?_ (fun K1 bH=>?_)
 ·
  rintro⟨vT,LT,ways,X⟩ Tv rest
  dsimp only at Tv
  refine zD 2<|jf [0] LT (fun ro9 rZ hk8=>?_)
  have aHm:=Tv.1 _ hk8
  obtain⟨TG,ht,_⟩:=id aHm
  obtain⟨eS,AI,AG,dW,rfl,AH,sA,sw⟩:=ht
  refine zD 1<|jc (vs:=[zP d,zI 2]) [0] (ayX (hN.up ((bZ.trans ki).trans rZ)) Tv.2.2 (by decide)) ?_
  rintro v60 _ ⟨Nn,L60,X60,NX,bek,ahA,rfl,aTI⟩
  refine jg 0 [.l L60,.l X60]<|zD 8<|nY<|dP [1,1,1,1,0,1,0,0] [] (fun(zz:Nat×Value×Cells×(List bQ))=>[(0,zP d),(1,zI np),(2,zI nf),(6,zP b6),(7,zP b7),(8,v60),(9,zI (zz.1:Int))]) (fun zz=>[.l zz.2.2.1,.l X60,.b b7 (.cells ⟨[.slice (some ⟨n8,0,none⟩) 2 2,.slice eS TG.length dW,zS,.slice ep kN.length dZ,.slice dH jP.length du,zz.2.1,zS,zS,zI 0,zI 0,zI 0,zS]⟩ 40 (0,0)),.l L60,.b b6 (.cells ⟨zO⟩ 40 (0,0))]) (fun zz=>(zz.1≤Nn.length∧zz.2.2.2.length≤zz.1)∧ax zz.2.1 2 45 iF zz.2.2.2 zz.2.2.1∧∀r∈zz.2.2.2,IZ r) (fun zz=>Nn.length-zz.1) (⟨0,zS,[],[]⟩) ⟨by simp,ax.nil _ _ _,(fun _ h=>by cases h)⟩ [0,2,3,1,4] ?_
  rintro⟨i,vR,LR,rs⟩ hR K2 mr rest
  dsimp only at hR
  refine zD 5<|DL NX<|zD 2<|zJ 64 ((i:Int) <(Nn.length:Int)) (fun Jo=>?_) fun Jo=>?_
  ·
   refine zD 8 ?_
   obtain⟨TE,abq⟩:=zG Nn i
   refine jxo 2 NX abq fun b69 axV=>zD 1<|pg 0 [3] L60 (fun s _ hZ=>cK NX axV hZ abq)<|zD 2 ?_
   obtain⟨x74,aFa⟩:=zG Nn i
   refine jxo 2 NX aFa fun b74 aSy=>zD 1<|pg 1 [3] L60 (fun s _ hZ=>cK NX aSy hZ aFa)<|zD 2<|js 77 (!(cT TE.f x74.t)) (fun h11=>?_) (fun h11=>?_)
   ·
    try simp only[zB] at h11
    refine jd 6 [2] ?_
    obtain⟨E6,U7⟩:=zG Nn i
    refine jxo 2 NX U7 fun b82 aSv=>pg 0 [3] L60 (fun s _ hZ=>cK NX aSv hZ U7)<|aV 6 fun pW pZ oU=>jn fun b84=>eH oU (zN 1 5)<|aV 7 fun rI rK qu=>iC (sz:=2) (ps:=rs) (qs:=[(⟨E6.f,E6.t⟩:bQ)]) (enc:=iF) (w:= .slice (some ⟨b84,0,none⟩) 1 1) [1] [0] [(b84,.cells ⟨([(⟨E6.f,E6.t⟩:bQ)].map iF).flatten⟩ 45 (0,0))] (hR.2.1) (fun s _ hZ=>bK [(⟨E6.f,E6.t⟩:bQ)] (hZ _ (.head _)) (by intro p hp;rfl)) (fun p _=>aj rfl) (by simp<;>omega) (fun v85 L85 ahG=>?_)
    obtain⟨aMq,aL7,aRV⟩:=ahG.form
    subst aRV
    refine gM qu []<|zD 1<|aV 9 fun An Ay Ba=>jd 1 [3]<|gq Ba<|zD 3<|ja ((i:Int)+1) (by omega)<|zD 2<|bI mr (⟨i+1,(.slice aMq ((rs++[(⟨E6.f,E6.t⟩:bQ)])).length aL7),L85,(rs++[(⟨E6.f,E6.t⟩:bQ)])⟩) ⟨by simp only[zM];omega,ahG,qJ hR.2.2 (ahA _ (zL U7))⟩ (by omega) [0,2,3,4,5] (Sub.refl _)
   try simp only[zB] at h11
   refine zD 4<|ja ((i:Int)+1) (by omega)<|zD 2<|bI mr (⟨i+1,vR,LR,rs⟩) ⟨by dsimp only;omega,hR.2⟩ (by omega) (zN 0 5) (Sub.refl _)
  refine zD 4<|jf [0] LR (fun bbb iL aRv=>?_)
  have hRU:=hR.2.1.kg aRv
  refine jd 3 [1]<|jn fun sC=>jd 7 [0]<|jc (vs:=[zP d,zI np]) [1] (EV (hN.up (((bZ.trans ki).trans rZ).trans iL)) aTI (by omega)) ?_
  rintro _ X92 ⟨w92,rfl,bdk,bde,aTD⟩
  refine zD 3<|nY<|dP [1,1,1,1,1,1,0,1,0,0] [] (fun(zz:Int×Value×Cells×(List aA)×Cells)=>[(0,zP d),(1,zI np),(2,zI nf),(6,zP b6),(7,zP b7),(10,zP sC),(11,zI zz.1)]) (fun zz=>[.l zz.2.2.1,.l zz.2.2.2.2,.b sC (.cells ⟨[zI 2,zI 0,zI 0,.slice ep kN.length dZ,.slice dH jP.length du,zS,zS]⟩ 90 (0,0)),.b b7 (.cells ⟨[.slice (some ⟨n8,0,none⟩) 2 2,.slice eS TG.length dW,zS,.slice ep kN.length dZ,.slice dH jP.length du,vR,zz.2.1,zS,zI 0,zI 0,zI 0,zS]⟩ 40 (0,0)),.b b6 (.cells ⟨zO⟩ 40 (0,0))]) (fun zz=>(0≤zz.1∧zz.2.2.2.1.length+zz.1≤4)∧ax zz.2.1 5 55 eF zz.2.2.2.1 zz.2.2.1∧(∀p∈zz.2.2.2.1,ak5 VC p)∧bL vd xs d zz.2.2.2.2) (fun zz=>zz.1.toNat) (⟨w92,zS,[],[],X92⟩) ⟨by simp only[List.length_nil];omega,ax.nil _ _ _,(fun _ h=>by cases h),aTD⟩ [0,1,2,3,5] ?_
  rintro⟨j,vB,LB,uY,X⟩ hB K6 hK6 rest
  dsimp only at hB
  refine zD 6<|zJ 94 (j>0) (fun V2=>?_) fun V2=>?_
  ·
   refine zD 5<|Jc [1,1,1,1,1,1,0,1,0,0,1,0,0,1] [K6] (fun(zz:Nat×aA×Cells)=>[(0,zP d),(1,zI np),(2,zI nf),(6,zP b6),(7,zP b7),(10,zP sC),(11,zI j),(12,zP zz.1)]) (fun zz=>[.b zz.1 (.cells ⟨[.string zz.2.1.name,zI zz.2.1.st,zI zz.2.1.no,zI zz.2.1.head,.bool zz.2.1.bold]⟩ 55 (0,0)),.l LB,.l zz.2.2,.b sC (.cells ⟨[zI 2,zI 0,zI 0,.slice ep kN.length dZ,.slice dH jP.length du,zS,zS]⟩ 90 (0,0)),.b b7 (.cells ⟨[.slice (some ⟨n8,0,none⟩) 2 2,.slice eS TG.length dW,zS,.slice ep kN.length dZ,.slice dH jP.length du,vR,vB,zS,zI 0,zI 0,zI 0,zS]⟩ 40 (0,0)),.b b6 (.cells ⟨zO⟩ 40 (0,0))]) (fun zz=>(OU zz.2.1.name∧nT VC zz.2.1.head∧(0≤zz.2.1.st∧zz.2.1.st≤1))∧bL vd xs d zz.2.2) ?_ (fun K7 Y6=>?_)
   ·
    rintro⟨wW,pp,X⟩ ai5 rest
    dsimp only at ai5
    refine zD 3<|jc (vs:=[zP d,zI 1,zI 2]) [2] (Bp (hN.up (((bZ.trans ki).trans rZ).trans iL)) ai5.2 (by omega) (by omega)) ?_
    rintro _ aVp ⟨aL4,rfl,aYn,aYd,ar1⟩
    refine jd 10 [1,1]<|Jc [1,1,1,1,1,1,0,1,0,0,1,0,0,1,1,1] [K6] (fun(zz:Int×Cells)=>[(0,zP d),(1,zI np),(2,zI nf),(6,zP b6),(7,zP b7),(10,zP sC),(11,zI j),(12,zP wW)]) (fun zz=>[.b wW (.cells ⟨[.string pp.name,zI pp.st,zI zz.1,zI pp.head,.bool pp.bold]⟩ 55 (0,0)),.l LB,.l zz.2,.b sC (.cells ⟨[zI 2,zI 0,zI 0,.slice ep kN.length dZ,.slice dH jP.length du,zS,zS]⟩ 90 (0,0)),.b b7 (.cells ⟨[.slice (some ⟨n8,0,none⟩) 2 2,.slice eS TG.length dW,zS,.slice ep kN.length dZ,.slice dH jP.length du,vR,vB,zS,zI 0,zI 0,zI 0,zS]⟩ 40 (0,0)),.b b6 (.cells ⟨zO⟩ 40 (0,0))]) (fun zz=>((pp.st=0→zz.1=1∨zz.1=2)∧(pp.st=1→zz.1=1∨zz.1=3))∧bL vd xs d zz.2) ?_ (fun K8 hK8=>?_)
    ·
     rintro⟨q,X⟩ ao6 rest
     dsimp only at ao6
     refine jd 7 [0]<|Jc [1,1,1,1,1,1,0,1,0,0,1,0,0,1,1,1,1,0,1] [K6] (fun(zz:Bool×Cells)=>[(0,zP d),(1,zI np),(2,zI nf),(6,zP b6),(7,zP b7),(10,zP sC),(11,zI j),(12,zP wW),(120,.bool zz.1)]) (fun zz=>[.b wW (.cells ⟨[.string pp.name,zI pp.st,zI q,zI pp.head,.bool false]⟩ 55 (0,0)),.l LB,.l zz.2,.b sC (.cells ⟨[zI 2,zI 0,zI 0,.slice ep kN.length dZ,.slice dH jP.length du,zS,zS]⟩ 90 (0,0)),.b b7 (.cells ⟨[.slice (some ⟨n8,0,none⟩) 2 2,.slice eS TG.length dW,zS,.slice ep kN.length dZ,.slice dH jP.length du,vR,vB,zS,zI 0,zI 0,zI 0,zS]⟩ 40 (0,0)),.b b6 (.cells ⟨zO⟩ 40 (0,0))]) (fun zz=>(zz.1=true→0 <uY.length)∧bL vd xs d zz.2) ?_ (fun K9 hK9=>?_)
     ·
      rintro⟨g,X⟩ ai4 rest
      dsimp only at ai4
      refine Jc [1,1,1,1,1,1,0,1,0,0,1,0,0,1,1,1,1,1] [K6] (fun(zz:aA×Cells)=>[(0,zP d),(1,zI np),(2,zI nf),(6,zP b6),(7,zP b7),(10,zP sC),(11,zI j),(12,zP wW)]) (fun zz=>[.b wW (.cells ⟨[.string zz.1.name,zI zz.1.st,zI zz.1.no,zI zz.1.head,.bool zz.1.bold]⟩ 55 (0,0)),.l LB,.l zz.2,.b sC (.cells ⟨[zI 2,zI 0,zI 0,.slice ep kN.length dZ,.slice dH jP.length du,zS,zS]⟩ 90 (0,0)),.b b7 (.cells ⟨[.slice (some ⟨n8,0,none⟩) 2 2,.slice eS TG.length dW,zS,.slice ep kN.length dZ,.slice dH jP.length du,vR,vB,zS,zI 0,zI 0,zI 0,zS]⟩ 40 (0,0)),.b b6 (.cells ⟨zO⟩ 40 (0,0))]) (fun zz=>ak5 VC zz.1∧bL vd xs d zz.2) ?_ (fun K10 aHv=>?_)
      ·
       rintro⟨p2,X⟩ ayh rest
       dsimp only at ayh
       refine jd 4 [4,0]<|jn fun aI0=>iC (sz:=5) (ps:=uY) (qs:=[(⟨p2.name,p2.st,p2.no,p2.head,p2.bold⟩:aA)]) (enc:=eF) (w:= .slice (some ⟨aI0,0,none⟩) 1 1) [2] [0] [(aI0,.cells ⟨([(⟨p2.name,p2.st,p2.no,p2.head,p2.bold⟩:aA)].map eF).flatten⟩ 55 (0,0))] (hB.2.1) (fun s _ hZ=>bK [(⟨p2.name,p2.st,p2.no,p2.head,p2.bold⟩:aA)] (hZ _ (.head _)) (by intro p hp;rfl)) (fun p _=>aj rfl) (by simp<;>omega) (fun baN aVL YJ=>?_)
       obtain⟨aBn,aBg,aGR⟩:=YJ.form
       subst aGR
       refine jd 5 [5]<|ja (j-1) (by omega)<|zD 2<|bI hK6 (⟨j-1,(.slice aBn ((uY++[(⟨p2.name,p2.st,p2.no,p2.head,p2.bold⟩:aA)])).length aBg),aVL,(uY++[(⟨p2.name,p2.st,p2.no,p2.head,p2.bold⟩:aA)]),X⟩) ⟨by simp only[zM];omega,YJ,qJ hB.2.2.1 ayh.1,ayh.2⟩ (by omega) [0,3,4,5,6] (Sub.refl _)
      refine js 120 g (fun Tx=>?_) (fun Tx=>?_)
      ·
       subst Tx
       refine jd 7 [4,4]<|DL hB.2.1<|ja ((uY.length:Int)-1) (by omega)<|aV 7 fun FD Gc zi=>jc (vs:=[zP d,zI ((uY.length:Int)-1)]) [2] (EV (hN.up (((bZ.trans ki).trans rZ).trans iL)) ai4.2 (by omega)) ?_
       rintro _ aVm ⟨adu,rfl,aYm,ahh,aHM⟩
       refine gM zi [[4],[4]] ?_
       obtain⟨aLM,ahg⟩:=zG uY (adu.toNat) (by have:=ai4.1 rfl;omega)
       refine qi adu 5 hB.2.1 ahg (Int.toNat_of_nonneg (show 0≤adu∧adu <((uY).length:Int) from (by have:=ai4.1 rfl;omega)).1).symm (fun bf3 aHc=>?_)
       refine pg 0 [2] LB (fun s _ hZ=>cK hB.2.1 aHc hZ ahg)<|aV 10 fun Pt PT CV=>jd 1 [1]<|gq CV<|zD 1<|bI aHv ⟨aLM,aVm⟩ ⟨hB.2.2.1 _ (zL ahg),aHM⟩ Nat.zero_lt_one [1,2,0,3,4,5] (Sub.refl _)
      subst Tx
      refine zD 2<|bI aHv ⟨⟨pp.name,pp.st,q,pp.head,false⟩,X⟩ ⟨⟨⟨ai5.1.1,ai5.1.2.1,ai5.1.2.2,rfl⟩,ao6.1⟩,ai4.2⟩ Nat.zero_lt_one (zN 0 6) (Sub.refl _)
     refine jd 3 [4]<|DL hB.2.1<|zD 2<|js 117 (decide ((uY.length:Int)>0)) (fun Mh=>?_) (fun Mh=>?_)
     ·
      have ajs:=Mh
      replace ajs:=of_decide_eq_true ajs
      refine zD 1<|jc (vs:=[zP d,zI 5]) [2] (tx (hN.up (((bZ.trans ki).trans rZ).trans iL)) ao6.2 (by omega)) ?_
      rintro _ aVn ⟨aL1,rfl,aHN⟩
      refine zD 2<|bI hK9 ⟨aL1,aVn⟩ ⟨fun _=>by omega,aHN⟩ Nat.zero_lt_one [1,2,0,3,4,5] (Sub.refl _)
     have ajs:=Mh
     replace ajs:=of_decide_eq_false ajs
     refine zD 4<|bI hK9 ⟨false,X⟩ ⟨(fun h=>by cases h),ao6.2⟩ Nat.zero_lt_one (zN 0 6) (Sub.refl _)
    refine zJ 107 (pp.st=1) (fun Ai=>?_) fun Ai=>?_
    ·
     refine zD 3<|jn fun aI2=>jcL (vs:=[zP d,.slice (some ⟨aI2,0,none⟩) 2 2]) [1] [0] [(aI2,.cells ⟨([1,3].map cm).flatten⟩ 3 (0,0))] (fun aI hs hZ=>akm ((hN.up (((bZ.trans ki).trans rZ).trans iL)).up hs) ar1 (bU [1,3] hZ.head (by intro p hp;rfl)) (by simp)) ?_
     rintro _ aVo ⟨aL2,rfl,aFh,aHO⟩
     refine jd 3 [2]<|bI hK8 ⟨aL2,aVo⟩ ⟨⟨(fun h=>by omega),(fun _=>by simpa using aFh)⟩,aHO⟩ Nat.zero_lt_one [2,3,0,4,5,6] (Sub.refl _)
    refine zD 2<|bI hK8 ⟨aL4,aVp⟩ ⟨⟨(fun _=>by dsimp only;omega),(fun h=>by omega)⟩,ar1⟩ Nat.zero_lt_one [1,2,0,3,4,5] (Sub.refl _)
   refine jd 4 [2]<|Jb [3,5] ⟨fun z13 t14 ai0=>?_,fun z16 t17 VX=>?_,trivial⟩
   ·
    refine jc [1] (Zr (hN.up (((bZ.trans ki).trans rZ).trans iL)) hB.2.2.2) ?_
    rintro _ aVq ⟨amo,rfl,YC,Zc⟩
    refine gM ai0 [[2]]<|Jb [4,5] ⟨fun z19 t20 abP=>?_,fun z22 t23 ayc=>?_,trivial⟩
    ·
     refine jc (vs:=[zP d,.agg ⟨[zI 2,zI 0,zI 0,.slice ep kN.length dZ,.slice dH jP.length du,zS,zS]⟩,.string amo]) [0] (xH (hN.up (((bZ.trans ki).trans rZ).trans iL)) Zc ((((show bD _ _ _ _ _ from ⟨dH,u5,u4,du,rfl,xp,qR,qQ⟩).up ki).up rZ).up iL) (by have:=CU.len;have:=HS.nh;omega)) ?_
     rintro _ ak1 ⟨aBc,rfl,RE,Rq,RR,Sc⟩
     refine gq abP<|aV 5 fun aAT aBO VT=>jn fun wW=>gq VT<|aV 6 fun ada adW EN=>jd 1 [0]<|gq EN<|zD 1<|bI Y6 ⟨wW,_,ak1⟩ ⟨⟨RE▸YC,xC CU RR,Rq⟩,Sc⟩ Nat.zero_lt_one [0,2,1,3,4,5] (Sub.refl _)
    refine jn fun wW=>eH ayc (zN 1 5)<|aV 4 fun Ps PS HV=>jc (vs:=[zP d,.agg ⟨[zI 2,zI 0,zI 0,.slice ep kN.length dZ,.slice dH jP.length du,zS,zS]⟩,.string amo]) [1] (xH (hN.up (((bZ.trans ki).trans rZ).trans iL)) Zc ((((show bD _ _ _ _ _ from ⟨dH,u5,u4,du,rfl,xp,qR,qQ⟩).up ki).up rZ).up iL) (by have:=CU.len;have:=HS.nh;omega)) ?_
    rintro _ ak1 ⟨aBc,rfl,RE,Rq,RR,Sc⟩
    refine gq HV<|aV 6 fun Pr PQ HU=>jd 1 [1]<|gq HU<|zD 1<|bI Y6 ⟨wW,_,ak1⟩ ⟨⟨RE▸YC,xC CU RR,Rq⟩,Sc⟩ Nat.zero_lt_one [1,2,0,3,4,5] (Sub.refl _)
   refine jn fun wW=>eH VX (zN 1 5)<|aV 3 fun Pq PO HT=>jc [2] (Zr (hN.up (((bZ.trans ki).trans rZ).trans iL)) hB.2.2.2) ?_
   rintro _ aVq ⟨amo,rfl,YC,Zc⟩
   refine gM HT [[3]]<|aV 4 fun ac9 adV VS=>jc (vs:=[zP d,.agg ⟨[zI 2,zI 0,zI 0,.slice ep kN.length dZ,.slice dH jP.length du,zS,zS]⟩,.string amo]) [0] (xH (hN.up (((bZ.trans ki).trans rZ).trans iL)) Zc ((((show bD _ _ _ _ _ from ⟨dH,u5,u4,du,rfl,xp,qR,qQ⟩).up ki).up rZ).up iL) (by have:=CU.len;have:=HS.nh;omega)) ?_
   rintro _ ak1 ⟨aBc,rfl,RE,Rq,RR,Sc⟩
   refine gq VS<|aV 6 fun ac8 adU J5=>jd 1 [1]<|gq J5<|zD 1<|bI Y6 ⟨wW,_,ak1⟩ ⟨⟨RE▸YC,xC CU RR,Rq⟩,Sc⟩ Nat.zero_lt_one [1,2,0,3,4,5] (Sub.refl _)
  refine zD 7<|jc (vs:=[zP d,zI np]) [1] (EV (hN.up (((bZ.trans ki).trans rZ).trans iL)) hB.2.2.2 (by omega)) ?_
  rintro _ aVl ⟨aLZ,rfl,aYl,aYc,aHL⟩
  refine zD 3<|nY<|dP [1,1,1,1,1,1,1,0,1,0,0] [] (fun(zz:Int×Value×Cells×(List aA)×Cells)=>[(0,zP d),(2,zI nf),(6,zP b6),(7,zP b7),(10,zP sC),(13,zI zz.1)]) (fun zz=>[.l zz.2.2.1,.l zz.2.2.2.2,.l LB,.b sC (.cells ⟨[zI 2,zI 0,zI 0,.slice ep kN.length dZ,.slice dH jP.length du,zS,zS]⟩ 90 (0,0)),.b b7 (.cells ⟨[.slice (some ⟨n8,0,none⟩) 2 2,.slice eS TG.length dW,zS,.slice ep kN.length dZ,.slice dH jP.length du,vR,vB,zz.2.1,zI 0,zI 0,zI 0,zS]⟩ 40 (0,0)),.b b6 (.cells ⟨zO⟩ 40 (0,0))]) (fun zz=>(0≤zz.1∧zz.2.2.2.1.length+zz.1≤4)∧ax zz.2.1 5 55 eF zz.2.2.2.1 zz.2.2.1∧(∀p∈zz.2.2.2.1,ak6 VC p)∧bL vd xs d zz.2.2.2.2) (fun zz=>zz.1.toNat) (⟨aLZ,zS,[],[],aVl⟩) ⟨by simp only[List.length_nil];omega,ax.nil _ _ _,(fun _ h=>by cases h),aHL⟩ (zN 0 6) ?_
  rintro⟨j,vA,LA,MF,X⟩ hA K32 aTt rest
  dsimp only at hA
  refine zD 6<|zJ 141 (j>0) (fun h35=>?_) fun h35=>?_
  ·
   refine zD 5<|Jc [1,1,1,1,1,1,1,0,1,0,0,1,0,0,1] [K32] (fun(zz:Nat×aA×Cells)=>[(0,zP d),(2,zI nf),(6,zP b6),(7,zP b7),(10,zP sC),(13,zI j),(14,zP zz.1)]) (fun zz=>[.b zz.1 (.cells ⟨[.string zz.2.1.name,zI zz.2.1.st,zI zz.2.1.no,zI zz.2.1.head,.bool zz.2.1.bold]⟩ 55 (0,0)),.l LA,.l zz.2.2,.l LB,.b sC (.cells ⟨[zI 2,zI 0,zI 0,.slice ep kN.length dZ,.slice dH jP.length du,zS,zS]⟩ 90 (0,0)),.b b7 (.cells ⟨[.slice (some ⟨n8,0,none⟩) 2 2,.slice eS TG.length dW,zS,.slice ep kN.length dZ,.slice dH jP.length du,vR,vB,vA,zI 0,zI 0,zI 0,zS]⟩ 40 (0,0)),.b b6 (.cells ⟨zO⟩ 40 (0,0))]) (fun zz=>(OU zz.2.1.name∧nT VC zz.2.1.head∧(0≤zz.2.1.st∧zz.2.1.st≤1))∧bL vd xs d zz.2.2) ?_ (fun K33 ayf=>?_)
   ·
    rintro⟨ZK,pp,X⟩ ai3 rest
    dsimp only at ai3
    refine zD 3<|jc (vs:=[zP d,zI 1,zI 3]) [2] (Bp (hN.up (((bZ.trans ki).trans rZ).trans iL)) ai3.2 (by omega) (by omega)) ?_
    rintro _ aVj ⟨aBa,rfl,aYk,DM,arY⟩
    refine jd 7 [1,1]<|Jc [1,1,1,1,1,1,1,0,1,0,0,1,0,0,1,1,0,1] [K32] (fun(zz:Bool×Cells)=>[(0,zP d),(2,zI nf),(6,zP b6),(7,zP b7),(10,zP sC),(13,zI j),(14,zP ZK),(161,.bool zz.1)]) (fun zz=>[.b ZK (.cells ⟨[.string pp.name,zI pp.st,zI aBa,zI pp.head,.bool false]⟩ 55 (0,0)),.l LA,.l zz.2,.l LB,.b sC (.cells ⟨[zI 2,zI 0,zI 0,.slice ep kN.length dZ,.slice dH jP.length du,zS,zS]⟩ 90 (0,0)),.b b7 (.cells ⟨[.slice (some ⟨n8,0,none⟩) 2 2,.slice eS TG.length dW,zS,.slice ep kN.length dZ,.slice dH jP.length du,vR,vB,vA,zI 0,zI 0,zI 0,zS]⟩ 40 (0,0)),.b b6 (.cells ⟨zO⟩ 40 (0,0))]) (fun zz=>(zz.1=true→0 <uY.length)∧bL vd xs d zz.2) ?_ (fun K34 aHr=>?_)
    ·
     rintro⟨g,X⟩ ai2 rest
     dsimp only at ai2
     refine Jc [1,1,1,1,1,1,1,0,1,0,0,1,0,0,1,1,1] [K32] (fun(zz:aA×Cells)=>[(0,zP d),(2,zI nf),(6,zP b6),(7,zP b7),(10,zP sC),(13,zI j),(14,zP ZK)]) (fun zz=>[.b ZK (.cells ⟨[.string zz.1.name,zI zz.1.st,zI zz.1.no,zI zz.1.head,.bool zz.1.bold]⟩ 55 (0,0)),.l LA,.l zz.2,.l LB,.b sC (.cells ⟨[zI 2,zI 0,zI 0,.slice ep kN.length dZ,.slice dH jP.length du,zS,zS]⟩ 90 (0,0)),.b b7 (.cells ⟨[.slice (some ⟨n8,0,none⟩) 2 2,.slice eS TG.length dW,zS,.slice ep kN.length dZ,.slice dH jP.length du,vR,vB,vA,zI 0,zI 0,zI 0,zS]⟩ 40 (0,0)),.b b6 (.cells ⟨zO⟩ 40 (0,0))]) (fun zz=>ak6 VC zz.1∧bL vd xs d zz.2) ?_ (fun K35 aye=>?_)
     ·
      rintro⟨p2,X⟩ ayg rest
      dsimp only at ayg
      refine jd 4 [5,0]<|jn fun aIZ=>iC (sz:=5) (ps:=MF) (qs:=[(⟨p2.name,p2.st,p2.no,p2.head,p2.bold⟩:aA)]) (enc:=eF) (w:= .slice (some ⟨aIZ,0,none⟩) 1 1) [2] [0] [(aIZ,.cells ⟨([(⟨p2.name,p2.st,p2.no,p2.head,p2.bold⟩:aA)].map eF).flatten⟩ 55 (0,0))] (hA.2.1) (fun s _ hZ=>bK [(⟨p2.name,p2.st,p2.no,p2.head,p2.bold⟩:aA)] (hZ _ (.head _)) (by intro p hp;rfl)) (fun p _=>aj rfl) (by simp<;>omega) (fun baM aVK YI=>?_)
      obtain⟨aBm,aBf,aGQ⟩:=YI.form
      subst aGQ
      refine jd 5 [6]<|ja (j-1) (by omega)<|zD 2<|bI aTt (⟨j-1,(.slice aBm ((MF++[(⟨p2.name,p2.st,p2.no,p2.head,p2.bold⟩:aA)])).length aBf),aVK,(MF++[(⟨p2.name,p2.st,p2.no,p2.head,p2.bold⟩:aA)]),X⟩) ⟨by simp only[zM];omega,YI,qJ hA.2.2.1 ayg.1,ayg.2⟩ (by omega) [0,3,4,5,6,7] (Sub.refl _)
     refine js 161 g (fun V0=>?_) (fun V0=>?_)
     ·
      subst V0
      refine jd 8 [5,5]<|DL hB.2.1<|ja ((uY.length:Int)-1) (by omega)<|aV 7 fun ac7 adT N6=>jc (vs:=[zP d,zI ((uY.length:Int)-1)]) [2] (EV (hN.up (((bZ.trans ki).trans rZ).trans iL)) ai2.2 (by omega)) ?_
      rintro _ bgH ⟨adt,rfl,aYj,aYb,aHJ⟩
      refine gM N6 [[5],[5]] ?_
      obtain⟨Ee,Rl⟩:=zG uY (adt.toNat) (by have:=ai2.1 rfl;omega)
      refine qi adt 5 hB.2.1 Rl (Int.toNat_of_nonneg (show 0≤adt∧adt <((uY).length:Int) from (by have:=ai2.1 rfl;omega)).1).symm (fun bf0 aG9=>?_)
      refine pg 0 [3] LB (fun s _ hZ=>cK hB.2.1 aG9 hZ Rl)<|aV 10 fun ac6 adS VP=>jd 1 [1]<|gq VP<|zD 5<|jc (vs:=[zP d,zI 3]) [0] (tx (hN.up (((bZ.trans ki).trans rZ).trans iL)) aHJ (by omega)) ?_
      rintro _ aVg ⟨aLW,rfl,arX⟩
      refine zD 1<|Jc [1,1,1,1,1,1,1,0,1,0,0,1,0,0,1,1,2,1,0,1,1] [K32,K35] (fun(zz:Int×Cells)=>[(0,zP d),(2,zI nf),(6,zP b6),(7,zP b7),(10,zP sC),(13,zI j),(14,zP ZK)]) (fun zz=>[.b ZK (.cells ⟨[.string Ee.name,zI Ee.st,zI zz.1,zI Ee.head,.bool Ee.bold]⟩ 55 (0,0)),.l LA,.l zz.2,.l LB,.b sC (.cells ⟨[zI 2,zI 0,zI 0,.slice ep kN.length dZ,.slice dH jP.length du,zS,zS]⟩ 90 (0,0)),.b b7 (.cells ⟨[.slice (some ⟨n8,0,none⟩) 2 2,.slice eS TG.length dW,zS,.slice ep kN.length dZ,.slice dH jP.length du,vR,vB,vA,zI 0,zI 0,zI 0,zS]⟩ 40 (0,0)),.b b6 (.cells ⟨zO⟩ 40 (0,0))]) (fun zz=>(1≤zz.1∧zz.1≤3)∧bL vd xs d zz.2) ?_ (fun K38 aHq=>?_)
      ·
       rintro⟨q,X⟩ ao5 rest
       dsimp only at ao5
       have hO:=hB.2.2.1 _ (zL Rl)
       have hO2:=hO.1.2.2.1
       have hO3:=hO.2
       refine zD 3<|jc (vs:=[zP d,zI 4]) [2] (tx (hN.up (((bZ.trans ki).trans rZ).trans iL)) ao5.2 (by omega)) ?_
       rintro _ aJk ⟨aLU,rfl,arW⟩
       refine zD 1<|js 178 aLU (fun h39=>?_) (fun h39=>?_)
       ·
        subst h39
        refine jd 5 [1]<|bI aye ⟨⟨Ee.name,Ee.st,q,-1,Ee.bold⟩,aJk⟩ ⟨⟨⟨hO.1.1,.inl rfl,hO.1.2.2.1,hO.1.2.2.2⟩,ao5.1⟩,arW⟩ Nat.zero_lt_one [1,2,0,3,4,5,6] (Sub.refl _)
       subst h39
       refine zD 2<|bI aye ⟨⟨Ee.name,Ee.st,q,Ee.head,Ee.bold⟩,aJk⟩ ⟨⟨⟨hO.1.1,hO.1.2.1,hO.1.2.2.1,hO.1.2.2.2⟩,ao5.1⟩,arW⟩ Nat.zero_lt_one [1,2,0,3,4,5,6] (Sub.refl _)
      refine js 173 aLW (fun h40=>?_) (fun h40=>?_)
      ·
       subst h40
       have hO:=hB.2.2.1 _ (zL Rl)
       have hO2:=hO.1.2.2.1
       have hO3:=hO.2
       refine zD 3<|jc (vs:=[zP d,zI 1,zI 3]) [0] (Bp (hN.up (((bZ.trans ki).trans rZ).trans iL)) arX (by omega) (by omega)) ?_
       rintro _ aVf ⟨aLV,rfl,aYi,aYa,aHI⟩
       refine jd 3 [1]<|bI aHq ⟨aLV,aVf⟩ ⟨by dsimp only;omega,aHI⟩ Nat.zero_lt_one [1,2,0,3,4,5,6] (Sub.refl _)
      subst h40
      have hO:=hB.2.2.1 _ (zL Rl)
      have hO2:=hO.1.2.2.1
      have hO3:=hO.2
      refine zD 2<|bI aHq ⟨Ee.no,aVg⟩ ⟨by dsimp only;omega,arX⟩ Nat.zero_lt_one [1,2,0,3,4,5,6] (Sub.refl _)
     subst V0
     refine zD 2<|bI aye ⟨⟨pp.name,pp.st,aBa,pp.head,false⟩,X⟩ ⟨⟨⟨ai3.1.1,ai3.1.2.1,ai3.1.2.2,rfl⟩,by dsimp only;omega⟩,ai2.2⟩ Nat.zero_lt_one (zN 0 7) (Sub.refl _)
    refine jd 3 [5]<|DL hB.2.1<|zD 2<|js 157 (decide ((uY.length:Int)>0)) (fun h41=>?_) (fun h41=>?_)
    ·
     have ajc:=h41
     replace ajc:=of_decide_eq_true ajc
     refine zD 1<|jc (vs:=[zP d,zI 3]) [0] (tx (hN.up (((bZ.trans ki).trans rZ).trans iL)) arY (by omega)) ?_
     rintro _ aVi ⟨aLY,rfl,aHK⟩
     refine zD 3<|bI aHr ⟨!aLY,aVi⟩ ⟨fun _=>by omega,aHK⟩ Nat.zero_lt_one [1,2,0,3,4,5,6] (Sub.refl _)
    have ajc:=h41
    replace ajc:=of_decide_eq_false ajc
    refine zD 5<|bI aHr ⟨false,aVj⟩ ⟨(fun h=>by cases h),arY⟩ Nat.zero_lt_one [1,2,0,3,4,5,6] (Sub.refl _)
   refine jd 4 [3]<|Jb [3,5] ⟨fun z39 t40 aiT=>?_,fun z42 t43 aTo=>?_,trivial⟩
   ·
    refine jc [1] (Zr (hN.up (((bZ.trans ki).trans rZ).trans iL)) hA.2.2.2) ?_
    rintro _ aVk ⟨amn,rfl,YB,Zb⟩
    refine gM aiT [[3]]<|Jb [4,5] ⟨fun z45 t46 aTn=>?_,fun z48 t49 aiS=>?_,trivial⟩
    ·
     refine jc (vs:=[zP d,.agg ⟨[zI 2,zI 0,zI 0,.slice ep kN.length dZ,.slice dH jP.length du,zS,zS]⟩,.string amn]) [0] (xH (hN.up (((bZ.trans ki).trans rZ).trans iL)) Zb ((((show bD _ _ _ _ _ from ⟨dH,u5,u4,du,rfl,xp,qR,qQ⟩).up ki).up rZ).up iL) (by have:=CU.len;have:=HS.nh;omega)) ?_
     rintro _ ak0 ⟨aBb,rfl,RD,Rp,RQ,Sb⟩
     refine gq aTn<|aV 5 fun aqa aqu aiR=>jn fun ZK=>gq aiR<|aV 6 fun ap9 aqt aiQ=>jd 1 [0]<|gq aiQ<|zD 1<|bI ayf ⟨ZK,_,ak0⟩ ⟨⟨RD▸YB,xC CU RQ,Rp⟩,Sb⟩ Nat.zero_lt_one [0,2,1,3,4,5,6] (Sub.refl _)
    refine jn fun ZK=>eH aiS (zN 1 6)<|aV 4 fun ap8 aqs aiP=>jc (vs:=[zP d,.agg ⟨[zI 2,zI 0,zI 0,.slice ep kN.length dZ,.slice dH jP.length du,zS,zS]⟩,.string amn]) [1] (xH (hN.up (((bZ.trans ki).trans rZ).trans iL)) Zb ((((show bD _ _ _ _ _ from ⟨dH,u5,u4,du,rfl,xp,qR,qQ⟩).up ki).up rZ).up iL) (by have:=CU.len;have:=HS.nh;omega)) ?_
    rintro _ ak0 ⟨aBb,rfl,RD,Rp,RQ,Sb⟩
    refine gq aiP<|aV 6 fun ap7 aqr aiO=>jd 1 [1]<|gq aiO<|zD 1<|bI ayf ⟨ZK,_,ak0⟩ ⟨⟨RD▸YB,xC CU RQ,Rp⟩,Sb⟩ Nat.zero_lt_one [1,2,0,3,4,5,6] (Sub.refl _)
   refine jn fun ZK=>eH aTo (zN 1 6)<|aV 3 fun ap6 aqq aiN=>jc [2] (Zr (hN.up (((bZ.trans ki).trans rZ).trans iL)) hA.2.2.2) ?_
   rintro _ aVk ⟨amn,rfl,YB,Zb⟩
   refine gM aiN [[4]]<|aV 4 fun ap5 aqp aiM=>jc (vs:=[zP d,.agg ⟨[zI 2,zI 0,zI 0,.slice ep kN.length dZ,.slice dH jP.length du,zS,zS]⟩,.string amn]) [0] (xH (hN.up (((bZ.trans ki).trans rZ).trans iL)) Zb ((((show bD _ _ _ _ _ from ⟨dH,u5,u4,du,rfl,xp,qR,qQ⟩).up ki).up rZ).up iL) (by have:=CU.len;have:=HS.nh;omega)) ?_
   rintro _ ak0 ⟨aBb,rfl,RD,Rp,RQ,Sb⟩
   refine gq aiM<|aV 6 fun ap4 aqo aiL=>jd 1 [1]<|gq aiL<|zD 1<|bI ayf ⟨ZK,_,ak0⟩ ⟨⟨RD▸YB,xC CU RQ,Rp⟩,Sb⟩ Nat.zero_lt_one [1,2,0,3,4,5,6] (Sub.refl _)
  refine zD 4<|jf [2,0] (LB++LA) (fun ba5 wx aGx=>?_)
  have hb:=hB.2.1.kg (Knows.left aGx)
  have ha:=hA.2.1.kg (Knows.right aGx)
  have hBF:=hb
  have hAF:=ha
  obtain⟨lh,O6,O4,kY,rfl,O5,Nk,Nj⟩:=hb
  obtain⟨kS,KU,KS,kA,rfl,KT,JF,JE⟩:=ha
  refine zD 2<|jc (vs:=[zP d,zI 4]) [0] (EV (hN.up ((((bZ.trans ki).trans rZ).trans iL).trans wx)) hA.2.2.2 (by omega)) ?_
  rintro _ bgG ⟨amm,rfl,aYh,aX9,aHH⟩
  refine jn fun aIY=>jcL (vs:=[zP d,.slice (some ⟨aIY,0,none⟩) 4 4]) [1] [0] [(aIY,.cells ⟨([1,2,4,amm].map cm).flatten⟩ 3 (0,0))] (fun aI hs hZ=>akm ((hN.up ((((bZ.trans ki).trans rZ).trans iL).trans wx)).up hs) aHH (bU [1,2,4,amm] hZ.head (by intro p hp;rfl)) (by simp)) ?_
  rintro _ bgF ⟨ads,rfl,aFf,aHG⟩
  refine zD 2<|jc (vs:=[zP d,zI 4]) [0] (EV (hN.up ((((bZ.trans ki).trans rZ).trans iL).trans wx)) aHG (by omega)) ?_
  rintro _ bgE ⟨aml,rfl,aYg,aX8,aHF⟩
  refine jn fun S1=>jcL (vs:=[zP d,.slice (some ⟨S1,0,none⟩) 4 4]) [1] [0] [(S1,.cells ⟨([1,2,4,aml].map cm).flatten⟩ 3 (0,0))] (fun aI hs hZ=>akm ((hN.up ((((bZ.trans ki).trans rZ).trans iL).trans wx)).up hs) aHF (bU [1,2,4,aml] hZ.head (by intro p hp;rfl)) (by simp)) ?_
  rintro _ bgD ⟨adr,rfl,aFe,aHE⟩
  refine zD 2<|jc (vs:=[zP d,zI 4]) [0] (EV (hN.up ((((bZ.trans ki).trans rZ).trans iL).trans wx)) aHE (by omega)) ?_
  rintro _ bgC ⟨amk,rfl,aYf,aX7,aHD⟩
  refine jn fun aIX=>jcL (vs:=[zP d,.slice (some ⟨aIX,0,none⟩) 4 4]) [1] [0] [(aIX,.cells ⟨([1,2,4,amk].map cm).flatten⟩ 3 (0,0))] (fun aI hs hZ=>akm ((hN.up ((((bZ.trans ki).trans rZ).trans iL).trans wx)).up hs) aHD (bU [1,2,4,amk] hZ.head (by intro p hp;rfl)) (by simp)) ?_
  rintro _ bgB ⟨adp,rfl,aFd,aHC⟩
  refine jd 6 [5,5,5] ?_
  have Ah:=au5 aFf (by omega:0≤amm∧amm≤4)
  have x6:=au5 aFe (by omega:0≤aml∧aml≤4)
  have oU:=au5 aFd (by omega:0≤amk∧amk≤4)
  refine zD 6<|jc (vs:=[zP d,zI nf]) [0] (EV (hN.up ((((bZ.trans ki).trans rZ).trans iL).trans wx)) aHC (by omega)) ?_
  rintro _ aVe ⟨aLT,rfl,aYe,aX6,aHB⟩
  refine zD 3<|nY<|dP [1,1,1,1,1,1,1,1,1,0,1,0,0] [] (fun(zz:Int×Value×Cells×(List cu)×Cells)=>[(0,zP d),(6,zP b6),(7,zP b7),(15,zI zz.1)]) (fun zz=>[.l zz.2.2.1,.l zz.2.2.2.2,.b sC (.cells ⟨[zI 2,zI 0,zI 0,.slice ep kN.length dZ,.slice dH jP.length du,zS,zS]⟩ 90 (0,0)),.b b7 (.cells ⟨[.slice (some ⟨n8,0,none⟩) 2 2,.slice eS TG.length dW,zS,.slice ep kN.length dZ,.slice dH jP.length du,vR,.slice lh uY.length kY,.slice kS MF.length kA,zI ads,zI adr,zI adp,zz.2.1]⟩ 40 (0,0)),.b b6 (.cells ⟨zO⟩ 40 (0,0))]) (fun zz=>(0≤zz.1∧zz.2.2.2.1.length+zz.1≤nf)∧ax zz.2.1 3 58 mX zz.2.2.2.1 zz.2.2.1∧BE uY.length MF.length zz.2.2.2.1∧bL vd xs d zz.2.2.2.2) (fun zz=>zz.1.toNat) (⟨aLT,zS,[],[],aVe⟩) ⟨by simp only[List.length_nil];omega,ax.nil _ _ _,⟨(fun _ h=>by cases h),List.Pairwise.nil⟩,aHB⟩ [0,1,5,6,7] ?_
  rintro⟨j,vF,LF,fs,X⟩ hF K58 aHp rest
  dsimp only at hF
  have awW:=hB.1
  have aYA:=hA.1
  refine zD 6<|jj 5 [(0,zP d),(6,zP b6),(7,zP b7),(15,zI j),(214,.bool ((decide (j>0))&&(decide ((uY.length:Int)>0))))] (fun gG=>?_) (fun hj=>?_)
  rotate_left
  refine js 209 (decide (j>0)) (fun h56=>?_) (fun h56=>?_)
  ·
   have ajb:=h56
   replace ajb:=of_decide_eq_true ajb
   refine jd 5 [3]<|jw 214 (.bool ((decide (j>0))&&(decide ((uY.length:Int)>0)))) (w:= .bool (decide ((uY.length:Int)>0))) (by rw[h56]<;>rfl) ?_
   exact zK hj
  ·
   have ajb:=h56
   replace ajb:=of_decide_eq_false ajb
   refine zD 5<|jw 214 (.bool ((decide (j>0))&&(decide ((uY.length:Int)>0)))) (w:= .bool false) (by rw[h56]<;>rfl) ?_
   exact zK hj
  refine zD 1<|jj 5 [(0,zP d),(6,zP b6),(7,zP b7),(15,zI j),(220,.bool (((decide (j>0))&&(decide ((uY.length:Int)>0)))&&(decide ((MF.length:Int)>0))))] (fun gG=>?_) (fun hj=>?_)
  rotate_left
  refine js 215 ((decide (j>0))&&(decide ((uY.length:Int)>0))) (fun h57=>?_) (fun h57=>?_)
  ·
   have ayo:=h57
   try simp only[zB] at ayo
   refine jd 5 [3]<|jw 220 (.bool (((decide (j>0))&&(decide ((uY.length:Int)>0)))&&(decide ((MF.length:Int)>0)))) (w:= .bool (decide ((MF.length:Int)>0))) (by rw[h57]<;>rfl) ?_
   exact zK hj
  ·
   have ayo:=h57
   try simp only[zB] at ayo
   refine zD 5<|jw 220 (.bool (((decide (j>0))&&(decide ((uY.length:Int)>0)))&&(decide ((MF.length:Int)>0)))) (w:= .bool false) (by rw[h57]<;>rfl) ?_
   exact zK hj
  refine zD 1<|js 220 (((decide (j>0))&&(decide ((uY.length:Int)>0)))&&(decide ((MF.length:Int)>0))) (fun h58=>?_) (fun h58=>?_)
  ·
   try simp only[zB] at h58
   refine jd 8 [3]<|jc (vs:=[zP d,.agg ⟨[.slice (some ⟨n8,0,none⟩) 2 2,.slice eS TG.length dW,zS,.slice ep kN.length dZ,.slice dH jP.length du,vR,.slice lh uY.length kY,.slice kS MF.length kA,zI ads,zI adr,zI adp,vF]⟩]) [1] (aUy (hN.up ((((bZ.trans ki).trans rZ).trans iL).trans wx)) hF.2.2.2 (show bD _ _ _ _ _ from ⟨lh,O6,O4,kY,rfl,O5,Nk,Nj⟩) (show bD _ _ _ _ _ from ⟨kS,KU,KS,kA,rfl,KT,JF,JE⟩) (by omega)) ?_
   rintro _ aJj ⟨pX,rfl,aYO,aYN,arV⟩
   refine jn fun b16=>jd 6 [0,4,0]<|jp (vs:=[.agg ⟨[.slice (some ⟨n8,0,none⟩) 2 2,.slice eS TG.length dW,zS,.slice ep kN.length dZ,.slice dH jP.length du,vR,.slice lh uY.length kY,.slice kS MF.length kA,zI ads,zI adr,zI adp,vF]⟩,.agg ⟨[zI pX.a,zI pX.b,.bool pX.same]⟩]) [2] LF (fun aI hs hZ=>aEN (x:=⟨pX.a,pX.b,pX.same⟩) (hF.2.1.kg hZ) (by omega))<|zD 2<|js 229 (!(Dr fs pX.a pX.b)) (fun h59=>?_) (fun h59=>?_)
   ·
    try simp only[zB] at h59
    refine jd 5 [4,0]<|jn fun aIW=>iC (sz:=3) (ps:=fs) (qs:=[(⟨pX.a,pX.b,pX.same⟩:cu)]) (enc:=mX) (w:= .slice (some ⟨aIW,0,none⟩) 1 1) [3] [0] [(aIW,.cells ⟨([(⟨pX.a,pX.b,pX.same⟩:cu)].map mX).flatten⟩ 58 (0,0))] (hF.2.1) (fun s _ hZ=>bK [(⟨pX.a,pX.b,pX.same⟩:cu)] (hZ _ (.head _)) (by intro p hp;rfl)) (fun p _=>aj rfl) (by simp<;>omega) (fun baJ aVI YH=>?_)
    obtain⟨aBl,aBe,aGP⟩:=YH.form
    subst aGP
    refine jd 5 [5]<|ja (j-1) (by omega)<|zD 2<|bI aHp (⟨j-1,(.slice aBl ((fs++[(⟨pX.a,pX.b,pX.same⟩:cu)])).length aBe),aVI,(fs++[(⟨pX.a,pX.b,pX.same⟩:cu)]),aJj⟩) ⟨by simp only[zM];omega,YH,BE.snoc hF.2.2.1 (by dsimp only;omega) (by dsimp only;omega) (by assumption),arV⟩ (by omega) [0,3,4,5,6] (Sub.refl _)
   try simp only[zB] at h59
   refine zD 4<|ja (j-1) (by omega)<|zD 2<|bI aHp (⟨j-1,vF,LF,fs,aJj⟩) ⟨by dsimp only;omega,hF.2.1,hF.2.2.1,arV⟩ (by omega) [2,1,3,4,5] (Sub.refl _)
  try simp only[zB] at h58
  refine zD 4<|jf [0] LF (fun ba4 Vg axd=>?_)
  have hFA:=hF.2.1.kg axd
  refine jd 1 [2] ?_
  obtain⟨aMu,aMb,aRZ⟩:=hR.2.1.form
  subst aRZ
  obtain⟨aMt,aMa,aRY⟩:=hF.2.1.form
  subst aRY
  refine jd 3 [3]<|aL q0.a.a.a.a.a.a (.agg ⟨[.slice (some ⟨n8,0,none⟩) 2 2,.slice eS TG.length dW,zS,.slice ep kN.length dZ,.slice dH jP.length du,(.slice aMu (rs).length aMb),.slice lh uY.length kY,.slice kS MF.length kA,zI ads,zI adr,zI adp,(.slice aMt (fs).length aMa)]⟩) [3] [0] X (Sub.refl _) ⟨_,_,X,rfl,rfl,(((((bZ.trans ki).trans rZ).trans iL).trans wx).trans Vg),⟨ways,kN,VC,rs,uY,MF,ads,adr,adp,fs,yT⟩,_,rfl,⟨Tv.2.1,HS,⟨by dsimp only;omega,hR.2.2⟩,⟨by dsimp only;omega,hB.2.2.1⟩,⟨by dsimp only;omega,hA.2.2.1⟩,⟨Ah,x6,oU⟩,⟨by dsimp only;omega,hF.2.2.1.1⟩,hF.2.2.1.2,rfl⟩,(by dsimp only;omega),⟨_,_,_,_,_,_,_,_,none,0,jP,rfl,(aS3.up (((rZ.trans iL).trans wx).trans Vg)),(aHm.up ((iL.trans wx).trans Vg)),(pR.up ((((ki.trans rZ).trans iL).trans wx).trans Vg)),CU,(hRU.up (wx.trans Vg)),(hBF.up Vg),(hAF.up Vg),hFA⟩,hF.2.2.2⟩
 refine js 30 w30 (fun h65=>?_) (fun h65=>?_)
 ·
  subst h65
  refine jd 7 [1]<|aV 4 fun aV3 aWx aTm=>jc [0] (aIy (hN.up (bZ.trans ki)) aHz) ?_
  rintro _ X35 ⟨uG,rfl,aFc,aTM⟩
  refine gM aTm [[1]]<|aV 5 fun aV2 aWw aTl=>jn fun sq=>eH aTl [1,2,3]<|zD 1<|aV 7 fun aV1 aWv aTk=>jn fun b38=>eH aTk (zN 1 4)<|aV 8 fun aV0 aWu aTj=>aPk (E:=87) (sz:=1) fH (qs:=[(.slice (some ⟨sq,0,none⟩) 1 1:Value)]) (w:= .slice (some ⟨b38,0,none⟩) 1 1) [0] [(b38,.cells ⟨([(.slice (some ⟨sq,0,none⟩) 1 1:Value)].map fH).flatten⟩ 87 (0,0))] (fun s _ hZ=>bK [(.slice (some ⟨sq,0,none⟩) 1 1:Value)] (hZ _ (.head _)) (by intro p hp;rfl)) (by intro p hp;rw[List.mem_singleton] at hp;subst hp;exact aj rfl) (by simp<;>omega) (fun v39 L39 CE=>?_)
  obtain⟨aBk,aBd,air⟩:=CE.form
  subst air
  refine eH aTj (zN 1 5)<|zD 2<|aV 11 fun aVZ aWt aTi=>jd 1 [4]<|gM aTi []<|zD 4<|jc (vs:=[zP d,zI 2]) [3] (tx (hN.up (bZ.trans ki)) aTM (by omega)) ?_
  rintro _ X43 ⟨w43,rfl,aHy⟩
  refine zD 1<|js 43 w43 (fun h71=>?_) (fun h71=>?_)
  ·
   subst h71
   refine jd 8 [4,4]<|jxo 1 CE (show ([(.slice (some ⟨sq,0,none⟩) 1 1:Value)])[0]?=some (.slice (some ⟨sq,0,none⟩) 1 1:Value) from rfl) fun b50 aSD=>zD 1<|pg 0 [1] L39 (fun s _ hZ=>cK CE aSD hZ (show ([(.slice (some ⟨sq,0,none⟩) 1 1:Value)])[0]?=some (.slice (some ⟨sq,0,none⟩) 1 1:Value) from rfl))<|zD 1<|aV 10 fun aVY aWs aTh=>jc [0] (aIy (hN.up (bZ.trans ki)) aHy) ?_
   rintro _ X54 ⟨vo,rfl,aPN,aTJ⟩
   refine gM aTh [[1],[4],[4]]<|aV 11 fun aVX aWr aTg=>jn fun b55=>eH aTg (zN 1 6)<|aV 12 fun aVW aWq aTf=>iC (sz:=7) (ps:=[(⟨uG.k,uG.st,uG.ot,uG.fn,uG.fl,uG.tn,uG.tl⟩:aO)]) (qs:=[(⟨vo.k,vo.st,vo.ot,vo.fn,vo.fl,vo.tn,vo.tl⟩:aO)]) (enc:=kM) (w:= .slice (some ⟨b55,0,none⟩) 1 1) [4] [0] [(b55,.cells ⟨([(⟨vo.k,vo.st,vo.ot,vo.fn,vo.fl,vo.tn,vo.tl⟩:aO)].map kM).flatten⟩ 83 (0,0))] (GI (b:=sq) (T:=83) [(⟨uG.k,uG.st,uG.ot,uG.fn,uG.fl,uG.tn,uG.tl⟩:aO)] rfl (by intro p hp;rfl)) (fun s _ hZ=>bK [(⟨vo.k,vo.st,vo.ot,vo.fn,vo.fl,vo.tn,vo.tl⟩:aO)] (hZ _ (.head _)) (by intro p hp;rfl)) (fun p _=>aj rfl) (by simp<;>omega) (fun v56 L56 wz=>?_)
   obtain⟨aab,Z8,aiq⟩:=wz.form
   subst aiq
   refine gM aTf [[5],[5]]<|jxo 1 CE (show ([(.slice (some ⟨sq,0,none⟩) 1 1:Value)])[0]?=some (.slice (some ⟨sq,0,none⟩) 1 1:Value) from rfl) fun b57 aSC=>zD 1<|aV 15 fun aVV aWp aTe=>Tj 3 0 [(.slice aab (([(⟨uG.k,uG.st,uG.ot,uG.fn,uG.fl,uG.tn,uG.tl⟩:aO)]++[(⟨vo.k,vo.st,vo.ot,vo.fn,vo.fl,vo.tn,vo.tl⟩:aO)])).length Z8)] ((.slice aab (([(⟨uG.k,uG.st,uG.ot,uG.fn,uG.fl,uG.tn,uG.tl⟩:aO)]++[(⟨vo.k,vo.st,vo.ot,vo.fn,vo.fl,vo.tn,vo.tl⟩:aO)])).length Z8):Value) CE aSC (show ([(.slice (some ⟨sq,0,none⟩) 1 1:Value)])[0]?=some (.slice (some ⟨sq,0,none⟩) 1 1:Value) from rfl) rfl rfl (Nat.le_of_ble_eq_true rfl) fun L76 aQK=>gM aTe []<|zD 1<|LU bH ⟨(.slice aBk ([(.slice (some ⟨sq,0,none⟩) 1 1:Value)]).length aBd),L76++L56,[[uG,vo]],X54⟩ ⟨fun _ hk=>⟨_,aQK.kg hk.left,.cons (wz.kg hk.right) .nil⟩,⟨by simp,by simpa using ⟨aFc,aPN⟩⟩,aTJ⟩ Nat.zero_lt_one [[0,1],[3],[5],[6]] (Sub.refl _)
  subst h71
  refine zD 2<|LU bH ⟨(.slice aBk ([(.slice (some ⟨sq,0,none⟩) 1 1:Value)]).length aBd),L39++[(sq,.cells ⟨[zI uG.k,zI uG.st,zI uG.ot,zI uG.fn,zI uG.fl,zI uG.tn,zI uG.tl]⟩ 83 (0,0))],[[uG]],X43⟩ ⟨fun _ hk=>⟨_,CE.kg hk.left,.cons (bU [uG] (hk.right _ (.head _)) (fun _ _=>rfl)) .nil⟩,⟨by simp,by simpa using aFc⟩,aHy⟩ Nat.zero_lt_one [[1,3],[0],[4],[5]] (Sub.refl _)
 subst h65
 refine zD 2<|nY<|bI bH ⟨zS,[],[],X30⟩ ⟨fun _ _=>Ua,⟨by simp,by simp⟩,aHz⟩ Nat.zero_lt_one (zN 0 4) (Sub.refl _)
theorem aUA{xs:List Int}(hl:bD ro vd 1 cm xs):dO zT 8 [vd] ro [] (fun r Y=>∃d,r= zP d∧bL vd xs d Y):=by
 obtain⟨fA,rQ,rP,eP,rfl,tQ,lJ,mE⟩:=hl
 refine zE<|zD 8<|jn fun b5=>zD 3<|zR (zP b5) [] [0] [(b5,.cells ⟨[.slice fA xs.length eP,zI 0,zU 11400714819323198485]⟩ 76 (0,0))] ⟨_,rfl,0,_,Nat.zero_le _,rfl⟩
theorem de.set{R:α→β→Prop}{l:List α}{m:List β}(h:de R l m){a:α}{b:β}(hb:m[k]?=some b) (hr:R a b):de R (l.set k a) m:=by
 induction h generalizing k with
 |nil=>simp at hb
 |cons h1 h2 ih=>
  cases k with
  |zero=>simp at hb;subst hb;exact .cons hr h2
  |succ k=>exact .cons h1 (ih (by simpa using hb))
theorem de.mem{R:α→β→Prop}{l:List α}{m:List β}(h:de R l m){a:α}(ha:a∈l):∃b∈m,R a b:=by
 obtain⟨i,hi⟩:=List.getElem?_of_mem ha
 obtain⟨b,hb,hr⟩:=h.get hi
 exact⟨b,zL hb,hr⟩
theorem mI{hv:List bw}(h:de (rF ro) hv hd):∀p∈hv,∀c∈mb p,single c=true:=fun p hp=>by
 obtain⟨y,_,h1⟩:=h.mem hp
 obtain⟨w,c,s,a⟩:=p
 obtain⟨_,_,_,_,e,_⟩:=h1.2.2.2
 dsimp only at e
 subst e
 exact aj rfl
theorem SG{hw:List bw}{Z L:Cells}{v:Value}{x x':bw}{y:cy}(h:∀aG,Sub ro aG→Knows aG Z→de (rF aG) hw hd)(hS:de dr hw hd)(hx:hw[k]?=some x) (lM:hw[k]?=some x') (hy:hd[k]?=some y) (ho:ax v 1 3 cm y.dX L):
 (∀aG,Sub ro aG→Knows aG (L++Z)→de (rF aG) (hw.set k ⟨x'.word,x'.cls,x'.oh,v⟩) hd)∧de dr (hw.set k ⟨x'.word,x'.cls,x'.oh,v⟩) hd:=by
 rw[hx] at lM;cases lM
 obtain⟨y',h1,h2⟩:=hS.get hx
 rw[hy] at h1;cases h1
 exact⟨fun aG hs hk=>(h aG hs hk.right).set hy ⟨h2.1,h2.2.1,h2.2.2,ho.kg hk.left⟩,hS.set hy h2⟩
theorem ab6{l m:List α}{a:α}(h:l.drop k=m.drop k):(l.set k a).drop (k+1)=m.drop (k+1):=by
 have h1:=congrArg (List.drop 1) h
 rw[List.drop_drop,List.drop_drop] at h1
 rw[List.drop_set_of_lt (by omega)]
 exact h1
theorem akh{l m:List α}{a:α}(h:l.drop k=m.drop k)(ha:l[k]?=some a):m[k]?=some a:=by
 have h1:=congrArg (fun q=>q[0]?) h
 simp only[List.getElem?_drop,Nat.add_zero] at h1
 rw[←h1];exact ha
theorem uf{hv:List bw}(hT:ZR cs hd)(hR:jh ro vc vh cs hv hd)(hS:de dr hv hd):dO zT 39 [.agg ⟨[vc,vh]⟩] ro [] (fun r Y=>∃(hw:List bw) (ca ha:Option Addr) (cc hc:Nat) (Z:Cells),r= .agg ⟨[.slice ca cs.length cc,.slice ha hw.length hc]⟩∧de dr hw hd∧(∀aG,Sub ro aG→Knows aG Z→jh aG (.slice ca cs.length cc) (.slice ha hw.length hc) cs hw hd)∧Y=Z):=by
 obtain⟨hc,hh,di⟩:=id hR
 obtain⟨ep,AK,AJ,dZ,rfl,Dx,yR,yQ⟩:=hc
 obtain⟨dH,u5,u4,du,rfl,xp,qR,qQ⟩:=hh
 have hlen:=hS.len
 have hnh:=hT.nh
 have DO:=hT.nc
 refine zE<|zD 2<|jn fun b1=>jn fun b2=>zD 2<|Jc [1,1] [] (fun(zz:Value×Cells×Value×Cells)=>[(1,zP b1),(2,zP b2)]) (fun zz=>[.b b1 (.cells ⟨[zz.1,zz.2.2.1]⟩ 35 (0,0)),.l zz.2.1,.l zz.2.2.2,.b b2 (.cells ⟨[zS,zS]⟩ 35 (0,0))]) (fun zz=>ax zz.1 2 142 oW cs zz.2.1∧ax zz.2.2.1 4 145 mb hv zz.2.2.2) ?_ (fun K1 bH=>?_)
 ·
  rintro⟨vC,LC,vH,LH⟩ hJ rest
  dsimp only at hJ
  refine zD 6<|nY<|dP [1,1,0,1,0,0] [] (fun(zz:Nat×Value×Cells×(List bw)×Cells)=>[(1,zP b1),(2,zP b2),(3,zI (zz.1:Int))]) (fun zz=>[.b b1 (.cells ⟨[vC,zz.2.1]⟩ 35 (0,0)),.l zz.2.2.1,.l zz.2.2.2.2,.l LC,.b b2 (.cells ⟨[zS,zS]⟩ 35 (0,0))]) (fun zz=>(zz.1≤zz.2.2.2.1.length∧zz.2.2.2.1.length=hv.length∧zz.2.2.2.1.drop zz.1=hv.drop zz.1)∧ax zz.2.1 4 145 mb zz.2.2.2.1 zz.2.2.1∧(∀aG,Sub ro aG→Knows aG zz.2.2.2.2→de (rF aG) zz.2.2.2.1 hd)∧de dr zz.2.2.2.1 hd) (fun zz=>hv.length-zz.1) (⟨0,vH,LH,hv,[]⟩) ⟨⟨by omega,rfl,rfl⟩,hJ.2,fun _ hs _=>(hR.up hs).2.2,hS⟩ [1,3,0,2,4] ?_
  rintro⟨k,vH,LH,hw,Z⟩ hI K2 mr rest
  dsimp only at hI
  refine jd 6 [0]<|DL hI.2.1<|zD 2<|zJ 18 ((k:Int) <(hw.length:Int)) (fun h1=>?_) fun h1=>?_
  ·
   refine jd 11 [0,0] ?_
   obtain⟨x27,JV⟩:=zG hw k
   refine jxo 4 hI.2.1 JV fun b27 aSP=>zD 1<|pg 3 [1] LH (fun s _ hZ=>cK hI.2.1 aSP hZ JV)<|aV 9 (fun pW pZ oU=>?_)
   obtain⟨y27,avN,aQo⟩:=hR.2.2.get (akh hI.1.2.2 JV)
   have aYM:=(hT.A8 _ _ avN).2.2.1.1
   refine jc (vs:=[x27.dX]) [] (agS aQo.2.2.2 (by omega)) ?_
   rintro v30 L30 ⟨_,CG,rfl⟩
   refine eH oU (zN 1 5) ?_
   obtain⟨x31,aoq⟩:=zG hw k
   refine jxo 4 hI.2.1 aoq fun Jt aSN=>zD 1<|aV 12 (fun rI rK qu=>?_)
   obtain⟨va4,vc4,he4⟩:=CG.form
   subst he4
   refine Tj 2 3 [(.slice va4 (y27.dX).length vc4)] (⟨x31.word,x31.cls,x31.oh,(.slice va4 (y27.dX).length vc4)⟩:bw) hI.2.1 aSN aoq rfl rfl (Nat.le_of_ble_eq_true rfl) fun L5 ho6=>gM qu []<|zD 3<|ja ((k:Int)+1) (by omega)<|zD 2<|LU mr (⟨k+1,vH,L5,(hw.set k (⟨x31.word,x31.cls,x31.oh,(.slice va4 (y27.dX).length vc4)⟩:bw)),L30++Z⟩) ⟨⟨by rw[List.length_set];omega,by rw[List.length_set];exact hI.1.2.1,ab6 hI.1.2.2⟩,ho6,(SG hI.2.2.1 hI.2.2.2 JV aoq avN CG).1,(SG hI.2.2.1 hI.2.2.2 JV aoq avN CG).2⟩ (by omega) [[2],[0],[1,3],[4],[5]] (Sub.refl _)
  refine jd 5 [0] ?_
  obtain⟨TR,TJ,R2⟩:=hJ.1.form
  subst R2
  obtain⟨va8,vc8,he8⟩:=hI.2.1.form
  subst he8
  refine jd 3 [4]<|zR (.agg ⟨[(.slice TR (cs).length TJ),(.slice va8 (hw).length vc8)]⟩) [4] [1,2,3] (LH++(Z++LC)) ⟨hw,_,_,_,_,_,rfl,hI.2.2.2,fun aG hs hk=>⟨hJ.1.kg hk.right.right,hI.2.1.kg hk.left,hI.2.2.1 aG hs hk.right.left⟩,rfl⟩
 refine jd 5 [1,1]<|Jb [0,4] ⟨fun z5 t6 VM=>?_,fun z8 t9 uv=>?_,trivial⟩
 ·
  refine jn fun b4=>eH VM [1,2]<|Jb [3,4] ⟨fun z11 t12 VY=>?_,fun z14 t15 J6=>?_,trivial⟩
  ·
   refine iC (sz:=2) (ps:=[]) (qs:=cs) (enc:=oW) (w:= .slice ep cs.length dZ) [0] [] [] (bA (b:=b4) (T:=142)) (fun s he _=>⟨ep,AK,AJ,dZ,rfl,yR,fun i p hp=>(yQ i p hp).ext he⟩) (fun p _=>aj rfl) (by simp<;>omega) (fun v7 L7 iD=>?_)
   rw[List.nil_append] at iD
   obtain⟨TR,TJ,R2⟩:=iD.form
   subst R2
   refine gM VY [[2]]<|zD 1<|aV 4 fun adb adX HW=>jn fun b8=>eH HW [1,2,3]<|aV 7 fun aqf aqz VX=>iC (sz:=4) (ps:=[]) (qs:=hv) (enc:=mb) (w:= .slice dH hv.length du) [0] [] [] (bA (b:=b8) (T:=145)) (fun s he _=>⟨dH,u5,u4,du,rfl,qR,fun i p hp=>(qQ i p hp).ext he⟩) (mI di) (by simp only[List.length_nil,Nat.zero_add];omega) (fun v11 L11 qn=>?_)
   rw[List.nil_append] at qn
   obtain⟨TW,TP,VB⟩:=qn.form
   subst VB
   refine gM VX []<|aV 9 fun aqe aqy VW=>jd 1 [3]<|gq VW<|zD 1<|aV 11 fun aAV aBQ VV=>jd 1 [3]<|gq VV<|zD 1<|bI bH ⟨(.slice TR (cs).length TJ),L7,(.slice TW (hv).length TP),L11⟩ ⟨iD,qn⟩ Nat.zero_lt_one [3,1,0,2] (Sub.refl _)
  refine jn fun b8=>eH J6 [1,2,3]<|aV 3 fun aV6 aWA abP=>iC (sz:=2) (ps:=[]) (qs:=cs) (enc:=oW) (w:= .slice ep cs.length dZ) [1] [] [] (bA (b:=b4) (T:=142)) (fun s he _=>⟨ep,AK,AJ,dZ,rfl,yR,fun i p hp=>(yQ i p hp).ext he⟩) (fun p _=>aj rfl) (by simp<;>omega) (fun v7 L7 iD=>?_)
  rw[List.nil_append] at iD
  obtain⟨TR,TJ,R2⟩:=iD.form
  subst R2
  refine gM abP [[3]]<|zD 1<|aV 7 fun aV5 aWz aiZ=>iC (sz:=4) (ps:=[]) (qs:=hv) (enc:=mb) (w:= .slice dH hv.length du) [1] [] [] (bA (b:=b8) (T:=145)) (fun s he _=>⟨dH,u5,u4,du,rfl,qR,fun i p hp=>(qQ i p hp).ext he⟩) (mI di) (by simp only[List.length_nil,Nat.zero_add];omega) (fun v11 L11 qn=>?_)
  rw[List.nil_append] at qn
  obtain⟨TW,TP,VB⟩:=qn.form
  subst VB
  refine gM aiZ []<|aV 9 fun aAU aBP VU=>jd 1 [3]<|gq VU<|zD 1<|aV 11 fun aV4 aWy ayc=>jd 1 [3]<|gq ayc<|zD 1<|bI bH ⟨(.slice TR (cs).length TJ),L7,(.slice TW (hv).length TP),L11⟩ ⟨iD,qn⟩ Nat.zero_lt_one [3,1,0,2] (Sub.refl _)
 refine jn fun b8=>eH uv [1,2]<|aV 0 fun aAT aBO VT=>jn fun b4=>eH VT [1,2,3]<|aV 3 fun ada adW EN=>iC (sz:=2) (ps:=[]) (qs:=cs) (enc:=oW) (w:= .slice ep cs.length dZ) [0] [] [] (bA (b:=b4) (T:=142)) (fun s he _=>⟨ep,AK,AJ,dZ,rfl,yR,fun i p hp=>(yQ i p hp).ext he⟩) (fun p _=>aj rfl) (by simp<;>omega) (fun v7 L7 iD=>?_)
 rw[List.nil_append] at iD
 obtain⟨TR,TJ,R2⟩:=iD.form
 subst R2
 refine gM EN [[3]]<|zD 1<|aV 7 fun Ps PS HV=>iC (sz:=4) (ps:=[]) (qs:=hv) (enc:=mb) (w:= .slice dH hv.length du) [1] [] [] (bA (b:=b8) (T:=145)) (fun s he _=>⟨dH,u5,u4,du,rfl,qR,fun i p hp=>(qQ i p hp).ext he⟩) (mI di) (by simp only[List.length_nil,Nat.zero_add];omega) (fun v11 L11 qn=>?_)
 rw[List.nil_append] at qn
 obtain⟨TW,TP,VB⟩:=qn.form
 subst VB
 refine gM HV []<|aV 9 fun Pr PQ HU=>jd 1 [3]<|gq HU<|zD 1<|aV 11 fun Pq PO HT=>jd 1 [3]<|gq HT<|zD 1<|bI bH ⟨(.slice TR (cs).length TJ),L7,(.slice TW (hv).length TP),L11⟩ ⟨iD,qn⟩ Nat.zero_lt_one [3,1,0,2] (Sub.refl _)
structure db where
 a:Int
 b:Int
 c:Int
 d:Int
 e:Int
 f:Int
abbrev mN(x:db):List Value:=[zI x.a,zI x.b,zI x.c,zI x.d,zI x.e,zI x.f]
def W7(K:aB)(l:List Value):Prop:=∃v0 v1 v3 v4 v5 v6 v7 vb fa fc,l=[v0,v1,.slice fa 0 fc,v3,v4,v5,v6,v7,zI K.gone,zI K.new,zI K.af,vb]∧∀v∈[v0,v1,v3,v4,v5,v6,v7,vb],single v=true
theorem W7.all(h:W7 K l):∀v∈l,single v=true:=by
 obtain⟨v0,v1,v3,v4,v5,v6,v7,vb,fa,fc,rfl,h⟩:=h
 simp only[List.mem_cons,List.not_mem_nil,or_false] at h ⊢
 rintro v (rfl|rfl|rfl|rfl|rfl|rfl|rfl|rfl|rfl|rfl|rfl|rfl)<;>first|rfl|exact h _ (by simp)
theorem eT{v:Value}{T:TypeId}{enc:α→List Value}{ps:List α}{L:Cells}(h:ax v sz T enc ps L):single v=true:=by
 obtain⟨a,c,rfl⟩:=h.form;rfl
theorem jW{v:Value}{enc:α→List Value}{ps:List α}(h:bD ro v sz enc ps):single v=true:=by
 obtain⟨a,b,o,c,rfl,_⟩:=h;rfl
theorem AB{a b c d e f g h:Value}(h1:single a=true)(h2:single b=true)(h3:single c=true)(h4:single d=true)(h5:single e=true)(h6:single f=true)(h7:single g=true)(h8:single h=true):∀v∈[a,b,c,d,e,f,g,h],single v=true:=by
 simp only[List.mem_cons,List.not_mem_nil,or_false]
 rintro v (rfl|rfl|rfl|rfl|rfl|rfl|rfl|rfl)<;>assumption
theorem fI.L(h:fI ro l K):W7 K l:=by
 obtain⟨v0,v1,v3,v4,v5,v6,v7,vb,fa,fc,hv,rfl,⟨_,h0,_⟩,⟨_,h1,_⟩,⟨h3,h4,_⟩,_,h5,h6,h7,hb⟩:=h
 exact⟨_,_,_,_,_,_,_,_,_,_,rfl,AB (jW h0) (jW h1) (jW h3) (jW h4) (jW h5) (jW h6) (jW h7) (jW hb)⟩
theorem oz{P:Prop}{p:α}(h:([]:List α)[i]?=some p):P:=by simp at h
theorem dF{l:List α}{a:α}(h:l[i]?=some a):l.take (i+1)=l.take i++[a]:=by
 rw[List.take_succ,h];rfl
theorem pU{R:α→β→Prop}{ws:List α}{ls:List β}{w:α}{l:β}(h:de R ws (ls.take i))(hl:ls[i]?=some l) (hr:R w l):de R (ws++[w]) (ls.take (i+1)):=by
 rw[dF hl];exact h.snoc hr
def hqw:ByteArray:=bs [72,81,87]
def kindOf(r:Int):Int:=if 97≤r∧r≤122 then 1 else if (65≤r∧r≤90)∧Rf hqw (UInt8.ofNat (IntKind.u8.wrap r).toNat) <0 then 2 else 0
theorem aIs:EF zT 299 Extern.BytealgIndexByte.indexByte:=⟨Tryz.f299,Tryz.func299,by kernel_rfl,by kernel_rfl,by kernel_rfl,by kernel_rfl⟩
theorem abj{a:ByteArray}{b:Int}:dv zT 291 [.string a,.int .u8 b] ro (zI (Rf a (b).toNat.toUInt8)):=by
 refine zE<|zD 8<|jib (a:=a) (b:=b) aIs<|zD 3<|zX (zI (Rf a (b).toNat.toUInt8)) ⟨rfl,rfl⟩
theorem abk{a:ByteArray}{b:Int}:dv zT 274 [.string a,.int .u8 b] ro (zI (Rf a (b).toNat.toUInt8)):=by
 refine zE<|zD 8<|jp (vs:=[.string a,.int .u8 b]) [] [] (fun aI hs hZ=>abj)<|zD 3<|zX (zI (Rf a (b).toNat.toUInt8)) ⟨rfl,rfl⟩
theorem avH{a:ByteArray}(hr:0≤r∧r <128):dv zT 250 [.string a,.int .i32 r] ro (zI (Rf a (IntKind.u8.wrap r).toNat.toUInt8)):=by
 refine zE<|zD 10<|jj 3 [(0,.string a),(1,.int .i32 r),(4,zI 0),(166,.bool ((decide (0≤r))&&(decide (r <128))))] (fun gG=>?_) (fun hj=>?_)
 rotate_left
 refine js 163 (decide (0≤r)) (fun h1=>?_) (fun h1=>?_)
 ·
  have fW:=h1
  replace fW:=of_decide_eq_true fW
  refine zD 3<|jw 166 (.bool ((decide (0≤r))&&(decide (r <128)))) (w:= .bool (decide (r <128))) (by rw[h1]<;>rfl) ?_
  exact zK hj
 ·
  have fW:=h1
  replace fW:=of_decide_eq_false fW
  refine zD 3<|jw 166 (.bool ((decide (0≤r))&&(decide (r <128)))) (w:= .bool false) (by rw[h1]<;>rfl) ?_
  exact zK hj
 refine zD 2<|js 160 ((decide (0≤r))&&(decide (r <128))) (fun h2=>?_) (fun h2=>?_)
 ·
  try simp only[zB] at h2
  refine zD 6<|jp (vs:=[.string a,.int .u8 (IntKind.u8.wrap r)]) [] [] (fun aI hs hZ=>abk)<|zD 3<|zX (zI (Rf a ((IntKind.u8.wrap r)).toNat.toUInt8)) ⟨rfl,rfl⟩
 try simp only[zB] at h2
 exfalso;omega
theorem aoV{a:ByteArray}(hr:0≤r∧r <128):dv zT 229 [.string a,.int .i32 r] ro (.bool (decide (Rf a (IntKind.u8.wrap r).toNat.toUInt8≥0))):=by
 refine zE<|zD 8<|jp (vs:=[.string a,.int .i32 r]) [] [] (fun aI hs hZ=>avH (by omega))<|zD 4<|zX (.bool (decide ((Rf a (IntKind.u8.wrap r).toNat.toUInt8)≥0))) ⟨rfl,rfl⟩
theorem aq1:dv zT 207 [.int .i32 r] ro (zI (kindOf r)):=by
 refine zE<|zD 11<|jj 3 [(0,.int .i32 r),(2,zI 0),(9,.bool ((decide (r≥97))&&(decide (r≤122))))] (fun gG=>?_) (fun hj=>?_)
 rotate_left
 refine js 6 (decide (r≥97)) (fun h1=>?_) (fun h1=>?_)
 ·
  have fW:=h1
  replace fW:=of_decide_eq_true fW
  refine zD 3<|jw 9 (.bool ((decide (r≥97))&&(decide (r≤122)))) (w:= .bool (decide (r≤122))) (by rw[h1]<;>rfl) ?_
  exact zK hj
 ·
  have fW:=h1
  replace fW:=of_decide_eq_false fW
  refine zD 3<|jw 9 (.bool ((decide (r≥97))&&(decide (r≤122)))) (w:= .bool false) (by rw[h1]<;>rfl) ?_
  exact zK hj
 refine zD 2<|js 3 ((decide (r≥97))&&(decide (r≤122))) (fun h2=>?_) (fun h2=>?_)
 ·
  try simp only[zB] at h2
  refine zD 6<|zX (zI 1) ⟨by simp only[kindOf,hqw];congr 1;(try simp at*);(repeat' split)<;>omega,rfl⟩
 try simp only[zB] at h2
 refine zD 6<|jj 3 [(0,.int .i32 r),(2,zI 0),(16,.bool ((decide (r≥65))&&(decide (r≤90))))] (fun gG=>?_) (fun hj=>?_)
 rotate_left
 refine js 13 (decide (r≥65)) (fun h3=>?_) (fun h3=>?_)
 ·
  have wC:=h3
  replace wC:=of_decide_eq_true wC
  refine zD 3<|jw 16 (.bool ((decide (r≥65))&&(decide (r≤90)))) (w:= .bool (decide (r≤90))) (by rw[h3]<;>rfl) ?_
  exact zK hj
 ·
  have wC:=h3
  replace wC:=of_decide_eq_false wC
  refine zD 3<|jw 16 (.bool ((decide (r≥65))&&(decide (r≤90)))) (w:= .bool false) (by rw[h3]<;>rfl) ?_
  exact zK hj
 refine zD 1<|jj 4 [(2,zI 0),(21,.bool (((decide (r≥65))&&(decide (r≤90)))&&(!(decide (Rf (bs [72,81,87]) (IntKind.u8.wrap r).toNat.toUInt8≥0)))))] (fun gG=>?_) (fun hj=>?_)
 rotate_left
 refine js 17 ((decide (r≥65))&&(decide (r≤90))) (fun h4=>?_) (fun h4=>?_)
 ·
  have yn:=h4
  try simp only[zB] at yn
  refine zD 1<|jp (vs:=[.string (bs [72,81,87]),.int .i32 r]) [] [] (fun aI hs hZ=>aoV (by omega))<|zD 2<|jw 21 (.bool (((decide (r≥65))&&(decide (r≤90)))&&(!(decide (Rf (bs [72,81,87]) (IntKind.u8.wrap r).toNat.toUInt8≥0))))) (w:= .bool (!(decide (Rf (bs [72,81,87]) (IntKind.u8.wrap r).toNat.toUInt8≥0)))) (by rw[h4]<;>rfl) ?_
  exact zK hj
 ·
  have yn:=h4
  try simp only[zB] at yn
  refine zD 4<|jw 21 (.bool (((decide (r≥65))&&(decide (r≤90)))&&(!(decide (Rf (bs [72,81,87]) (IntKind.u8.wrap r).toNat.toUInt8≥0))))) (w:= .bool false) (by rw[h4]<;>rfl) ?_
  exact zK hj
 refine zD 2<|js 10 (((decide (r≥65))&&(decide (r≤90)))&&(!(decide (Rf (bs [72,81,87]) (IntKind.u8.wrap r).toNat.toUInt8≥0)))) (fun h5=>?_) (fun h5=>?_)
 ·
  try simp only[zB] at h5
  refine zD 6<|zX (zI 2) ⟨by simp only[kindOf,hqw];congr 1;(try simp at*);(repeat' split)<;>omega,rfl⟩
 try simp only[zB] at h5
 refine zD 7<|zX (zI 0) ⟨by simp only[kindOf,hqw];congr 1;(try simp at*);(repeat' split)<;>omega,rfl⟩
theorem agu:((List.range 256).all fun n=> !G5 (UInt8.ofNat n)||decide (kindOf (n:Int)=1))=true:=by kernel_rfl
theorem agt:((List.range 256).all fun n=> !GK (UInt8.ofNat n)||decide (kindOf (n:Int)=2))=true:=by kernel_rfl
def ZW(w:ByteArray)(k:Int):Prop:=∀b∈w.data.toList,b.toNat <128∧kindOf (b.toNat:Int)=k
theorem Qd{w:ByteArray}(h:Script w):∃k:Int,(k=1∨k=2)∧ZW w k:=by
 have hb:∀b:UInt8,UInt8.ofNat b.toNat=b:=fun b=>by simp
 rcases h with h|h
 ·refine⟨1,.inl rfl,fun b mo=>?_⟩
  have h1:=h b mo
  have h2:=List.all_eq_true.1 agu b.toNat (List.mem_range.2 b.toNat_lt)
  rw[hb,h1] at h2
  simp only[G5,Bool.and_eq_true,Nat.ble_eq] at h1
  exact⟨by omega,by simpa using h2⟩
 refine⟨2,.inr rfl,fun b mo=>?_⟩
 have h1:=h b mo
 have h2:=List.all_eq_true.1 agt b.toNat (List.mem_range.2 b.toNat_lt)
 rw[hb,h1] at h2
 simp only[GK,Bool.and_eq_true,Nat.ble_eq] at h1
 exact⟨by omega,by simpa using h2⟩
theorem anA{w:ByteArray}{k:Int}(hs:1≤w.size∧w.size≤6)(hk:k=1∨k=2)(hK:ZW w k):dv zT 166 [.string w] ro (zI 0):=by
 refine zE<|zD 11<|zJ 9 ((w.size:Int)=0) (fun h1=>?_) fun h1=>?_
 ·
  exfalso;omega
 refine zD 9<|zJ 12 ((w.size:Int)>6) (fun h2=>?_) fun h2=>?_
 ·
  exfalso;omega
 refine zD 10<|jn fun r14=>zD 2<|dP [1,1,1,1,0,1,0,0] [] (fun(zz:Nat×Int)=>[(3,zI zz.2),(14,zP r14)]) (fun zz=>[.b r14 (.stringIter w zz.1)]) (fun zz=>zz.1≤w.data.toList.length∧(zz.2=0∨zz.2=k)) (fun zz=>w.data.toList.length-zz.1) (⟨0,0⟩) ⟨by omega,.inl rfl⟩ [0] ?_
 rintro⟨p,sc⟩ hI K1 bH rest
 dsimp only at hI
 refine zD 2 ?_
 cases RB:w.data.toList[p]? with
 |some As=>
  refine jnA r14 0 RB (hK _ (zL RB)).1<|zD 7 ?_
  have YQ:=(hK _ (zL RB)).2
  refine zD 7<|jp (vs:=[.int .i32 (As.toNat:Int)]) [] [] (fun aI hs hZ=>aq1)<|zD 8<|zJ 21 (sc=0) (fun h3=>?_) fun h3=>?_
  ·
   refine zD 10<|jj 4 [(3,zI (kindOf (As.toNat:Int))),(14,zP r14),(29,.bool ((decide ((kindOf (As.toNat:Int))=0))||(!decide ((kindOf (As.toNat:Int))=(kindOf (As.toNat:Int))))))] (fun gG=>?_) (fun hj=>?_)
   rotate_left
   refine js 25 (decide ((kindOf (As.toNat:Int))=0)) (fun h4=>?_) (fun h4=>?_)
   ·
    have yn:=h4
    replace yn:=of_decide_eq_true yn
    refine zD 4<|jw 29 (.bool ((decide ((kindOf (As.toNat:Int))=0))||(!decide ((kindOf (As.toNat:Int))=(kindOf (As.toNat:Int)))))) (w:= .bool true) (by rw[h4]<;>rfl) ?_
    exact zK hj
   ·
    have yn:=h4
    replace yn:=of_decide_eq_false yn
    refine zD 4<|jw 29 (.bool ((decide ((kindOf (As.toNat:Int))=0))||(!decide ((kindOf (As.toNat:Int))=(kindOf (As.toNat:Int)))))) (w:= .bool (!decide ((kindOf (As.toNat:Int))=(kindOf (As.toNat:Int))))) (by rw[h4]<;>rfl) ?_
    exact zK hj
   refine zD 1<|js 29 ((decide ((kindOf (As.toNat:Int))=0))||(!decide ((kindOf (As.toNat:Int))=(kindOf (As.toNat:Int))))) (fun h5=>?_) (fun h5=>?_)
   ·
    try simp only[zB] at h5
    exfalso;omega
   try simp only[zB] at h5
   refine zD 2<|bI bH (⟨p+1,(kindOf (As.toNat:Int))⟩) ⟨by have:=(List.getElem?_eq_some_iff.1 RB).1;dsimp only;omega,by dsimp only;omega⟩ (by have:=(List.getElem?_eq_some_iff.1 RB).1;dsimp only;omega) [0] (Sub.refl _)
  refine zD 7<|jj 4 [(3,zI sc),(14,zP r14),(29,.bool ((decide ((kindOf (As.toNat:Int))=0))||(!decide ((kindOf (As.toNat:Int))=sc))))] (fun gG=>?_) (fun hj=>?_)
  rotate_left
  refine js 25 (decide ((kindOf (As.toNat:Int))=0)) (fun h6=>?_) (fun h6=>?_)
  ·
   have h6g:=h6
   replace h6g:=of_decide_eq_true h6g
   refine zD 4<|jw 29 (.bool ((decide ((kindOf (As.toNat:Int))=0))||(!decide ((kindOf (As.toNat:Int))=sc)))) (w:= .bool true) (by rw[h6]<;>rfl) ?_
   exact zK hj
  ·
   have h6g:=h6
   replace h6g:=of_decide_eq_false h6g
   refine zD 4<|jw 29 (.bool ((decide ((kindOf (As.toNat:Int))=0))||(!decide ((kindOf (As.toNat:Int))=sc)))) (w:= .bool (!decide ((kindOf (As.toNat:Int))=sc))) (by rw[h6]<;>rfl) ?_
   exact zK hj
  refine zD 1<|js 29 ((decide ((kindOf (As.toNat:Int))=0))||(!decide ((kindOf (As.toNat:Int))=sc))) (fun h7=>?_) (fun h7=>?_)
  ·
   try simp only[zB] at h7
   exfalso;omega
  try simp only[zB] at h7
  refine zD 2<|bI bH (⟨p+1,sc⟩) ⟨by have:=(List.getElem?_eq_some_iff.1 RB).1;dsimp only;omega,by dsimp only;omega⟩ (by have:=(List.getElem?_eq_some_iff.1 RB).1;dsimp only;omega) [0] (Sub.refl _)
 |none=>
  refine jnZ r14 0 RB<|zD 10<|zX (zI 0) ⟨rfl,rfl⟩
def mz:=(m8 Tryz.typeInfo3 Tryz.underlying3 rfl rfl rfl rfl rfl rfl:TF zT 3 _ 1 8 _ false)
theorem aj5(a b c d:Int)(dep:Nat):EqD zT (dep+2) 79 (.agg ⟨[zI a,zI b]⟩) (.agg ⟨[zI c,zI d]⟩) (a==c&&(b==d&&true)):=
 uy (m8 Tryz.typeInfo79 Tryz.underlying79 rfl rfl rfl rfl rfl rfl) Tryz.stoodInHeld79 (.cons (by decide) (jY mz rfl) (jY mz rfl) (n6 mz _ _) (.cons (by decide) (jY mz rfl) (jY mz rfl) (n6 mz _ _) .nil))
theorem wN(a b c d:Int):EqV zT 79 (.agg ⟨[zI a,zI b]⟩) (.agg ⟨[zI c,zI d]⟩) (a==c&&(b==d&&true)):=Om (aj5 a b c d _)
theorem ayN(a b c d e f:Int):EqV zT 158 (.agg ⟨[zI a,zI b,zI c]⟩) (.agg ⟨[zI d,zI e,zI f]⟩) (a==d&&(b==e&&(c==f&&true)&&true)):=
 Om (uy (m8 Tryz.typeInfo158 Tryz.underlying158 rfl rfl rfl rfl rfl rfl) Tryz.stoodInHeld158 (.cons (by decide) (jY mz rfl) (jY mz rfl) (n6 mz _ _) (.cons (by decide) (GG (m8 Tryz.typeInfo79 Tryz.underlying79 rfl rfl rfl rfl rfl rfl) rfl) (GG (m8 Tryz.typeInfo79 Tryz.underlying79 rfl rfl rfl rfl rfl rfl) rfl) (aj5 _ _ _ _ _) .nil)))
theorem GP:n9 zT 79:=Tryz.eqGuardType79
theorem aEj:n9 zT 158:=Tryz.eqGuardType158
def Cf(n l:Int)(y:ai):Bool:=n==y.n&&(l==y.l&&true)
theorem UK{w:ByteArray}(hs:1≤w.size∧w.size≤6)(h:Script w):dv zT 166 [.string w] ro (zI 0):=by
 obtain⟨k,h1,h2⟩:=Qd h
 exact anA hs h1 h2
theorem AY:dv zT 74 [zI 0] ro (.tuple ⟨[]⟩):=by
 refine zE<|zD 7<|zX (.tuple ⟨[]⟩) ⟨rfl,rfl⟩
theorem Ys:dv zT 73 [.agg ⟨[.string x.name,zI x.st,zI x.no,zI x.head,.bool x.bold]⟩] ro (.agg ⟨[zI x.st,zI x.no,zI 0]⟩):=by
 refine zE<|zD 2<|jn fun b1=>jn fun b2=>jd 12 [1,1,0]<|zR (.agg ⟨[zI x.st,zI x.no,zI 0]⟩) [0] [] [] ⟨rfl,rfl⟩
theorem agO{v:Value}{ps:List ai}{l:Int}(hp:bD ro v 2 cL ps)(hn:ps.length≤1000):dv zT 208 [v,.agg ⟨[zI n,zI l]⟩] ro (zI (cv (Cf n l) ps 0)):=by
 obtain⟨Ti,qpb,qpo,KR,rfl,qpk,qph,qpl⟩:=hp
 refine zE<|zD 2<|jn fun b3=>zD 10<|dP [1,0,1,0,0] [] (fun(zz:Nat)=>[(0,.slice Ti ps.length KR),(3,zP b3),(7,zI (ps.length:Int)),(8,zI (zz:Int))]) (fun zz=>[.b b3 (.cells ⟨[zI n,zI l]⟩ 79 (0,0))]) (fun zz=>zz≤ps.length∧cv (Cf n l) ps 0=cv (Cf n l) (ps.drop zz) zz) (fun zz=>ps.length-zz) 0 ⟨by omega,rfl⟩ [0] ?_
 rintro k hI K1 bH rest
 refine zD 5<|zJ 9 ((k:Int) <(ps.length:Int)) (fun h1=>?_) fun h1=>?_
 ·
  refine jd 14 [0] ?_
  obtain⟨fJ,eI⟩:=zG ps k
  refine ek KR 2 qph eI<|jl 0 (qpl _ _ eI)<|jeq GP (wN n l fJ.n fJ.l)<|zD 1<|js 16 (n==fJ.n&&(l==fJ.l&&true)) (fun h2=>?_) (fun h2=>?_)
  ·
   refine zD 7<|zX (zI (k:Int)) ⟨by rw[hI.2,jJ eI,show Cf n l fJ=true from (by assumption)];rfl,rfl⟩
  refine zD 3<|ja ((k:Int)+1) (by omega)<|zD 2<|bI bH (k+1) ⟨by omega,by rw[hI.2,jJ eI,show Cf n l fJ=false from (by assumption)];rfl⟩ (by omega) [0] (Sub.refl _)
 refine zD 7<|zX (zI (-1)) ⟨by rw[hI.2,qD (by omega)],rfl⟩
theorem LN{v:Value}{ps:List ai}{l:Int}(hp:bD ro v 2 cL ps)(hn:ps.length≤1000):dv zT 167 [v,.agg ⟨[zI n,zI l]⟩] ro (.bool (decide (cv (Cf n l) ps 0≥0))):=by
 obtain⟨Ti,qpb,qpo,KR,rfl,qpk,qph,qpl⟩:=hp
 refine zE<|zD 2<|jn fun b3=>jd 6 [0]<|jp (vs:=[.slice Ti ps.length KR,.agg ⟨[zI n,zI l]⟩]) [] [] (fun aI hs hZ=>agO ((show bD _ _ _ _ _ from ⟨Ti,qpb,qpo,KR,rfl,qpk,qph,qpl⟩).up hs) (by first|omega| (simp only[List.length_set,zM];omega))) ?_
 refine zD 4<|zX (.bool (decide ((cv (Cf n l) ps 0)≥0))) ⟨rfl,rfl⟩
theorem YU{i:Int}(h:nT hd i): -1≤i∧i <hd.length:=by
 rcases h with h| ⟨h0,x,h1,_⟩
 ·omega
 have:=(List.getElem?_eq_some_iff.1 h1).1
 omega
theorem RZ{hv:List bw}{i:Int}{x:bw}(h:de dr hv hd)(hi:nT hd i)(h0:i≥0)(hx:hv[i.toNat]?=some x):0≤x.cls:=by
 rcases hi with hi| ⟨_,y,h1,h2⟩
 ·omega
 obtain⟨z,h3,h4⟩:=h.get hx
 rw[h1] at h3;cases h3
 rw[h4.2.1];exact h2
theorem KX{S:List (List ai)}{l:List ai}(h:apX S hd x)(hl:S[x.st.toNat]?=some l):cv (Cf x.no 0) l 0≥0:=by
 obtain⟨l',h1,h2⟩:=h.2
 rw[h1] at hl;cases hl
 have key:∀(l:List ai) (k:Nat),(⟨x.no,0⟩:ai)∈l→cv (Cf x.no 0) l k≥0:=by
  intro l
  induction l with
  |nil=>intro k h;cases h
  |cons y l ih=>
   intro k h
   simp only[cv]
   cases hx:Cf x.no 0 y with
   |true=>simp
   |false=>
    simp only[cond_false]
    rcases List.mem_cons.1 h with rfl|h
    ·simp[Cf] at hx
    exact ih _ h
 exact key _ 0 h2
theorem agH(hK:fI ro l K)(hO:jv K)(hx:apX K.str K.hd x):dv zT 123 [.agg ⟨l⟩,.agg ⟨[.string x.name,zI x.st,zI x.no,zI x.head,.bool x.bold]⟩,.bool true] ro (zI 0):=by
 obtain⟨vS,vT,vc,vh,vr,vb,va,vf,fa,fc,hv,rfl,hS,hT,pR,nj,hr,hb,ha,hf⟩:=hK
 obtain⟨ib,hs,fq⟩:=id hS
 obtain⟨iM,ht,eY⟩:=id hT
 obtain⟨hc,hh,DU⟩:=id pR
 obtain⟨mh,Ux,Uv,ld,rfl,Uw,Ng,Nf⟩:=hs
 obtain⟨eS,AI,AG,dW,rfl,AH,sA,sw⟩:=ht
 obtain⟨ep,AK,AJ,dZ,rfl,Dx,yR,yQ⟩:=hc
 obtain⟨dH,u5,u4,du,rfl,xp,qR,qQ⟩:=hh
 obtain⟨kR,I8,I7,kQ,rfl,O3,Gw,Gv⟩:=hr
 obtain⟨lh,O6,O4,kY,rfl,O5,Nk,Nj⟩:=hb
 obtain⟨kS,KU,KS,kA,rfl,KT,JF,JE⟩:=ha
 obtain⟨jA,BJ,BI,gY,rfl,I9,uM,uL⟩:=hf
 have CM:=hO.rules
 have qO:=hO.before.1
 have Pd:=hO.after.1
 have N0:=hO.facts.1
 have Pc:=hO.ways.1
 have Jh:=fq.len
 have EK:=eY.len
 have YO:=hO.oO.two
 have hl9:=hO.da.nh
 have O2:∀(i:Nat) (p:db),([]:List db)[i]?=some p→cB ⟨ro,[]⟩ 0 (0+i*6) 6 (mN p):=fun _ _ h=>oz h
 have hNm:=hx.1.1
 have hNs:=hNm.1
 have hHd:=hx.1.2.1
 have hHl:=YU hHd
 have hSt:=hx.1.2.2.1
 have hBd:=hx.1.2.2.2
 have hlen:=nj.len
 refine zE<|zD 2<|jn fun b3=>jn fun b4=>jd 7 [0]<|jp (vs:=[.string x.name]) [] [] (fun aI hs hZ=>(UK (by omega) hNm.2))<|jd 27 [1,0,1]<|ja ((hv.length:Int)-1) (by omega)<|jp (vs:=[zI x.head,zI (-1),zI ((hv.length:Int)-1)]) [] [] (fun aI hs hZ=>fo)<|zD 3<|js 19 (!(iH x.head (-1) ((hv.length:Int)-1))) (fun h1=>?_) (fun h1=>?_)
 ·
  try simp only[zB] at h1
  exfalso;simp only[iH,Bool.and_eq_false_iff,decide_eq_false_iff_not] at h1;omega
 try simp only[zB] at h1
 refine jd 7 [0]<|js 33 (decide (x.head≥0)) (fun h2=>?_) (fun h2=>?_)
 ·
  have mv:=h2
  replace mv:=of_decide_eq_true mv
  refine jd 5 [1,0] ?_
  obtain⟨E7,xZ⟩:=zG hv (x.head.toNat)
  refine NI x.head du 4 qR xZ (by omega)<|zD 1<|jl 1 (qQ _ _ xZ)<|zD 4<|zJ 29 (E7.cls=(-1)) (fun h3=>?_) fun h3=>?_
  ·
   exfalso;have:=RZ nj hHd (by omega) xZ;omega
  refine jd 8 [0]<|ja ((ib.length:Int)-1) (by omega)<|jp (vs:=[zI x.st,zI 0,zI ((ib.length:Int)-1)]) [] [] (fun aI hs hZ=>fo)<|zD 3<|js 44 (!(iH x.st 0 ((ib.length:Int)-1))) (fun h4=>?_) (fun h4=>?_)
  ·
   try simp only[zB] at h4
   exfalso;simp only[iH,Bool.and_eq_false_iff,decide_eq_false_iff_not] at h4;omega
  try simp only[zB] at h4
  refine jd 7 [0] ?_
  obtain⟨x57,EA⟩:=zG ib (x.st.toNat)
  refine NI x.st ld 1 Ng EA (by omega) ?_
  obtain⟨l58,ah4,h58⟩:=fq.get EA
  obtain aQ9:=hO.oO.len _ (zL ah4)
  obtain⟨aeI,aud,at7,aeH,rfl,aub,auc,aua⟩:=h58
  refine jl 0 (Nf _ _ EA)<|jd 1 [0]<|jp (vs:=[.agg ⟨[.string x.name,zI x.st,zI x.no,zI x.head,.bool x.bold]⟩]) [] [] (fun aI hs hZ=>(Ys (x:=(⟨x.name,x.st,x.no,x.head,x.bold⟩:aA))))<|zD 1<|jp (vs:=[.slice aeI l58.length aeH,.agg ⟨[zI x.no,zI 0]⟩]) [] [] (fun aI hs hZ=>LN ((show bD _ _ _ _ _ from ⟨aeI,aud,at7,aeH,rfl,aub,auc,aua⟩).up hs) (by first|omega| (simp only[List.length_set,zM];omega))) ?_
  refine zD 4<|js 44 (!(decide (cv (Cf x.no 0) l58 0≥0))) (fun h5=>?_) (fun h5=>?_)
  ·
   try simp only[zB] at h5
   exfalso;have:=KX hx ah4;omega
  try simp only[zB] at h5
  refine jd 20 [0]<|js 74 x.bold (fun h6=>?_) (fun h6=>?_)
  ·
   exfalso;rw[hBd] at h6;cases h6
  refine zD 7<|zX (zI 0) ⟨rfl,rfl⟩
 have mv:=h2
 replace mv:=of_decide_eq_false mv
 refine jd 20 [0]<|ja ((ib.length:Int)-1) (by omega)<|jp (vs:=[zI x.st,zI 0,zI ((ib.length:Int)-1)]) [] [] (fun aI hs hZ=>fo)<|zD 3<|js 44 (!(iH x.st 0 ((ib.length:Int)-1))) (fun h7=>?_) (fun h7=>?_)
 ·
  try simp only[zB] at h7
  exfalso;simp only[iH,Bool.and_eq_false_iff,decide_eq_false_iff_not] at h7;omega
 try simp only[zB] at h7
 refine jd 7 [0] ?_
 obtain⟨x57,EA⟩:=zG ib (x.st.toNat)
 refine NI x.st ld 1 Ng EA (by omega) ?_
 obtain⟨l58,ah4,h58⟩:=fq.get EA
 obtain aQ9:=hO.oO.len _ (zL ah4)
 obtain⟨aeI,aud,at7,aeH,rfl,aub,auc,aua⟩:=h58
 refine jl 0 (Nf _ _ EA)<|jd 1 [0]<|jp (vs:=[.agg ⟨[.string x.name,zI x.st,zI x.no,zI x.head,.bool x.bold]⟩]) [] [] (fun aI hs hZ=>(Ys (x:=(⟨x.name,x.st,x.no,x.head,x.bold⟩:aA))))<|zD 1<|jp (vs:=[.slice aeI l58.length aeH,.agg ⟨[zI x.no,zI 0]⟩]) [] [] (fun aI hs hZ=>LN ((show bD _ _ _ _ _ from ⟨aeI,aud,at7,aeH,rfl,aub,auc,aua⟩).up hs) (by first|omega| (simp only[List.length_set,zM];omega))) ?_
 refine zD 4<|js 44 (!(decide (cv (Cf x.no 0) l58 0≥0))) (fun h8=>?_) (fun h8=>?_)
 ·
  try simp only[zB] at h8
  exfalso;have:=KX hx ah4;omega
 try simp only[zB] at h8
 refine jd 20 [0]<|js 74 x.bold (fun h9=>?_) (fun h9=>?_)
 ·
  exfalso;rw[hBd] at h9;cases h9
 refine zD 7<|zX (zI 0) ⟨rfl,rfl⟩
theorem agI(hK:fI ro l K)(hO:jv K)(hx:aJq K.hd x):dv zT 123 [.agg ⟨l⟩,.agg ⟨[.string x.name,zI x.st,zI x.no,zI x.head,.bool x.bold]⟩,.bool false] ro (zI 0):=by
 obtain⟨vS,vT,vc,vh,vr,vb,va,vf,fa,fc,hv,rfl,hS,hT,pR,nj,hr,hb,ha,hf⟩:=hK
 obtain⟨ib,hs,fq⟩:=id hS
 obtain⟨iM,ht,eY⟩:=id hT
 obtain⟨hc,hh,DU⟩:=id pR
 obtain⟨mh,Ux,Uv,ld,rfl,Uw,Ng,Nf⟩:=hs
 obtain⟨eS,AI,AG,dW,rfl,AH,sA,sw⟩:=ht
 obtain⟨ep,AK,AJ,dZ,rfl,Dx,yR,yQ⟩:=hc
 obtain⟨dH,u5,u4,du,rfl,xp,qR,qQ⟩:=hh
 obtain⟨kR,I8,I7,kQ,rfl,O3,Gw,Gv⟩:=hr
 obtain⟨lh,O6,O4,kY,rfl,O5,Nk,Nj⟩:=hb
 obtain⟨kS,KU,KS,kA,rfl,KT,JF,JE⟩:=ha
 obtain⟨jA,BJ,BI,gY,rfl,I9,uM,uL⟩:=hf
 have CM:=hO.rules
 have qO:=hO.before.1
 have Pd:=hO.after.1
 have N0:=hO.facts.1
 have Pc:=hO.ways.1
 have Jh:=fq.len
 have EK:=eY.len
 have YO:=hO.oO.two
 have hl9:=hO.da.nh
 have O2:∀(i:Nat) (p:db),([]:List db)[i]?=some p→cB ⟨ro,[]⟩ 0 (0+i*6) 6 (mN p):=fun _ _ h=>oz h
 have hNm:=hx.1.1
 have hNs:=hNm.1
 have hHd:=hx.1.2.1
 have hHl:=YU hHd
 have hSt:=hx.1.2.2.1
 have hBd:=hx.1.2.2.2
 have hlen:=nj.len
 have hNo:=hx.2
 refine zE<|zD 2<|jn fun b3=>jn fun b4=>jd 7 [0]<|jp (vs:=[.string x.name]) [] [] (fun aI hs hZ=>(UK (by omega) hNm.2))<|jd 27 [1,0,1]<|ja ((hv.length:Int)-1) (by omega)<|jp (vs:=[zI x.head,zI (-1),zI ((hv.length:Int)-1)]) [] [] (fun aI hs hZ=>fo)<|zD 3<|js 19 (!(iH x.head (-1) ((hv.length:Int)-1))) (fun h1=>?_) (fun h1=>?_)
 ·
  try simp only[zB] at h1
  exfalso;simp only[iH,Bool.and_eq_false_iff,decide_eq_false_iff_not] at h1;omega
 try simp only[zB] at h1
 refine jd 7 [0]<|js 33 (decide (x.head≥0)) (fun h2=>?_) (fun h2=>?_)
 ·
  have mv:=h2
  replace mv:=of_decide_eq_true mv
  refine jd 5 [1,0] ?_
  obtain⟨E7,xZ⟩:=zG hv (x.head.toNat)
  refine NI x.head du 4 qR xZ (by omega)<|zD 1<|jl 1 (qQ _ _ xZ)<|zD 4<|zJ 29 (E7.cls=(-1)) (fun h3=>?_) fun h3=>?_
  ·
   exfalso;have:=RZ nj hHd (by omega) xZ;omega
  refine jd 8 [0]<|ja ((ib.length:Int)-1) (by omega)<|jp (vs:=[zI x.st,zI 0,zI ((ib.length:Int)-1)]) [] [] (fun aI hs hZ=>fo)<|zD 3<|js 44 (!(iH x.st 0 ((ib.length:Int)-1))) (fun h4=>?_) (fun h4=>?_)
  ·
   try simp only[zB] at h4
   exfalso;simp only[iH,Bool.and_eq_false_iff,decide_eq_false_iff_not] at h4;omega
  try simp only[zB] at h4
  refine jd 25 [0]<|jp (vs:=[zI x.no,zI 1,zI 40]) [] [] (fun aI hs hZ=>fo)<|zD 4<|js 65 (!(iH x.no 1 40)) (fun h5=>?_) (fun h5=>?_)
  ·
   try simp only[zB] at h5
   exfalso;simp only[iH,Bool.and_eq_false_iff,decide_eq_false_iff_not] at h5;omega
  try simp only[zB] at h5
  refine jd 7 [0]<|js 74 x.bold (fun h6=>?_) (fun h6=>?_)
  ·
   exfalso;rw[hBd] at h6;cases h6
  refine zD 7<|zX (zI 0) ⟨rfl,rfl⟩
 have mv:=h2
 replace mv:=of_decide_eq_false mv
 refine jd 20 [0]<|ja ((ib.length:Int)-1) (by omega)<|jp (vs:=[zI x.st,zI 0,zI ((ib.length:Int)-1)]) [] [] (fun aI hs hZ=>fo)<|zD 3<|js 44 (!(iH x.st 0 ((ib.length:Int)-1))) (fun h7=>?_) (fun h7=>?_)
 ·
  try simp only[zB] at h7
  exfalso;simp only[iH,Bool.and_eq_false_iff,decide_eq_false_iff_not] at h7;omega
 try simp only[zB] at h7
 refine jd 25 [0]<|jp (vs:=[zI x.no,zI 1,zI 40]) [] [] (fun aI hs hZ=>fo)<|zD 4<|js 65 (!(iH x.no 1 40)) (fun h8=>?_) (fun h8=>?_)
 ·
  try simp only[zB] at h8
  exfalso;simp only[iH,Bool.and_eq_false_iff,decide_eq_false_iff_not] at h8;omega
 try simp only[zB] at h8
 refine jd 7 [0]<|js 74 x.bold (fun h9=>?_) (fun h9=>?_)
 ·
  exfalso;rw[hBd] at h9;cases h9
 refine zD 7<|zX (zI 0) ⟨rfl,rfl⟩
theorem fI.up{aG:Nat→Option Obj}(h:fI ro l K)(hs:Sub ro aG):fI aG l K:=by
 obtain⟨vS,vT,vc,vh,vr,vb,va,vf,fa,fc,hv,rfl,h1,h2,h3,h4,h5,h6,h7,h8⟩:=h
 exact⟨_,_,_,_,_,_,_,_,_,_,_,rfl,h1.up hs,h2.up hs,h3.up hs,h4,h5.up hs,h6.up hs,h7.up hs,h8.up hs⟩
theorem agJ(hK:fI ro l K)(hO:jv K)(hp:bD ro vp 5 eF K.before):dv zT 98 [.agg ⟨l⟩,vp,.bool true] ro (zI 0):=by
 have Za:=hK
 obtain⟨vS,vT,vc,vh,vr,vb,va,vf,fa,fc,hv,rfl,hS,hT,pR,nj,hr,hb,ha,hf⟩:=hK
 obtain⟨ib,hs,fq⟩:=id hS
 obtain⟨iM,ht,eY⟩:=id hT
 obtain⟨hc,hh,DU⟩:=id pR
 obtain⟨mh,Ux,Uv,ld,rfl,Uw,Ng,Nf⟩:=hs
 obtain⟨eS,AI,AG,dW,rfl,AH,sA,sw⟩:=ht
 obtain⟨ep,AK,AJ,dZ,rfl,Dx,yR,yQ⟩:=hc
 obtain⟨dH,u5,u4,du,rfl,xp,qR,qQ⟩:=hh
 obtain⟨kR,I8,I7,kQ,rfl,O3,Gw,Gv⟩:=hr
 obtain⟨lh,O6,O4,kY,rfl,O5,Nk,Nj⟩:=hb
 obtain⟨kS,KU,KS,kA,rfl,KT,JF,JE⟩:=ha
 obtain⟨jA,BJ,BI,gY,rfl,I9,uM,uL⟩:=hf
 have CM:=hO.rules
 have qO:=hO.before.1
 have Pd:=hO.after.1
 have N0:=hO.facts.1
 have Pc:=hO.ways.1
 have Jh:=fq.len
 have EK:=eY.len
 have YO:=hO.oO.two
 have hl9:=hO.da.nh
 have O2:∀(i:Nat) (p:db),([]:List db)[i]?=some p→cB ⟨ro,[]⟩ 0 (0+i*6) 6 (mN p):=fun _ _ h=>oz h
 obtain⟨Ti,qpb,qpo,KR,rfl,qpk,qph,qpl⟩:=hp
 refine zE<|zD 2<|jn fun b3=>zD 9<|zJ 12 ((K.before.length:Int)>4) (fun h1=>?_) fun h1=>?_
 ·
  exfalso;omega
 refine zD 10<|dP [1,1,0,1,0,0] [] (fun(zz:Nat)=>[(2,.bool true),(3,zP b3),(13,.slice Ti K.before.length KR),(14,zI (K.before.length:Int)),(15,zI (zz:Int))]) (fun zz=>[.b b3 (.cells ⟨[.slice mh ib.length ld,.slice eS iM.length dW,.slice fa 0 fc,.slice ep K.cs.length dZ,.slice dH hv.length du,.slice kR K.rules.length kQ,.slice lh K.before.length kY,.slice kS K.after.length kA,zI K.gone,zI K.new,zI K.af,.slice jA K.facts.length gY]⟩ 40 (0,0))]) (fun zz=>zz≤K.before.length) (fun zz=>K.before.length-zz) 0 (by omega) [0] ?_
 rintro k hI K1 bH rest
 refine zD 5<|zJ 16 ((k:Int) <(K.before.length:Int)) (fun h2=>?_) fun h2=>?_
 ·
  refine zD 6 ?_
  obtain⟨Xc,Hg⟩:=zG K.before k
  refine ek KR 5 qph Hg<|jl 0 (qpl _ _ Hg)<|jn fun b8=>jd 7 [0,1,0]<|jp (vs:=[.agg ⟨[.slice mh ib.length ld,.slice eS iM.length dW,.slice fa 0 fc,.slice ep K.cs.length dZ,.slice dH hv.length du,.slice kR K.rules.length kQ,.slice lh K.before.length kY,.slice kS K.after.length kA,zI K.gone,zI K.new,zI K.af,.slice jA K.facts.length gY]⟩,.agg ⟨[.string Xc.name,zI Xc.st,zI Xc.no,zI Xc.head,.bool Xc.bold]⟩,.bool true]) [] [] (fun aI hs hZ=>(agH (x:=Xc) (Za.up hs) hO (hO.before.2 _ (zL Hg))))<|zD 10<|ja ((k:Int)+1) (by omega)<|zD 2<|bI bH (k+1) (by omega) (by omega) [1] (Sub.refl _)
 refine zD 7<|zX (zI 0) ⟨rfl,rfl⟩
theorem agK(hK:fI ro l K)(hO:jv K)(hp:bD ro vp 5 eF K.after):dv zT 98 [.agg ⟨l⟩,vp,.bool false] ro (zI 0):=by
 have Za:=hK
 obtain⟨vS,vT,vc,vh,vr,vb,va,vf,fa,fc,hv,rfl,hS,hT,pR,nj,hr,hb,ha,hf⟩:=hK
 obtain⟨ib,hs,fq⟩:=id hS
 obtain⟨iM,ht,eY⟩:=id hT
 obtain⟨hc,hh,DU⟩:=id pR
 obtain⟨mh,Ux,Uv,ld,rfl,Uw,Ng,Nf⟩:=hs
 obtain⟨eS,AI,AG,dW,rfl,AH,sA,sw⟩:=ht
 obtain⟨ep,AK,AJ,dZ,rfl,Dx,yR,yQ⟩:=hc
 obtain⟨dH,u5,u4,du,rfl,xp,qR,qQ⟩:=hh
 obtain⟨kR,I8,I7,kQ,rfl,O3,Gw,Gv⟩:=hr
 obtain⟨lh,O6,O4,kY,rfl,O5,Nk,Nj⟩:=hb
 obtain⟨kS,KU,KS,kA,rfl,KT,JF,JE⟩:=ha
 obtain⟨jA,BJ,BI,gY,rfl,I9,uM,uL⟩:=hf
 have CM:=hO.rules
 have qO:=hO.before.1
 have Pd:=hO.after.1
 have N0:=hO.facts.1
 have Pc:=hO.ways.1
 have Jh:=fq.len
 have EK:=eY.len
 have YO:=hO.oO.two
 have hl9:=hO.da.nh
 have O2:∀(i:Nat) (p:db),([]:List db)[i]?=some p→cB ⟨ro,[]⟩ 0 (0+i*6) 6 (mN p):=fun _ _ h=>oz h
 obtain⟨Ti,qpb,qpo,KR,rfl,qpk,qph,qpl⟩:=hp
 refine zE<|zD 2<|jn fun b3=>zD 9<|zJ 12 ((K.after.length:Int)>4) (fun h1=>?_) fun h1=>?_
 ·
  exfalso;omega
 refine zD 10<|dP [1,1,0,1,0,0] [] (fun(zz:Nat)=>[(2,.bool false),(3,zP b3),(13,.slice Ti K.after.length KR),(14,zI (K.after.length:Int)),(15,zI (zz:Int))]) (fun zz=>[.b b3 (.cells ⟨[.slice mh ib.length ld,.slice eS iM.length dW,.slice fa 0 fc,.slice ep K.cs.length dZ,.slice dH hv.length du,.slice kR K.rules.length kQ,.slice lh K.before.length kY,.slice kS K.after.length kA,zI K.gone,zI K.new,zI K.af,.slice jA K.facts.length gY]⟩ 40 (0,0))]) (fun zz=>zz≤K.after.length) (fun zz=>K.after.length-zz) 0 (by omega) [0] ?_
 rintro k hI K1 bH rest
 refine zD 5<|zJ 16 ((k:Int) <(K.after.length:Int)) (fun h2=>?_) fun h2=>?_
 ·
  refine zD 6 ?_
  obtain⟨Xc,Hg⟩:=zG K.after k
  refine ek KR 5 qph Hg<|jl 0 (qpl _ _ Hg)<|jn fun b8=>jd 7 [0,1,0]<|jp (vs:=[.agg ⟨[.slice mh ib.length ld,.slice eS iM.length dW,.slice fa 0 fc,.slice ep K.cs.length dZ,.slice dH hv.length du,.slice kR K.rules.length kQ,.slice lh K.before.length kY,.slice kS K.after.length kA,zI K.gone,zI K.new,zI K.af,.slice jA K.facts.length gY]⟩,.agg ⟨[.string Xc.name,zI Xc.st,zI Xc.no,zI Xc.head,.bool Xc.bold]⟩,.bool false]) [] [] (fun aI hs hZ=>(agI (x:=Xc) (Za.up hs) hO (hO.after.2 _ (zL Hg))))<|zD 10<|ja ((k:Int)+1) (by omega)<|zD 2<|bI bH (k+1) (by omega) (by omega) [1] (Sub.refl _)
 refine zD 7<|zX (zI 0) ⟨rfl,rfl⟩
theorem avc{x y:cu}(hb:ro b=some (.cells ⟨[zI y.a,zI y.b,.bool y.same]⟩ 58 (0,0))):dv zT 125 [.agg ⟨[zI x.a,zI x.b,.bool x.same]⟩,zP b] ro (.bool (decide (x.a=y.a)&&decide (x.b=y.b))):=by
 refine zE<|zD 2<|jn fun b2=>jd 7 [0]<|jl (b:=b) (off:=0) (m:=3) (vs:=[zI y.a,zI y.b,.bool y.same]) 0 ⟨_,_,_,.inl hb,rfl⟩<|zD 2<|jj 6 [(3,.bool false),(15,.bool ((decide (x.a=y.a))&&(decide (x.b=y.b))))] (fun gG=>?_) (fun hj=>?_)
 rotate_left
 refine js 9 (decide (x.a=y.a)) (fun h1=>?_) (fun h1=>?_)
 ·
  have fW:=h1
  replace fW:=of_decide_eq_true fW
  refine jd 3 [0]<|jl (b:=b) (off:=0) (m:=3) (vs:=[zI y.a,zI y.b,.bool y.same]) 1 ⟨_,_,_,.inl hb,rfl⟩<|zD 2<|jw 15 (.bool ((decide (x.a=y.a))&&(decide (x.b=y.b)))) (w:= .bool (decide (x.b=y.b))) (by rw[h1]<;>rfl) ?_
  exact zK hj
 ·
  have fW:=h1
  replace fW:=of_decide_eq_false fW
  refine zD 6<|jw 15 (.bool ((decide (x.a=y.a))&&(decide (x.b=y.b)))) (w:= .bool false) (by rw[h1]<;>rfl) ?_
  exact zK hj
 refine zD 3<|zX (.bool ((decide (x.a=y.a))&&(decide (x.b=y.b)))) ⟨rfl,rfl⟩
def Ei(x y:cu):Bool:=decide (y.a=x.a)&&decide (y.b=x.b)
theorem C1{p:α→Bool}:∀ {l:List α} {k:Nat},(∀y∈l,p y=false)→cv p l k= -1
 | [],_,_=>rfl
 |x::l,k,h=>by simp only[cv,h x (List.mem_cons_self ..),cond_false];exact C1 fun y hy=>h y (List.mem_cons_of_mem _ hy)
theorem ajS{x:cu}(h:fs.Pairwise fun x y=>¬(x.a=y.a∧x.b=y.b))(hx:fs[i]?=some x):cv (Ei x) (fs.take i) 0 <0:=by
 rw[C1]
 ·omega
 intro y hy
 obtain⟨j,hj⟩:=List.getElem?_of_mem hy
 rw[List.getElem?_take] at hj
 split at hj
 ·rename_i Ae
  have:=p9 h Ae hj hx
  simp only[Ei,Bool.and_eq_false_iff,decide_eq_false_iff_not]
  by_cases h1:y.a=x.a
  ·exact .inr fun h2=>this ⟨h1,h2⟩
  exact .inl h1
 cases hj
theorem avt{v:Value}{x:cu}(hf:bD ro v 3 mX fs)(hn:fs.length≤1000)(hb:ro b=some (.cells ⟨[zI x.a,zI x.b,.bool x.same]⟩ 58 (0,0))):dv zT 168 [v,.func (.func 125) ⟨[]⟩ ⟨[zP b]⟩] ro (zI (cv (Ei x) fs 0)):=by
 obtain⟨jA,BJ,BI,gY,rfl,I9,uM,uL⟩:=hf
 refine zE<|zD 12<|dP [1,0,1,0,0] [] (fun(zz:Nat)=>[(0,.slice jA fs.length gY),(1,.func (.func 125) ⟨[]⟩ ⟨[zP b]⟩),(7,zI (fs.length:Int)),(8,zI (zz:Int))]) (fun zz=>[]) (fun zz=>zz≤fs.length∧cv (Ei x) fs 0=cv (Ei x) (fs.drop zz) zz) (fun zz=>fs.length-zz) 0 ⟨by omega,rfl⟩ [] ?_
 rintro k hI K1 bH rest
 refine zD 5<|zJ 9 ((k:Int) <(fs.length:Int)) (fun h1=>?_) fun h1=>?_
 ·
  refine zD 14 ?_
  obtain⟨fJ,eI⟩:=zG fs k
  refine ek gY 3 uM eI<|jl 0 (uL _ _ eI)<|jp (vs:=[.agg ⟨[zI fJ.a,zI fJ.b,.bool fJ.same]⟩,zP b]) [] [] (fun aI hs hZ=>(avc (hs _ _ hb)))<|zD 1<|js 16 (Ei x fJ) (fun h2=>?_) (fun h2=>?_)
  ·
   refine zD 7<|zX (zI (k:Int)) ⟨by rw[hI.2,jJ eI,show Ei x fJ=true from (by assumption)];rfl,rfl⟩
  refine zD 3<|ja ((k:Int)+1) (by omega)<|zD 2<|bI bH (k+1) ⟨by omega,by rw[hI.2,jJ eI,show Ei x fJ=false from (by assumption)];rfl⟩ (by omega) [] (Sub.refl _)
 refine zD 7<|zX (zI (-1)) ⟨by rw[hI.2,qD (by omega)],rfl⟩
theorem an5{v:Value}{x:cu}(hf:bD ro v 3 mX fs)(hn:fs.length≤1000)(hb:ro b=some (.cells ⟨[zI x.a,zI x.b,.bool x.same]⟩ 58 (0,0))):dv zT 124 [v,.func (.func 125) ⟨[]⟩ ⟨[zP b]⟩] ro (.bool (decide (cv (Ei x) fs 0≥0))):=by
 obtain⟨jA,BJ,BI,gY,rfl,I9,uM,uL⟩:=hf
 refine zE<|zD 8<|jp (vs:=[.slice jA fs.length gY,.func (.func 125) ⟨[]⟩ ⟨[zP b]⟩]) [] [] (fun aI hs hZ=>avt ((show bD _ _ _ _ _ from ⟨jA,BJ,BI,gY,rfl,I9,uM,uL⟩).up hs) (by first|omega| (simp only[List.length_set,zM];omega)) (hs _ _ hb)) ?_
 refine zD 4<|zX (.bool (decide ((cv (Ei x) fs 0)≥0))) ⟨rfl,rfl⟩
theorem aEQ{x:cu}(hK:fI ro l K)(hO:jv K)(hp:bD ro vp 3 mX fs)(hn:fs.length≤1000)(hx:(0≤x.a∧x.a <K.before.length)∧(0≤x.b∧x.b <K.after.length))(hw:cv (Ei x) fs 0 <0):dv zT 99 [.agg ⟨l⟩,vp,.agg ⟨[zI x.a,zI x.b,.bool x.same]⟩] ro (zI 0):=by
 obtain⟨vS,vT,vc,vh,vr,vb,va,vf,fa,fc,hv,rfl,hS,hT,pR,nj,hr,hb,ha,hf⟩:=hK
 obtain⟨ib,hs,fq⟩:=id hS
 obtain⟨iM,ht,eY⟩:=id hT
 obtain⟨hc,hh,DU⟩:=id pR
 obtain⟨mh,Ux,Uv,ld,rfl,Uw,Ng,Nf⟩:=hs
 obtain⟨eS,AI,AG,dW,rfl,AH,sA,sw⟩:=ht
 obtain⟨ep,AK,AJ,dZ,rfl,Dx,yR,yQ⟩:=hc
 obtain⟨dH,u5,u4,du,rfl,xp,qR,qQ⟩:=hh
 obtain⟨kR,I8,I7,kQ,rfl,O3,Gw,Gv⟩:=hr
 obtain⟨lh,O6,O4,kY,rfl,O5,Nk,Nj⟩:=hb
 obtain⟨kS,KU,KS,kA,rfl,KT,JF,JE⟩:=ha
 obtain⟨jA,BJ,BI,gY,rfl,I9,uM,uL⟩:=hf
 have CM:=hO.rules
 have qO:=hO.before.1
 have Pd:=hO.after.1
 have N0:=hO.facts.1
 have Pc:=hO.ways.1
 have Jh:=fq.len
 have EK:=eY.len
 have YO:=hO.oO.two
 have hl9:=hO.da.nh
 have O2:∀(i:Nat) (p:db),([]:List db)[i]?=some p→cB ⟨ro,[]⟩ 0 (0+i*6) 6 (mN p):=fun _ _ h=>oz h
 obtain⟨Ti,qpb,qpo,KR,rfl,qpk,qph,qpl⟩:=hp
 refine zE<|zD 2<|jn fun b3=>jn fun b5=>jd 12 [0,1]<|ja ((K.before.length:Int)-1) (by omega)<|jp (vs:=[zI x.a,zI 0,zI ((K.before.length:Int)-1)]) [] [] (fun aI hs hZ=>fo)<|zD 3<|js 7 (!(iH x.a 0 ((K.before.length:Int)-1))) (fun h1=>?_) (fun h1=>?_)
 ·
  try simp only[zB] at h1
  exfalso;simp only[iH,Bool.and_eq_false_iff,decide_eq_false_iff_not] at h1;omega
 try simp only[zB] at h1
 refine jd 7 [0,1]<|ja ((K.after.length:Int)-1) (by omega)<|jp (vs:=[zI x.b,zI 0,zI ((K.after.length:Int)-1)]) [] [] (fun aI hs hZ=>fo)<|zD 3<|js 7 (!(iH x.b 0 ((K.after.length:Int)-1))) (fun h2=>?_) (fun h2=>?_)
 ·
  try simp only[zB] at h2
  exfalso;simp only[iH,Bool.and_eq_false_iff,decide_eq_false_iff_not] at h2;omega
 try simp only[zB] at h2
 refine zD 5<|jp (vs:=[.slice Ti fs.length KR,.func (.func 125) ⟨[]⟩ ⟨[zP b5]⟩]) [0] [(b5,.cells ⟨[zI x.a,zI x.b,.bool x.same]⟩ 58 (0,0))] (fun aI hs hZ=>an5 ((show bD _ _ _ _ _ from ⟨Ti,qpb,qpo,KR,rfl,qpk,qph,qpl⟩).up hs) (by first|omega| (simp only[List.length_set,zM];omega)) hZ.head) ?_
 refine zD 2<|js 24 (decide (cv (Ei x) fs 0≥0)) (fun h3=>?_) (fun h3=>?_)
 ·
  exfalso;have:=of_decide_eq_true h3;omega
 refine zD 7<|zX (zI 0) ⟨rfl,rfl⟩
theorem aBV{w:ByteArray}(hs:1≤w.size∧w.size≤12)(hc:cT w (bs [99,108,97,115,115])=false)(hf:cT w (bs [102,105,110,105,115])=false)(hK:∀b∈w.data.toList,97≤b.toNat∧b.toNat≤122):dv zT 197 [.string w] ro (.bool true):=by
 refine zE<|zD 11<|jj 4 [(0,.string w),(2,.bool false),(12,.bool ((decide ((w.size:Int)=0))||(decide ((w.size:Int)>12))))] (fun gG=>?_) (fun hj=>?_)
 rotate_left
 refine js 8 (decide ((w.size:Int)=0)) (fun h1=>?_) (fun h1=>?_)
 ·
  have fW:=h1
  replace fW:=of_decide_eq_true fW
  refine zD 4<|jw 12 (.bool ((decide ((w.size:Int)=0))||(decide ((w.size:Int)>12)))) (w:= .bool true) (by rw[h1]<;>rfl) ?_
  exact zK hj
 ·
  have fW:=h1
  replace fW:=of_decide_eq_false fW
  refine zD 4<|jw 12 (.bool ((decide ((w.size:Int)=0))||(decide ((w.size:Int)>12)))) (w:= .bool (decide ((w.size:Int)>12))) (by rw[h1]<;>rfl) ?_
  exact zK hj
 refine zD 1<|jj 3 [(0,.string w),(2,.bool false),(16,.bool (((decide ((w.size:Int)=0))||(decide ((w.size:Int)>12)))||(cT w (bs [99,108,97,115,115]))))] (fun gG=>?_) (fun hj=>?_)
 rotate_left
 refine js 13 ((decide ((w.size:Int)=0))||(decide ((w.size:Int)>12))) (fun h2=>?_) (fun h2=>?_)
 ·
  have mv:=h2
  try simp only[zB] at mv
  refine zD 3<|jw 16 (.bool (((decide ((w.size:Int)=0))||(decide ((w.size:Int)>12)))||(cT w (bs [99,108,97,115,115])))) (w:= .bool true) (by rw[h2]<;>rfl) ?_
  exact zK hj
 ·
  have mv:=h2
  try simp only[zB] at mv
  refine zD 3<|jw 16 (.bool (((decide ((w.size:Int)=0))||(decide ((w.size:Int)>12)))||(cT w (bs [99,108,97,115,115])))) (w:= .bool (cT w (bs [99,108,97,115,115]))) (by rw[h2]<;>rfl) ?_
  exact zK hj
 refine zD 1<|jj 3 [(0,.string w),(2,.bool false),(20,.bool ((((decide ((w.size:Int)=0))||(decide ((w.size:Int)>12)))||(cT w (bs [99,108,97,115,115])))||(cT w (bs [102,105,110,105,115]))))] (fun gG=>?_) (fun hj=>?_)
 rotate_left
 refine js 17 (((decide ((w.size:Int)=0))||(decide ((w.size:Int)>12)))||(cT w (bs [99,108,97,115,115]))) (fun h3=>?_) (fun h3=>?_)
 ·
  have wC:=h3
  try simp only[zB] at wC
  refine zD 3<|jw 20 (.bool ((((decide ((w.size:Int)=0))||(decide ((w.size:Int)>12)))||(cT w (bs [99,108,97,115,115])))||(cT w (bs [102,105,110,105,115])))) (w:= .bool true) (by rw[h3]<;>rfl) ?_
  exact zK hj
 ·
  have wC:=h3
  try simp only[zB] at wC
  refine zD 3<|jw 20 (.bool ((((decide ((w.size:Int)=0))||(decide ((w.size:Int)>12)))||(cT w (bs [99,108,97,115,115])))||(cT w (bs [102,105,110,105,115])))) (w:= .bool (cT w (bs [102,105,110,105,115]))) (by rw[h3]<;>rfl) ?_
  exact zK hj
 refine zD 1<|js 20 ((((decide ((w.size:Int)=0))||(decide ((w.size:Int)>12)))||(cT w (bs [99,108,97,115,115])))||(cT w (bs [102,105,110,105,115]))) (fun h4=>?_) (fun h4=>?_)
 ·
  try simp only[zB] at h4
  exfalso;simp only[hc,hf,Bool.or_false,Bool.or_eq_true,decide_eq_true_eq,Bool.false_eq_true,or_false] at h4;omega
 try simp only[zB] at h4
 refine zD 6<|jn fun r22=>zD 2<|dP [1,1,0,1,0,0] [] (fun(zz:Nat)=>[(22,zP r22)]) (fun zz=>[.b r22 (.stringIter w zz)]) (fun zz=>zz≤w.data.toList.length) (fun zz=>w.data.toList.length-zz) 0 (by omega) [0] ?_
 rintro p hI K1 bH rest
 refine zD 2 ?_
 cases abC:w.data.toList[p]? with
 |some vk=>
  refine jnA r22 0 abC (by have:=hK _ (zL abC);omega) ?_
  refine zD 7 ?_
  have YQ:=hK _ (zL abC)
  refine zD 9<|jj 3 [(22,zP r22),(31,.bool ((decide ((vk.toNat:Int) <97))||(decide ((vk.toNat:Int)>122))))] (fun gG=>?_) (fun hj=>?_)
  rotate_left
  refine js 28 (decide ((vk.toNat:Int) <97)) (fun h5=>?_) (fun h5=>?_)
  ·
   have EO:=h5
   replace EO:=of_decide_eq_true EO
   refine zD 3<|jw 31 (.bool ((decide ((vk.toNat:Int) <97))||(decide ((vk.toNat:Int)>122)))) (w:= .bool true) (by rw[h5]<;>rfl) ?_
   exact zK hj
  ·
   have EO:=h5
   replace EO:=of_decide_eq_false EO
   refine zD 3<|jw 31 (.bool ((decide ((vk.toNat:Int) <97))||(decide ((vk.toNat:Int)>122)))) (w:= .bool (decide ((vk.toNat:Int)>122))) (by rw[h5]<;>rfl) ?_
   exact zK hj
  refine zD 1<|js 31 ((decide ((vk.toNat:Int) <97))||(decide ((vk.toNat:Int)>122))) (fun h6=>?_) (fun h6=>?_)
  ·
   try simp only[zB] at h6
   exfalso;omega
  try simp only[zB] at h6
  refine zD 2<|bI bH (p+1) (by have:=(List.getElem?_eq_some_iff.1 abC).1;omega) (by have:=(List.getElem?_eq_some_iff.1 abC).1;omega) [0] (Sub.refl _)
 |none=>
  refine jnZ r22 0 abC<|zD 10<|zX (.bool true) ⟨rfl,rfl⟩
def EW(x y:bO):Bool:=cT y.name x.name
theorem atB{x y:bO}(hb:ro b=some (.cells ⟨[.string x.name,zI x.under]⟩ 142 (0,0))):dv zT 199 [.agg ⟨[.string y.name,zI y.under]⟩,zP b] ro (.bool (cT y.name x.name)):=by
 refine zE<|zD 2<|jn fun b2=>jd 7 [0]<|jl (b:=b) (off:=0) (m:=2) (vs:=[.string x.name,zI x.under]) 0 ⟨_,_,_,.inl hb,rfl⟩<|zD 4<|zX (.bool (cT y.name x.name)) ⟨rfl,rfl⟩
theorem atA{v:Value}{fs:List bO}{x:bO}(hf:bD ro v 2 oW fs)(hn:fs.length≤1000)(hb:ro b=some (.cells ⟨[.string x.name,zI x.under]⟩ 142 (0,0))):dv zT 222 [v,.func (.func 199) ⟨[]⟩ ⟨[zP b]⟩] ro (zI (cv (EW x) fs 0)):=by
 obtain⟨jA,BJ,BI,gY,rfl,I9,uM,uL⟩:=hf
 refine zE<|zD 12<|dP [1,0,1,0,0] [] (fun(zz:Nat)=>[(0,.slice jA fs.length gY),(1,.func (.func 199) ⟨[]⟩ ⟨[zP b]⟩),(7,zI (fs.length:Int)),(8,zI (zz:Int))]) (fun zz=>[]) (fun zz=>zz≤fs.length∧cv (EW x) fs 0=cv (EW x) (fs.drop zz) zz) (fun zz=>fs.length-zz) 0 ⟨by omega,rfl⟩ [] ?_
 rintro k hI K1 bH rest
 refine zD 5<|zJ 9 ((k:Int) <(fs.length:Int)) (fun h1=>?_) fun h1=>?_
 ·
  refine zD 14 ?_
  obtain⟨fJ,eI⟩:=zG fs k
  refine ek gY 2 uM eI<|jl 0 (uL _ _ eI)<|jp (vs:=[.agg ⟨[.string fJ.name,zI fJ.under]⟩,zP b]) [] [] (fun aI hs hZ=>(atB (y:=fJ) (hs _ _ hb)))<|zD 1<|js 16 (EW x fJ) (fun h2=>?_) (fun h2=>?_)
  ·
   refine zD 7<|zX (zI (k:Int)) ⟨by rw[hI.2,jJ eI,show EW x fJ=true from (by assumption)];rfl,rfl⟩
  refine zD 3<|ja ((k:Int)+1) (by omega)<|zD 2<|bI bH (k+1) ⟨by omega,by rw[hI.2,jJ eI,show EW x fJ=false from (by assumption)];rfl⟩ (by omega) [] (Sub.refl _)
 refine zD 7<|zX (zI (-1)) ⟨by rw[hI.2,qD (by omega)],rfl⟩
theorem amF{v:Value}{fs:List bO}{x:bO}(hf:bD ro v 2 oW fs)(hn:fs.length≤1000)(hb:ro b=some (.cells ⟨[.string x.name,zI x.under]⟩ 142 (0,0))):dv zT 198 [v,.func (.func 199) ⟨[]⟩ ⟨[zP b]⟩] ro (.bool (decide (cv (EW x) fs 0≥0))):=by
 obtain⟨jA,BJ,BI,gY,rfl,I9,uM,uL⟩:=hf
 refine zE<|zD 8<|jp (vs:=[.slice jA fs.length gY,.func (.func 199) ⟨[]⟩ ⟨[zP b]⟩]) [] [] (fun aI hs hZ=>atA ((show bD _ _ _ _ _ from ⟨jA,BJ,BI,gY,rfl,I9,uM,uL⟩).up hs) (by first|omega| (simp only[List.length_set,zM];omega)) (hs _ _ hb)) ?_
 refine zD 4<|zX (.bool (decide ((cv (EW x) fs 0)≥0))) ⟨rfl,rfl⟩
def hdP(x y:bw):Bool:=cT y.word x.word
theorem aB3{x y:bw}(hb:ro b=some (.cells ⟨[.string x.word,zI x.cls,zI x.oh,x.dX]⟩ 145 (0,0))):dv zT 202 [.agg ⟨[.string y.word,zI y.cls,zI y.oh,y.dX]⟩,zP b] ro (.bool (cT y.word x.word)):=by
 refine zE<|zD 2<|jn fun b2=>jd 7 [0]<|jl (b:=b) (off:=0) (m:=4) (vs:=[.string x.word,zI x.cls,zI x.oh,x.dX]) 0 ⟨_,_,_,.inl hb,rfl⟩<|zD 4<|zX (.bool (cT y.word x.word)) ⟨rfl,rfl⟩
theorem aB2{v:Value}{fs:List bw}{x:bw}(hf:bD ro v 4 mb fs)(hn:fs.length≤1000)(hb:ro b=some (.cells ⟨[.string x.word,zI x.cls,zI x.oh,x.dX]⟩ 145 (0,0))):dv zT 223 [v,.func (.func 202) ⟨[]⟩ ⟨[zP b]⟩] ro (zI (cv (hdP x) fs 0)):=by
 obtain⟨jA,BJ,BI,gY,rfl,I9,uM,uL⟩:=hf
 refine zE<|zD 12<|dP [1,0,1,0,0] [] (fun(zz:Nat)=>[(0,.slice jA fs.length gY),(1,.func (.func 202) ⟨[]⟩ ⟨[zP b]⟩),(7,zI (fs.length:Int)),(8,zI (zz:Int))]) (fun zz=>[]) (fun zz=>zz≤fs.length∧cv (hdP x) fs 0=cv (hdP x) (fs.drop zz) zz) (fun zz=>fs.length-zz) 0 ⟨by omega,rfl⟩ [] ?_
 rintro k hI K1 bH rest
 refine zD 5<|zJ 9 ((k:Int) <(fs.length:Int)) (fun h1=>?_) fun h1=>?_
 ·
  refine zD 14 ?_
  obtain⟨fJ,eI⟩:=zG fs k
  refine ek gY 4 uM eI<|jl 0 (uL _ _ eI)<|jp (vs:=[.agg ⟨[.string fJ.word,zI fJ.cls,zI fJ.oh,fJ.dX]⟩,zP b]) [] [] (fun aI hs hZ=>(aB3 (y:=fJ) (hs _ _ hb)))<|zD 1<|js 16 (hdP x fJ) (fun h2=>?_) (fun h2=>?_)
  ·
   refine zD 7<|zX (zI (k:Int)) ⟨by rw[hI.2,jJ eI,show hdP x fJ=true from (by assumption)];rfl,rfl⟩
  refine zD 3<|ja ((k:Int)+1) (by omega)<|zD 2<|bI bH (k+1) ⟨by omega,by rw[hI.2,jJ eI,show hdP x fJ=false from (by assumption)];rfl⟩ (by omega) [] (Sub.refl _)
 refine zD 7<|zX (zI (-1)) ⟨by rw[hI.2,qD (by omega)],rfl⟩
theorem atx{v:Value}{fs:List bw}{x:bw}(hf:bD ro v 4 mb fs)(hn:fs.length≤1000)(hb:ro b=some (.cells ⟨[.string x.word,zI x.cls,zI x.oh,x.dX]⟩ 145 (0,0))):dv zT 201 [v,.func (.func 202) ⟨[]⟩ ⟨[zP b]⟩] ro (.bool (decide (cv (hdP x) fs 0≥0))):=by
 obtain⟨jA,BJ,BI,gY,rfl,I9,uM,uL⟩:=hf
 refine zE<|zD 8<|jp (vs:=[.slice jA fs.length gY,.func (.func 202) ⟨[]⟩ ⟨[zP b]⟩]) [] [] (fun aI hs hZ=>aB2 ((show bD _ _ _ _ _ from ⟨jA,BJ,BI,gY,rfl,I9,uM,uL⟩).up hs) (by first|omega| (simp only[List.length_set,zM];omega)) (hs _ _ hb)) ?_
 refine zD 4<|zX (.bool (decide ((cv (hdP x) fs 0)≥0))) ⟨rfl,rfl⟩
def Av(w:ByteArray):Bool:=Nat.ble 1 w.size&&(Nat.ble w.size 12&&(!cT w (bs [99,108,97,115,115])&&(!cT w (bs [102,105,110,105,115])&&w.data.toList.all fun b=>Nat.ble 97 b.toNat&&Nat.ble b.toNat 122)))
theorem aam:∀w∈nz,Av w=true:=List.all_eq_true.1 (by kernel_rfl)
theorem ach:∀w∈px,Av w=true:=List.all_eq_true.1 (by kernel_rfl)
theorem ad0{w:ByteArray}(h:Av w=true):dv zT 197 [.string w] ro (.bool true):=by
 simp only[Av,Bool.and_eq_true,Nat.ble_eq,Bool.not_eq_true',List.all_eq_true] at h
 exact aBV ⟨h.1,h.2.1⟩ h.2.2.1 h.2.2.2.1 h.2.2.2.2
structure lG(cs:List bO)(hd:List cy):Prop where
 nc:0 <cs.length∧cs.length≤6
 nh:hd.length≤6
 cls:∀(i:Nat) (c:bO),cs[i]?=some c→Av c.name=true∧ -1≤c.under∧c.under <i
 names:(cs.map (·.name)).Pairwise fun a b=>cT a b=false
 A8:∀(i:Nat) (x:cy),hd[i]?=some x→Av x.word=true∧gF cs.length hd.length i x
 words:(hd.map (·.word)).Pairwise fun a b=>cT a b=false∧strLt b a=false
theorem xa.v(h:xa cs hd):lG cs hd:=
 ⟨⟨h.nc.1,by have:=h.nc.2;omega⟩,by have:=h.nh;omega,fun i c hc=>⟨aam _ (h.cls i c hc).1,(h.cls i c hc).2⟩,h.names,fun i x hx=>⟨ach _ (h.A8 i x hx).1,(h.A8 i x hx).2⟩,h.words⟩
theorem SB{p:α→α→Bool}{l:List α}{x:α}(h:l.Pairwise fun y x=>p x y=false)(hx:l[i]?=some x):cv (p x) (l.take i) 0 <0:=by
 rw[C1]
 ·omega
 intro y hy
 obtain⟨j,hj⟩:=List.getElem?_of_mem hy
 rw[List.getElem?_take] at hj
 split at hj
 ·rename_i Ae
  exact p9 h Ae hj hx
 cases hj
theorem apA{x:bO}(h:lG cs hd)(hx:cs[i]?=some x):cv (EW x) (cs.take i) 0 <0:=
 SB (p:=EW) (List.pairwise_map.1 h.names) hx
theorem Pz{hv:List bw}(h:de dr hv hd):hv.map (·.word)=hd.map (·.word):=by
 induction h with
 |nil=>rfl
 |cons h1 _ ih=>simp only[List.map_cons,h1.1,ih]
theorem axI{hv:List bw}{x:bw}(h:lG cs hd)(hs:de dr hv hd)(hx:hv[i]?=some x):cv (hdP x) (hv.take i) 0 <0:=
 SB (p:=hdP) ((List.pairwise_map.1 (Pz hs▸h.words)).imp fun h=>h.1) hx
theorem aGX{hv:List bw}{j:Nat}{x y:bw}(h:lG cs hd)(hs:de dr hv hd)(BN:j <i)(hx:hv[i]?=some x) (hy:hv[j]?=some y):strLt x.word y.word=false:=
 (p9 (List.pairwise_map.1 (Pz hs▸h.words)) BN hy hx).2
theorem aeh{nc nh:Nat}{x:bw}{y:cy}(h:gF nc nh i y)(hr:rF ro x y):
 (-1≤x.cls∧x.cls <nc)∧(-1≤x.oh∧x.oh <nh∧x.oh≠i)∧(y.dX.length≤nh∧y.dX.Pairwise (· < ·)∧∀z∈y.dX,0≤z∧z <nh∧z≠i)∧(x.oh≠ -1→x.cls= -1∧y.dX.length=0)∧(x.oh= -1→x.cls= -1→y.dX.length≠0):=by
 rw[hr.2.1,hr.2.2.1]
 exact⟨h.1,h.2.1,h.2.2.1,fun a=>⟨(h.2.2.2.1 a).1,by rw[(h.2.2.2.1 a).2];rfl⟩,fun a b c=>h.2.2.2.2 a b (List.eq_nil_of_length_eq_zero c)⟩
theorem atD{v:Value}(hc:bD ro v 2 oW cs)(hT:lG cs hd)(hi:i <cs.length):dv zT 163 [v,zI (i:Int)] ro (zI 0):=by
 obtain⟨ep,AK,AJ,dZ,rfl,Dx,yR,yQ⟩:=hc
 have DO:=hT.nc
 refine zE<|zD 8 ?_
 obtain⟨x8,hx8⟩:=zG cs i
 refine ek dZ 2 yR hx8<|jl 0 (yQ _ _ hx8)<|jn fun b5=>jd 5 [0] ?_
 have iJ:=hT.cls _ _ hx8
 have hcn:cv (EW x8) (cs.take (i:Int).toNat) 0 <0:=apA hT hx8
 have htk:(cs.take (i:Int).toNat).length≤cs.length:=by rw[List.length_take];omega
 refine jd 3 [0]<|jp (vs:=[.string x8.name]) [] [] (fun aI hs hZ=>(ad0 iJ.1))<|zD 8<|jcH (hi:=(i:Int)) (show bD _ _ _ _ _ from ⟨ep,AK,AJ,dZ,rfl,Dx,yR,yQ⟩) (by omega) (fun v18 awg=>?_)
 obtain⟨aqT,aCO,aCK,aqS,rfl,aCM,aCN,aCL⟩:=awg
 refine zD 1<|jp (vs:=[.slice aqT ((((cs).take (i:Int).toNat)).length) aqS,.func (.func 199) ⟨[]⟩ ⟨[zP b5]⟩]) [0] [(b5,.cells ⟨[.string x8.name,zI x8.under]⟩ 142 (0,0))] (fun aI hs hZ=>amF (x:=x8) ((show bD _ _ _ _ _ from ⟨aqT,aCO,aCK,aqS,rfl,aCM,aCN,aCL⟩).up hs) (by first|omega| (simp only[List.length_set,zM];omega)) hZ.head) ?_
 refine zD 2<|js 15 (decide (cv (EW x8) ((cs).take (i:Int).toNat) 0≥0)) (fun h1=>?_) (fun h1=>?_)
 ·
  exfalso;have:=of_decide_eq_true h1;omega
 refine jd 7 [0]<|ja ((cs.length:Int)-1) (by omega)<|jp (vs:=[zI x8.under,zI (-1),zI ((cs.length:Int)-1)]) [] [] (fun aI hs hZ=>jb)<|zD 3<|js 21 (!(iH x8.under (-1) ((cs.length:Int)-1))) (fun h2=>?_) (fun h2=>?_)
 ·
  try simp only[zB] at h2
  exfalso;simp only[iH,Bool.and_eq_false_iff,decide_eq_false_iff_not] at h2;omega
 try simp only[zB] at h2
 refine jd 9 [0]<|zJ 29 (x8.under≥(i:Int)) (fun h3=>?_) fun h3=>?_
 ·
  exfalso;omega
 refine zD 7<|zX (zI 0) ⟨rfl,rfl⟩
theorem aB1{hv:List bw}(hR:jh ro vc vh cs hv hd)(nj:de dr hv hd)(hT:lG cs hd)(hi:i <hv.length):dv zT 164 [.agg ⟨[vc,vh]⟩,zI (i:Int)] ro (zI 0):=by
 obtain⟨hc,hh,di⟩:=id hR
 obtain⟨ep,AK,AJ,dZ,rfl,Dx,yR,yQ⟩:=hc
 obtain⟨dH,u5,u4,du,rfl,xp,qR,qQ⟩:=hh
 have DO:=hT.nc
 have hnh:=hT.nh
 have hlen:=nj.len
 refine zE<|zD 2<|jn fun b2=>jd 9 [0,0] ?_
 obtain⟨fJ,eI⟩:=zG hv i
 refine ek du 4 qR eI<|jl 0 (qQ _ _ eI)<|aV 7 fun BU B0 Ah=>jn fun b6=>eH Ah [1]<|zD 1<|aV 9 fun yA yI x6=>jsx 0 b6 0 [.string ByteArray.empty,zI 0,zI 0,zS] [.string fJ.word,zI fJ.cls,zI fJ.oh,fJ.dX] 145 (mI di _ (zL eI)) rfl<|gq x6<|zD 4 ?_
 obtain⟨E5,aE8,awm⟩:=di.get eI
 obtain⟨fA,rQ,rP,eP,hqe,tQ,lJ,mE⟩:=awm.2.2.2
 have aPT:=(hT.A8 _ _ aE8).1
 have hsh:=aeh (hT.A8 _ _ aE8).2 awm
 obtain⟨bZ,mw,Jd,ki,hs5⟩:=hsh
 have hwb:Av fJ.word=true:=by rw[awm.1];exact aPT
 have hcn:cv (hdP fJ) (hv.take (i:Int).toNat) 0 <0:=axI hT nj eI
 have htk:(hv.take (i:Int).toNat).length≤hv.length:=by rw[List.length_take];omega
 refine jmw 0 [.b b6 (.cells ⟨[.string fJ.word,zI fJ.cls,zI fJ.oh,.slice fA E5.dX.length eP]⟩ 145 (0,0))] (L:=[(b6,.cells ⟨[.string fJ.word,zI fJ.cls,zI fJ.oh,fJ.dX]⟩ 145 (0,0))]) (by rw[hqe];rfl) ?_
 refine jd 3 [0]<|jp (vs:=[.string fJ.word]) [] [] (fun aI hs hZ=>(ad0 hwb))<|zD 8<|jcH (hi:=(i:Int)) (show bD _ _ _ _ _ from ⟨dH,u5,u4,du,rfl,xp,qR,qQ⟩) (by omega) (fun v24 aQf=>?_)
 obtain⟨aqR,aCJ,aCF,aqQ,rfl,aCH,aCI,aCG⟩:=aQf
 refine zD 1<|jp (vs:=[.slice aqR ((((hv).take (i:Int).toNat)).length) aqQ,.func (.func 202) ⟨[]⟩ ⟨[zP b6]⟩]) [0] [(b6,.cells ⟨[.string fJ.word,zI fJ.cls,zI fJ.oh,.slice fA E5.dX.length eP]⟩ 145 (0,0))] (fun aI hs hZ=>atx (x:=fJ) ((show bD _ _ _ _ _ from ⟨aqR,aCJ,aCF,aqQ,rfl,aCH,aCI,aCG⟩).up hs) (by first|omega| (simp only[List.length_set,zM];omega)) (by rw[hqe];exact hZ.head)) ?_
 refine zD 2<|js 21 (decide (cv (hdP fJ) ((hv).take (i:Int).toNat) 0≥0)) (fun h3=>?_) (fun h3=>?_)
 ·
  exfalso;have:=of_decide_eq_true h3;omega
 refine zD 6<|js 2 (decide ((i:Int)>0)) (fun h4=>?_) (fun h4=>?_)
 ·
  have yn:=h4
  replace yn:=of_decide_eq_true yn
  refine jd 4 [0]<|ja ((i:Int)-1) (by omega) ?_
  obtain⟨x36,y6⟩:=zG hv (((i:Int)-1).toNat)
  refine NI ((i:Int)-1) du 4 qR y6 (by omega)<|zD 1<|jl 0 (qQ _ _ y6)<|zD 4<|js 27 (strLt fJ.word x36.word) (fun h5=>?_) (fun h5=>?_)
  ·
   exfalso;rw[aGX hT nj (by omega) eI y6] at h5;cases h5
  refine jd 9 [0,1]<|ja ((cs.length:Int)-1) (by omega)<|jp (vs:=[zI fJ.cls,zI (-1),zI ((cs.length:Int)-1)]) [] [] (fun aI hs hZ=>jb)<|zD 3<|js 41 (!(iH fJ.cls (-1) ((cs.length:Int)-1))) (fun h6=>?_) (fun h6=>?_)
  ·
   try simp only[zB] at h6
   exfalso;simp only[iH,Bool.and_eq_false_iff,decide_eq_false_iff_not] at h6;omega
  try simp only[zB] at h6
  refine jd 6 [0]<|ja ((hv.length:Int)-1) (by omega)<|jp (vs:=[zI fJ.oh,zI (-1),zI ((hv.length:Int)-1)]) [] [] (fun aI hs hZ=>jb)<|zD 3<|js 41 (!(iH fJ.oh (-1) ((hv.length:Int)-1))) (fun h7=>?_) (fun h7=>?_)
  ·
   try simp only[zB] at h7
   exfalso;simp only[iH,Bool.and_eq_false_iff,decide_eq_false_iff_not] at h7;omega
  try simp only[zB] at h7
  refine jd 9 [0]<|zJ 57 (fJ.oh=(i:Int)) (fun h8=>?_) fun h8=>?_
  ·
   exfalso;omega
  refine jd 11 [0]<|dP [1,1,1,0,1,0,0] [] (fun(zz:Nat)=>[(1,zI (i:Int)),(5,.slice dH hv.length du),(6,zP b6),(63,.slice fA E5.dX.length eP),(64,zI (E5.dX.length:Int)),(65,zI (zz:Int))]) (fun zz=>[.b b6 (.cells ⟨[.string fJ.word,zI fJ.cls,zI fJ.oh,.slice fA E5.dX.length eP]⟩ 145 (0,0))]) (fun zz=>zz≤E5.dX.length) (fun zz=>E5.dX.length-zz) 0 (by omega) [0] ?_
  rintro k hI K3 hK3 rest
  refine zD 5<|zJ 66 ((k:Int) <(E5.dX.length:Int)) (fun h9=>?_) fun h9=>?_
  ·
   refine zD 7 ?_
   obtain⟨x68,NO⟩:=zG E5.dX k
   refine ek eP 1 lJ NO<|jl 0 (mE _ _ NO)<|zD 5 ?_
   have aSY:=Jd.2.2 _ (zL NO)
   refine zD 4<|ja ((hv.length:Int)-1) (by omega)<|jp (vs:=[zI x68,zI 0,zI ((hv.length:Int)-1)]) [] [] (fun aI hs hZ=>jb)<|zD 3<|js 70 (!(iH x68 0 ((hv.length:Int)-1))) (fun Jo=>?_) (fun Jo=>?_)
   ·
    try simp only[zB] at Jo
    exfalso;simp only[iH,Bool.and_eq_false_iff,decide_eq_false_iff_not] at Jo;omega
   try simp only[zB] at Jo
   refine zD 8<|zJ 77 (x68=(i:Int)) (fun h11=>?_) fun h11=>?_
   ·
    exfalso;omega
   refine zD 6<|js 84 (decide ((k:Int)>0)) (fun BQ=>?_) (fun BQ=>?_)
   ·
    have ajv:=BQ
    replace ajv:=of_decide_eq_true ajv
    refine jd 4 [0]<|ja ((k:Int)-1) (by omega) ?_
    obtain⟨x90,U6⟩:=zG E5.dX (((k:Int)-1).toNat)
    refine NI ((k:Int)-1) eP 1 lJ U6 (by omega)<|jl 0 (mE _ _ U6)<|zD 4<|zJ 81 (x68≤x90) (fun yo=>?_) fun yo=>?_
    ·
     exfalso;have:=p9 Jd.2.1 (show ((k:Int)-1).toNat <k by omega) U6 NO;omega
    refine zD 3<|ja ((k:Int)+1) (by omega)<|zD 2<|bI hK3 (k+1) (by omega) (by omega) [0] (Sub.refl _)
   have ajv:=BQ
   replace ajv:=of_decide_eq_false ajv
   refine zD 14<|ja ((k:Int)+1) (by omega)<|zD 2<|bI hK3 (k+1) (by omega) (by omega) [0] (Sub.refl _)
  refine jd 9 [0]<|js 98 (!decide (fJ.oh=(-1))) (fun Sd=>?_) (fun Sd=>?_)
  ·
   have H0:=Sd
   replace H0:=of_decide_eq_false (by simpa using H0)
   refine jd 4 [0]<|js 102 (!decide (fJ.cls=(-1))) (fun HZ=>?_) (fun HZ=>?_)
   ·
    have wE:=HZ
    replace wE:=of_decide_eq_false (by simpa using wE)
    refine zD 29 ?_
    exfalso;omega
   have wE:=HZ
   replace wE:=of_decide_eq_true (by simpa using wE)
   refine jd 7 [0]<|js 109 (decide ((E5.dX.length:Int)>0)) (fun Ob=>?_) (fun Ob=>?_)
   ·
    have HY:=Ob
    replace HY:=of_decide_eq_true HY
    refine zD 22 ?_
    exfalso;omega
   have HY:=Ob
   replace HY:=of_decide_eq_false HY
   refine jd 4 [0]<|js 113 (decide (fJ.oh=(-1))) (fun V3=>?_) (fun V3=>?_)
   ·
    have wD:=V3
    replace wD:=of_decide_eq_true wD
    refine jd 5 [0]<|js 118 (decide (fJ.cls=(-1))) (fun V2=>?_) (fun V2=>?_)
    ·
     have HX:=V2
     replace HX:=of_decide_eq_true HX
     refine jd 7 [0]<|zJ 124 ((E5.dX.length:Int)=0) (fun Tx=>?_) fun Tx=>?_
     ·
      exfalso;(try simp only[Bool.or_eq_true,Bool.and_eq_true,decide_eq_true_eq,Bool.not_eq_true',decide_eq_false_iff_not] at Tx);omega
     refine zD 7<|zX (zI 0) ⟨rfl,rfl⟩
    have HX:=V2
    replace HX:=of_decide_eq_false HX
    refine zD 14<|zX (zI 0) ⟨rfl,rfl⟩
   have wD:=V3
   replace wD:=of_decide_eq_false wD
   refine zD 19<|zX (zI 0) ⟨rfl,rfl⟩
  have H0:=Sd
  replace H0:=of_decide_eq_true (by simpa using H0)
  refine jd 15 [0]<|js 113 (decide (fJ.oh=(-1))) (fun h20=>?_) (fun h20=>?_)
  ·
   have aju:=h20
   replace aju:=of_decide_eq_true aju
   refine jd 5 [0]<|js 118 (decide (fJ.cls=(-1))) (fun V1=>?_) (fun V1=>?_)
   ·
    have ajt:=V1
    replace ajt:=of_decide_eq_true ajt
    refine jd 7 [0]<|zJ 124 ((E5.dX.length:Int)=0) (fun Mh=>?_) fun Mh=>?_
    ·
     exfalso;(try simp only[Bool.or_eq_true,Bool.and_eq_true,decide_eq_true_eq,Bool.not_eq_true',decide_eq_false_iff_not] at Mh);omega
    refine zD 7<|zX (zI 0) ⟨rfl,rfl⟩
   have ajt:=V1
   replace ajt:=of_decide_eq_false ajt
   refine zD 14<|zX (zI 0) ⟨rfl,rfl⟩
  have aju:=h20
  replace aju:=of_decide_eq_false aju
  refine zD 19<|zX (zI 0) ⟨rfl,rfl⟩
 have yn:=h4
 replace yn:=of_decide_eq_false yn
 refine jd 21 [0,1]<|ja ((cs.length:Int)-1) (by omega)<|jp (vs:=[zI fJ.cls,zI (-1),zI ((cs.length:Int)-1)]) [] [] (fun aI hs hZ=>jb)<|zD 3<|js 41 (!(iH fJ.cls (-1) ((cs.length:Int)-1))) (fun Ai=>?_) (fun Ai=>?_)
 ·
  try simp only[zB] at Ai
  exfalso;simp only[iH,Bool.and_eq_false_iff,decide_eq_false_iff_not] at Ai;omega
 try simp only[zB] at Ai
 refine jd 6 [0]<|ja ((hv.length:Int)-1) (by omega)<|jp (vs:=[zI fJ.oh,zI (-1),zI ((hv.length:Int)-1)]) [] [] (fun aI hs hZ=>jb)<|zD 3<|js 41 (!(iH fJ.oh (-1) ((hv.length:Int)-1))) (fun h24=>?_) (fun h24=>?_)
 ·
  try simp only[zB] at h24
  exfalso;simp only[iH,Bool.and_eq_false_iff,decide_eq_false_iff_not] at h24;omega
 try simp only[zB] at h24
 refine jd 9 [0]<|zJ 57 (fJ.oh=(i:Int)) (fun h25=>?_) fun h25=>?_
 ·
  exfalso;omega
 refine jd 11 [0]<|dP [1,1,1,0,1,0,0] [] (fun(zz:Nat)=>[(1,zI (i:Int)),(5,.slice dH hv.length du),(6,zP b6),(63,.slice fA E5.dX.length eP),(64,zI (E5.dX.length:Int)),(65,zI (zz:Int))]) (fun zz=>[.b b6 (.cells ⟨[.string fJ.word,zI fJ.cls,zI fJ.oh,.slice fA E5.dX.length eP]⟩ 145 (0,0))]) (fun zz=>zz≤E5.dX.length) (fun zz=>E5.dX.length-zz) 0 (by omega) [0] ?_
 rintro k hI K4 hK4 rest
 refine zD 5<|zJ 66 ((k:Int) <(E5.dX.length:Int)) (fun h26=>?_) fun h26=>?_
 ·
  refine zD 7 ?_
  obtain⟨x68,NO⟩:=zG E5.dX k
  refine ek eP 1 lJ NO<|jl 0 (mE _ _ NO)<|zD 5 ?_
  have aSY:=Jd.2.2 _ (zL NO)
  refine zD 4<|ja ((hv.length:Int)-1) (by omega)<|jp (vs:=[zI x68,zI 0,zI ((hv.length:Int)-1)]) [] [] (fun aI hs hZ=>jb)<|zD 3<|js 70 (!(iH x68 0 ((hv.length:Int)-1))) (fun Tw=>?_) (fun Tw=>?_)
  ·
   try simp only[zB] at Tw
   exfalso;simp only[iH,Bool.and_eq_false_iff,decide_eq_false_iff_not] at Tw;omega
  try simp only[zB] at Tw
  refine zD 8<|zJ 77 (x68=(i:Int)) (fun Oa=>?_) fun Oa=>?_
  ·
   exfalso;omega
  refine zD 6<|js 84 (decide ((k:Int)>0)) (fun h29=>?_) (fun h29=>?_)
  ·
   have ajn:=h29
   replace ajn:=of_decide_eq_true ajn
   refine jd 4 [0]<|ja ((k:Int)-1) (by omega) ?_
   obtain⟨x90,U6⟩:=zG E5.dX (((k:Int)-1).toNat)
   refine NI ((k:Int)-1) eP 1 lJ U6 (by omega)<|jl 0 (mE _ _ U6)<|zD 4<|zJ 81 (x68≤x90) (fun N9=>?_) fun N9=>?_
   ·
    exfalso;have:=p9 Jd.2.1 (show ((k:Int)-1).toNat <k by omega) U6 NO;omega
   refine zD 3<|ja ((k:Int)+1) (by omega)<|zD 2<|bI hK4 (k+1) (by omega) (by omega) [0] (Sub.refl _)
  have ajn:=h29
  replace ajn:=of_decide_eq_false ajn
  refine zD 14<|ja ((k:Int)+1) (by omega)<|zD 2<|bI hK4 (k+1) (by omega) (by omega) [0] (Sub.refl _)
 refine jd 9 [0]<|js 98 (!decide (fJ.oh=(-1))) (fun h31=>?_) (fun h31=>?_)
 ·
  have ajm:=h31
  replace ajm:=of_decide_eq_false (by simpa using ajm)
  refine jd 4 [0]<|js 102 (!decide (fJ.cls=(-1))) (fun h32=>?_) (fun h32=>?_)
  ·
   have ajk:=h32
   replace ajk:=of_decide_eq_false (by simpa using ajk)
   refine zD 29 ?_
   exfalso;omega
  have ajk:=h32
  replace ajk:=of_decide_eq_true (by simpa using ajk)
  refine jd 7 [0]<|js 109 (decide ((E5.dX.length:Int)>0)) (fun h33=>?_) (fun h33=>?_)
  ·
   have ajj:=h33
   replace ajj:=of_decide_eq_true ajj
   refine zD 22 ?_
   exfalso;omega
  have ajj:=h33
  replace ajj:=of_decide_eq_false ajj
  refine jd 4 [0]<|js 113 (decide (fJ.oh=(-1))) (fun h34=>?_) (fun h34=>?_)
  ·
   have aji:=h34
   replace aji:=of_decide_eq_true aji
   refine jd 5 [0]<|js 118 (decide (fJ.cls=(-1))) (fun h35=>?_) (fun h35=>?_)
   ·
    have ajg:=h35
    replace ajg:=of_decide_eq_true ajg
    refine jd 7 [0]<|zJ 124 ((E5.dX.length:Int)=0) (fun V0=>?_) fun V0=>?_
    ·
     exfalso;(try simp only[Bool.or_eq_true,Bool.and_eq_true,decide_eq_true_eq,Bool.not_eq_true',decide_eq_false_iff_not] at V0);omega
    refine zD 7<|zX (zI 0) ⟨rfl,rfl⟩
   have ajg:=h35
   replace ajg:=of_decide_eq_false ajg
   refine zD 14<|zX (zI 0) ⟨rfl,rfl⟩
  have aji:=h34
  replace aji:=of_decide_eq_false aji
  refine zD 19<|zX (zI 0) ⟨rfl,rfl⟩
 have ajm:=h31
 replace ajm:=of_decide_eq_true (by simpa using ajm)
 refine jd 15 [0]<|js 113 (decide (fJ.oh=(-1))) (fun h37=>?_) (fun h37=>?_)
 ·
  have ajf:=h37
  replace ajf:=of_decide_eq_true ajf
  refine jd 5 [0]<|js 118 (decide (fJ.cls=(-1))) (fun h38=>?_) (fun h38=>?_)
  ·
   have aje:=h38
   replace aje:=of_decide_eq_true aje
   refine jd 7 [0]<|zJ 124 ((E5.dX.length:Int)=0) (fun h39=>?_) fun h39=>?_
   ·
    exfalso;(try simp only[Bool.or_eq_true,Bool.and_eq_true,decide_eq_true_eq,Bool.not_eq_true',decide_eq_false_iff_not] at h39);omega
   refine zD 7<|zX (zI 0) ⟨rfl,rfl⟩
  have aje:=h38
  replace aje:=of_decide_eq_false aje
  refine zD 14<|zX (zI 0) ⟨rfl,rfl⟩
 have ajf:=h37
 replace ajf:=of_decide_eq_false ajf
 refine zD 19<|zX (zI 0) ⟨rfl,rfl⟩
theorem Xp{hv:List bw}(hR:jh ro vc vh cs hv hd)(nj:de dr hv hd)(hT:lG cs hd):dv zT 121 [.agg ⟨[vc,vh]⟩] ro (zI 0):=by
 obtain⟨hc,hh,di⟩:=id hR
 obtain⟨ep,AK,AJ,dZ,rfl,Dx,yR,yQ⟩:=hc
 obtain⟨dH,u5,u4,du,rfl,xp,qR,qQ⟩:=hh
 have DO:=hT.nc
 have hnh:=hT.nh
 have hlen:=nj.len
 refine zE<|zD 2<|jn fun b1=>jd 10 [0]<|jj 5 [(1,zP b1),(2,zI 0),(16,.bool ((decide ((cs.length:Int)>6))||(decide ((hv.length:Int)>6))))] (fun gG=>?_) (fun hj=>?_)
 rotate_left
 refine js 11 (decide ((cs.length:Int)>6)) (fun h1=>?_) (fun h1=>?_)
 ·
  have fW:=h1
  replace fW:=of_decide_eq_true fW
  refine zD 5<|jw 16 (.bool ((decide ((cs.length:Int)>6))||(decide ((hv.length:Int)>6)))) (w:= .bool true) (by rw[h1]<;>rfl) ?_
  exact zK hj
 ·
  have fW:=h1
  replace fW:=of_decide_eq_false fW
  refine jd 5 [0]<|jw 16 (.bool ((decide ((cs.length:Int)>6))||(decide ((hv.length:Int)>6)))) (w:= .bool (decide ((hv.length:Int)>6))) (by rw[h1]<;>rfl) ?_
  exact zK hj
 refine zD 1<|js 16 ((decide ((cs.length:Int)>6))||(decide ((hv.length:Int)>6))) (fun h2=>?_) (fun h2=>?_)
 ·
  try simp only[zB] at h2
  exfalso;omega
 try simp only[zB] at h2
 refine jd 11 [0]<|dP [1,1,0,1,0,0] [] (fun(zz:Nat)=>[(1,zP b1),(19,zI (cs.length:Int)),(20,zI (zz:Int))]) (fun zz=>[.b b1 (.cells ⟨[.slice ep cs.length dZ,.slice dH hv.length du]⟩ 35 (0,0))]) (fun zz=>zz≤cs.length) (fun zz=>cs.length-zz) 0 (by omega) [0] ?_
 rintro k hI K1 bH rest
 refine zD 5<|zJ 21 ((k:Int) <(cs.length:Int)) (fun h3=>?_) fun h3=>?_
 ·
  refine jd 14 [0]<|jp (vs:=[.slice ep cs.length dZ,zI (k:Int)]) [] [] (fun aI hs hZ=>atD ((show bD _ _ _ _ _ from ⟨ep,AK,AJ,dZ,rfl,Dx,yR,yQ⟩).up hs) hT (by omega))<|zD 10<|ja ((k:Int)+1) (by omega)<|zD 2<|bI bH (k+1) (by omega) (by omega) [0] (Sub.refl _)
 refine jd 11 [0]<|dP [1,1,1,0,1,0,0] [] (fun(zz:Nat)=>[(1,zP b1),(33,zI (hv.length:Int)),(34,zI (zz:Int))]) (fun zz=>[.b b1 (.cells ⟨[.slice ep cs.length dZ,.slice dH hv.length du]⟩ 35 (0,0))]) (fun zz=>zz≤hv.length) (fun zz=>hv.length-zz) 0 (by omega) [0] ?_
 rintro j hJ K2 mr rest
 refine zD 5<|zJ 35 ((j:Int) <(hv.length:Int)) (fun h4=>?_) fun h4=>?_
 ·
  refine jd 13 [0]<|jp (vs:=[.agg ⟨[.slice ep cs.length dZ,.slice dH hv.length du]⟩,zI (j:Int)]) [] [] (fun aI hs hZ=>(aB1 (hR.up hs) nj hT (by omega)))<|zD 10<|ja ((j:Int)+1) (by omega)<|zD 2<|bI mr (j+1) (by omega) (by omega) [0] (Sub.refl _)
 refine zD 7<|zX (zI 0) ⟨rfl,rfl⟩
theorem atE{hv:List bw}(hR:jh ro vc vh cs hv hd)(nj:de dr hv hd)(hT:lG cs hd):dv zT 96 [.agg ⟨[vc,vh]⟩] ro (zI 0):=by
 obtain⟨hc,hh,di⟩:=id hR
 obtain⟨ep,AK,AJ,dZ,rfl,Dx,yR,yQ⟩:=hc
 obtain⟨dH,u5,u4,du,rfl,xp,qR,qQ⟩:=hh
 have DO:=hT.nc
 have hnh:=hT.nh
 have hlen:=nj.len
 refine zE<|zD 2<|jn fun b1=>jd 5 [0]<|jp (vs:=[.agg ⟨[.slice ep cs.length dZ,.slice dH hv.length du]⟩]) [] [] (fun aI hs hZ=>(Xp (hR.up hs) nj hT))<|zD 3<|zX (zI 0) ⟨rfl,rfl⟩
def Kb(a b:ByteArray):Int:=bif strLt a b then-1 else bif !(strLt a b||cT a b) then 1 else 0
def Oy:List ByteArray→List ByteArray→Int
 | [],[]=>0
 | [],_::_=> -1
 |_::_,[]=>1
 |x::xs,y::ys=>if Kb x y=0 then Oy xs ys else Kb x y
theorem Zu{x y:ByteArray}(hx:xs[k]?=some x) (hy:ys[k]?=some y):Oy (xs.drop k) (ys.drop k)=if Kb x y=0 then Oy (xs.drop (k+1)) (ys.drop (k+1)) else Kb x y:=by rw[fx hx,fx hy];rfl
theorem akr{x:ByteArray}(hx:xs[k]?=some x) (hy:¬k <ys.length):Oy (xs.drop k) (ys.drop k)=1:=by rw[fx hx,eA hy];rfl
theorem SO(hx:¬k <xs.length):Oy (xs.drop k) (ys.drop k)=if k <ys.length then-1 else 0:=by
 rw[eA hx]
 split
 ·rename_i h
  rw[List.drop_eq_getElem_cons h];rfl
 rename_i h
 rw[eA h];rfl
def sW(s p:ByteArray):Bool:=decide (s.size≥p.size)&&cT (s.extract 0 p.size) p
structure an where
 h:Int
 n:Int
 l:Int
abbrev cM(x:an):List Value:=[zI x.h,zI x.n,zI x.l]
def pd(h n l:Int)(y:an):Bool:=h==y.h&&(n==y.n&&(l==y.l&&true)&&true)
theorem aIF{a:ByteArray}:dv zT 273 [.string a] ro (.bool false):=by
 refine zE<|zD 12<|zX (.bool (!(cT a a))) ⟨by rw[B1.2 rfl];rfl,rfl⟩
theorem aUK{a b:ByteArray}:dv zT 249 [.string a,.string b] ro (zI (Kb a b)):=by
 refine zE<|zD 7<|jp (vs:=[.string a]) [] [] (fun aI hs hZ=>aIF)<|zD 5<|jp (vs:=[.string b]) [] [] (fun aI hs hZ=>aIF)<|zD 23<|js 16 (strLt a b) (fun h1=>?_) (fun h1=>?_)
 ·
  refine zD 6<|zX (zI (-1)) ⟨by simp_all[Kb],rfl⟩
 refine zD 9<|js 19 (!(strLt a b||cT a b)) (fun h2=>?_) (fun h2=>?_)
 ·
  try simp only[zB] at h2
  refine zD 6<|zX (zI 1) ⟨by simp_all[Kb],rfl⟩
 try simp only[zB] at h2
 refine zD 7<|zX (zI 0) ⟨by simp_all[Kb],rfl⟩
theorem aNc{v w:Value}(hv:bD ro v 1 pK xs)(hw:bD ro w 1 pK ys)(hx:xs.length≤1000)(hy:ys.length≤1000):dv zT 228 [v,w] ro (zI (Oy xs ys)):=by
 obtain⟨I6,qvb,qvo,yf,rfl,qvk,Nb,Na⟩:=hv
 obtain⟨Qj,qwb,qwo,I5,rfl,qwk,qwh,qwl⟩:=hw
 refine zE<|zD 12<|dP [1,0,1,0,0] [] (fun(zz:Nat)=>[(0,.slice I6 xs.length yf),(1,.slice Qj ys.length I5),(9,.slice I6 xs.length yf),(10,zI (xs.length:Int)),(11,zI (zz:Int))]) (fun zz=>[]) (fun zz=>(zz≤xs.length∧zz≤ys.length)∧Oy xs ys=Oy (xs.drop zz) (ys.drop zz)) (fun zz=>xs.length-zz) 0 ⟨by omega,rfl⟩ [] ?_
 rintro k hI K1 bH rest
 refine zD 5<|zJ 12 ((k:Int) <(xs.length:Int)) (fun h1=>?_) fun h1=>?_
 ·
  refine zD 7 ?_
  obtain⟨fJ,eI⟩:=zG xs k
  refine ek yf 1 Nb eI<|jl 0 (Na _ _ eI)<|zD 11<|zJ 19 ((k:Int)≥(ys.length:Int)) (fun h2=>?_) fun h2=>?_
  ·
   refine zD 6<|zX (zI 1) ⟨by rw[hI.2,akr eI (by omega)],rfl⟩
  refine zD 6 ?_
  obtain⟨su,uh⟩:=zG ys k
  refine ek I5 1 qwh uh<|jl 0 (qwl _ _ uh)<|zD 6<|jp (vs:=[.string fJ,.string su]) [] [] (fun aI hs hZ=>aUK)<|zD 7<|js 28 (!decide ((Kb fJ su)=0)) (fun h3=>?_) (fun h3=>?_)
  ·
   replace h3:=of_decide_eq_false (by simpa using h3)
   refine zD 7<|zX (zI (Kb fJ su)) ⟨by rw[hI.2,Zu eI uh,if_neg (by omega)],rfl⟩
  replace h3:=of_decide_eq_true (by simpa using h3)
  refine zD 3<|ja ((k:Int)+1) (by omega)<|zD 2<|bI bH (k+1) ⟨by omega,by rw[hI.2,Zu eI uh,if_pos (by omega)]⟩ (by omega) [] (Sub.refl _)
 refine zD 11<|zJ 35 ((xs.length:Int) <(ys.length:Int)) (fun h4=>?_) fun h4=>?_
 ·
  refine zD 6<|zX (zI (-1)) ⟨by rw[hI.2,SO (by omega),if_pos (by omega)],rfl⟩
 refine zD 7<|zX (zI 0) ⟨by rw[hI.2,SO (by omega),if_neg (by omega)],rfl⟩
theorem abL{a b:ByteArray}(hn:a.size≤1000∧b.size≤1000):dv zT 298 [.string a,.string b] ro (.bool (sW a b)):=by
 refine zE<|zD 12<|js 10 (decide ((a.size:Int)≥(b.size:Int))) (fun h1=>?_) (fun h1=>?_)
 ·
  have fW:=h1
  replace fW:=of_decide_eq_true fW
  refine zD 3<|jtH (b:=a) (hi:=(b.size:Int)) (by omega)<|zD 6<|zX (.bool (cT (a.extract 0 (b.size:Int).toNat) b)) ⟨by simp_all[sW]<;>(intro;omega),rfl⟩
 have fW:=h1
 replace fW:=of_decide_eq_false fW
 refine zD 10<|zX (.bool false) ⟨by simp_all[sW]<;>(intro;omega),rfl⟩
theorem abM{a b:ByteArray}(hn:a.size≤1000∧b.size≤1000):dv zT 290 [.string a,.string b] ro (.bool (sW a b)):=by
 refine zE<|zD 8<|jp (vs:=[.string a,.string b]) [] [] (fun aI hs hZ=>(abL (by omega)))<|zD 3<|zX (.bool (sW a b)) ⟨rfl,rfl⟩
theorem agP{v:Value}{ps:List an}{h l:Int}(hp:bD ro v 3 cM ps)(hn:ps.length≤1000):dv zT 102 [v,.agg ⟨[zI h,zI n,zI l]⟩] ro (zI (cv (pd h n l) ps 0)):=by
 obtain⟨Ti,qpb,qpo,KR,rfl,qpk,qph,qpl⟩:=hp
 refine zE<|zD 2<|jn fun b3=>zD 10<|dP [1,0,1,0,0] [] (fun(zz:Nat)=>[(0,.slice Ti ps.length KR),(3,zP b3),(7,zI (ps.length:Int)),(8,zI (zz:Int))]) (fun zz=>[.b b3 (.cells ⟨[zI h,zI n,zI l]⟩ 158 (0,0))]) (fun zz=>zz≤ps.length∧cv (pd h n l) ps 0=cv (pd h n l) (ps.drop zz) zz) (fun zz=>ps.length-zz) 0 ⟨by omega,rfl⟩ [0] ?_
 rintro k hI K1 bH rest
 refine zD 5<|zJ 9 ((k:Int) <(ps.length:Int)) (fun h1=>?_) fun h1=>?_
 ·
  refine jd 14 [0] ?_
  obtain⟨fJ,eI⟩:=zG ps k
  refine ek KR 3 qph eI<|jl 0 (qpl _ _ eI)<|jeq aEj (ayN h n l fJ.h fJ.n fJ.l)<|zD 1<|js 16 (h==fJ.h&&(n==fJ.n&&(l==fJ.l&&true)&&true)) (fun h2=>?_) (fun h2=>?_)
  ·
   refine zD 7<|zX (zI (k:Int)) ⟨by rw[hI.2,jJ eI,show pd h n l fJ=true from (by assumption)];rfl,rfl⟩
  refine zD 3<|ja ((k:Int)+1) (by omega)<|zD 2<|bI bH (k+1) ⟨by omega,by rw[hI.2,jJ eI,show pd h n l fJ=false from (by assumption)];rfl⟩ (by omega) [0] (Sub.refl _)
 refine zD 7<|zX (zI (-1)) ⟨by rw[hI.2,qD (by omega)],rfl⟩
theorem LP{v:Value}{ps:List an}{h l:Int}(hp:bD ro v 3 cM ps)(hn:ps.length≤1000):dv zT 75 [v,.agg ⟨[zI h,zI n,zI l]⟩] ro (.bool (decide (cv (pd h n l) ps 0≥0))):=by
 obtain⟨Ti,qpb,qpo,KR,rfl,qpk,qph,qpl⟩:=hp
 refine zE<|zD 2<|jn fun b3=>jd 6 [0]<|jp (vs:=[.slice Ti ps.length KR,.agg ⟨[zI h,zI n,zI l]⟩]) [] [] (fun aI hs hZ=>agP ((show bD _ _ _ _ _ from ⟨Ti,qpb,qpo,KR,rfl,qpk,qph,qpl⟩).up hs) (by first|omega| (simp only[List.length_set,zM];omega))) ?_
 refine zD 4<|zX (.bool (decide ((cv (pd h n l) ps 0)≥0))) ⟨rfl,rfl⟩
theorem afR{v:Value}{ws:List ByteArray}(hv:bD ro v 1 pK ws)(hn:ws.length≤1000)(hW:∀w∈ws,(1≤w.size∧w.size≤6)∧Script w):dv zT 204 [v] ro (zI 0):=by
 obtain⟨I6,qvb,qvo,yf,rfl,qvk,Nb,Na⟩:=hv
 refine zE<|zD 12<|dP [1,0,1,0,0] [] (fun(zz:Nat)=>[(6,.slice I6 ws.length yf),(7,zI (ws.length:Int)),(8,zI (zz:Int))]) (fun zz=>[]) (fun zz=>zz≤ws.length) (fun zz=>ws.length-zz) 0 (by omega) [] ?_
 rintro k hI K1 bH rest
 refine zD 5<|zJ 9 ((k:Int) <(ws.length:Int)) (fun h1=>?_) fun h1=>?_
 ·
  refine zD 6 ?_
  obtain⟨x10,rX⟩:=zG ws k
  refine ek yf 1 Nb rX<|jl 0 (Na _ _ rX)<|zD 5<|jp (vs:=[.string x10]) [] [] (fun aI hs hZ=>(UK (hW _ (zL rX)).1 (hW _ (zL rX)).2))<|zD 10<|ja ((k:Int)+1) (by omega)<|zD 2<|bI bH (k+1) (by omega) (by omega) [] (Sub.refl _)
 refine zD 7<|zX (zI 0) ⟨rfl,rfl⟩
def xP(w:ByteArray):Prop:=∀b∈w.data.toList,b.toNat <128∧kindOf (b.toNat:Int)=1
def anL(w:ByteArray):Bool:=w.data.toList.all fun b=>Nat.blt b.toNat 128&&decide (kindOf (b.toNat:Int)=1)
theorem G0{w:ByteArray}(h:anL w=true):xP w:=fun b hb=>by
 have:=List.all_eq_true.1 h b hb
 simp only[Bool.and_eq_true,Nat.blt_eq,decide_eq_true_eq] at this
 exact this
def Xx(r:bQ):Bool:=(Nat.ble 1 r.f.size&&Nat.ble r.f.size 2)&&(Nat.ble r.t.size 2&&(anL r.f&&(anL r.t&& !cT r.f r.t)))
theorem aaw:(ar9.all fun f=>toW.all fun t=>Xx ⟨f,t⟩)=true:=by kernel_rfl
structure rD(r:bQ):Prop where
 f1:1≤r.f.size∧r.f.size≤2
 t1:r.t.size≤2
 fl:xP r.f
 tl:xP r.t
 ne:cT r.f r.t=false
theorem atN{r:bQ}(h:IZ r):rD r:=by
 have:=List.all_eq_true.1 (List.all_eq_true.1 aaw r.f h.1) r.t h.2
 simp only[Xx,Bool.and_eq_true,Nat.ble_eq,Bool.not_eq_true'] at this
 exact⟨this.1,this.2.1,G0 this.2.2.1,G0 this.2.2.2.1,this.2.2.2.2⟩
theorem aEn:dv zT 243 [.int .i32 r] ro (.bool (!decide (kindOf r=1))):=by
 refine zE<|zD 7<|jp (vs:=[.int .i32 r]) [] [] (fun aI hs hZ=>aq1)<|zD 4<|zX (.bool (!decide ((kindOf r)=1))) ⟨rfl,rfl⟩
theorem aNb{w:ByteArray}(hK:xP w):dv zT 281 [.string w,.func (.func 243) ⟨[]⟩ ⟨[]⟩,.bool true] ro (zI (-1)):=by
 refine zE<|zD 8<|jn fun r10=>zD 2<|dP [1,0,1,0,0] [] (fun(zz:Nat)=>[(1,.func (.func 243) ⟨[]⟩ ⟨[]⟩),(2,.bool true),(10,zP r10)]) (fun zz=>[.b r10 (.stringIter w zz)]) (fun zz=>zz≤w.data.toList.length) (fun zz=>w.data.toList.length-zz) 0 (by omega) [0] ?_
 rintro p hI K1 bH rest
 refine zD 2 ?_
 cases abD:w.data.toList[p]? with
 |some x11=>
  refine jnA r10 0 abD (hK _ (zL abD)).1<|zD 14 ?_
  have YQ:=(hK _ (zL abD)).2
  refine zD 3<|jp (vs:=[.int .i32 (x11.toNat:Int)]) [] [] (fun aI hs hZ=>aEn)<|zD 1<|je (.bool ((!decide (kindOf (x11.toNat:Int)=1))==true)) rfl<|zD 1<|js 19 ((!decide (kindOf (x11.toNat:Int)=1))==true) (fun h1=>?_) (fun h1=>?_)
  ·
   exfalso;rw[YQ] at h1;cases h1
  refine zD 2<|bI bH (p+1) (by have:=(List.getElem?_eq_some_iff.1 abD).1;omega) (by have:=(List.getElem?_eq_some_iff.1 abD).1;omega) [0] (Sub.refl _)
 |none=>
  refine jnZ r10 0 abD<|zD 10<|zX (zI (-1)) ⟨rfl,rfl⟩
theorem aCh{w:ByteArray}(hK:xP w):dv zT 264 [.string w,.func (.func 243) ⟨[]⟩ ⟨[]⟩] ro (zI (-1)):=by
 refine zE<|zD 8<|jp (vs:=[.string w,.func (.func 243) ⟨[]⟩ ⟨[]⟩,.bool true]) [] [] (fun aI hs hZ=>(aNb hK))<|zD 3<|zX (zI (-1)) ⟨rfl,rfl⟩
theorem aCj{w:ByteArray}(hK:xP w):dv zT 242 [.string w,.func (.func 243) ⟨[]⟩ ⟨[]⟩] ro (.bool false):=by
 refine zE<|zD 8<|jp (vs:=[.string w,.func (.func 243) ⟨[]⟩ ⟨[]⟩]) [] [] (fun aI hs hZ=>(aCh hK))<|zD 4<|zX (.bool false) ⟨rfl,rfl⟩
theorem QQ{w:ByteArray}(hK:xP w)(hn:w.size≤1000):dv zT 224 [.string w,zI lo,zI hi] ro (.bool (decide (lo≤w.size)&&decide ((w.size:Int)≤hi))):=by
 refine zE<|zD 11<|jj 5 [(0,.string w),(6,.bool false),(16,.bool ((decide (lo≤(w.size:Int)))&&(decide ((w.size:Int)≤hi))))] (fun gG=>?_) (fun hj=>?_)
 rotate_left
 refine js 11 (decide (lo≤(w.size:Int))) (fun h1=>?_) (fun h1=>?_)
 ·
  have fW:=h1
  replace fW:=of_decide_eq_true fW
  refine zD 5<|jw 16 (.bool ((decide (lo≤(w.size:Int)))&&(decide ((w.size:Int)≤hi)))) (w:= .bool (decide ((w.size:Int)≤hi))) (by rw[h1]<;>rfl) ?_
  exact zK hj
 ·
  have fW:=h1
  replace fW:=of_decide_eq_false fW
  refine zD 5<|jw 16 (.bool ((decide (lo≤(w.size:Int)))&&(decide ((w.size:Int)≤hi)))) (w:= .bool false) (by rw[h1]<;>rfl) ?_
  exact zK hj
 refine zD 1<|jj 4 [(6,.bool false),(21,.bool (((decide (lo≤(w.size:Int)))&&(decide ((w.size:Int)≤hi)))&&true))] (fun gG=>?_) (fun hj=>?_)
 rotate_left
 refine js 17 ((decide (lo≤(w.size:Int)))&&(decide ((w.size:Int)≤hi))) (fun h2=>?_) (fun h2=>?_)
 ·
  have mv:=h2
  try simp only[zB] at mv
  refine zD 1<|jp (vs:=[.string w,.func (.func 243) ⟨[]⟩ ⟨[]⟩]) [] [] (fun aI hs hZ=>(aCj hK))<|zD 2<|jw 21 (.bool (((decide (lo≤(w.size:Int)))&&(decide ((w.size:Int)≤hi)))&&true)) (w:= .bool true) (by rw[h2]<;>rfl) ?_
  exact zK hj
 ·
  have mv:=h2
  try simp only[zB] at mv
  refine zD 4<|jw 21 (.bool (((decide (lo≤(w.size:Int)))&&(decide ((w.size:Int)≤hi)))&&true)) (w:= .bool false) (by rw[h2]<;>rfl) ?_
  exact zK hj
 refine zD 3<|zX (.bool (((decide (lo≤(w.size:Int)))&&(decide ((w.size:Int)≤hi)))&&true)) ⟨by simp_all,rfl⟩
theorem Lj{w:ByteArray}(hK:xP w)(h1:lo≤w.size)(h2:(w.size:Int)≤hi)(h3:w.size≤1000):dv zT 224 [.string w,zI lo,zI hi] ro (.bool true):=by
 have:=QQ (ro:=ro) hK h3 (lo:=lo) (hi:=hi)
 rw[decide_eq_true h1,decide_eq_true h2] at this
 exact this
theorem aa5{v:Value}{rs:List bQ}(hv:bD ro v 2 iF rs)(hn:rs.length≤4)(hR:∀r∈rs,rD r):dv zT 203 [v] ro (zI 0):=by
 obtain⟨I6,qvb,qvo,yf,rfl,qvk,Nb,Na⟩:=hv
 refine zE<|zD 11<|zJ 7 ((rs.length:Int)>4) (fun h1=>?_) fun h1=>?_
 ·
  exfalso;omega
 refine zD 10<|dP [1,1,0,1,0,0] [] (fun(zz:Nat)=>[(8,.slice I6 rs.length yf),(9,zI (rs.length:Int)),(10,zI (zz:Int))]) (fun zz=>[]) (fun zz=>zz≤rs.length) (fun zz=>rs.length-zz) 0 (by omega) [] ?_
 rintro k hI K1 bH rest
 refine zD 5<|zJ 11 ((k:Int) <(rs.length:Int)) (fun h2=>?_) fun h2=>?_
 ·
  refine zD 6 ?_
  obtain⟨tF,ql⟩:=zG rs k
  refine ek yf 2 Nb ql<|jl 0 (Na _ _ ql)<|jn fun b4=>jd 3 [0] ?_
  have hrp:=(hR _ (zL ql))
  have hrf:=hrp.f1
  have hrt:=hrp.t1
  refine jd 3 [0]<|jp (vs:=[.string tF.f,zI 1,zI 2]) [] [] (fun aI hs hZ=>(Lj hrp.fl (by omega) (by omega) (by omega)))<|jd 4 [0]<|jp (vs:=[.string tF.t,zI 0,zI 2]) [] [] (fun aI hs hZ=>(Lj hrp.tl (by omega) (by omega) (by omega)))<|jd 10 [0,0]<|js 30 (cT tF.f tF.t) (fun h3=>?_) (fun h3=>?_)
  ·
   exfalso;rw[hrp.ne] at h3;cases h3
  refine zD 3<|ja ((k:Int)+1) (by omega)<|zD 2<|bI bH (k+1) (by omega) (by omega) [] (Sub.refl _)
 refine zD 7<|zX (zI 0) ⟨rfl,rfl⟩
def qe:List Int→Int
 | []=>0
 |x::xs=>xs.foldl min x
def vZ:List Int→Int
 | []=>0
 |x::xs=>xs.foldl max x
theorem auW{xs:List Int}{x:Int}(h:xs[0]?=some x):qe xs=(xs.drop 1).foldl min x:=by
 cases xs with
 |nil=>cases h
 |cons y l=>simp at h;subst h;rfl
theorem auX{xs:List Int}{x:Int}(h:xs[0]?=some x):vZ xs=(xs.drop 1).foldl max x:=by
 cases xs with
 |nil=>cases h
 |cons y l=>simp at h;subst h;rfl
def qS(l:List Int):Int:=(l.filter fun x=>decide (x>0)).length
theorem K0{l:List Int}{x:Int}(h:l[k]?=some x):qS (l.take (k+1))=qS (l.take k)+if x>0 then 1 else 0:=by
 rw[dF h,qS,List.filter_append,qS]
 by_cases hx:x>0<;>simp[hx]
structure ah where
 past:Int
 w0:Int
 w1:Int
 w2:Int
 w3:Int
 gone:Int
 new:Int
 af:Int
abbrev cE(x:ah):List Value:=[zI x.past,zI x.w0,zI x.w1,zI x.w2,zI x.w3,zI x.gone,zI x.new,zI x.af]
def bM(g n m:Int)(x:ah):Bool:=decide (x.gone≤g)&&(decide (x.new≤n)&&decide (x.af≤m))
def hasB(f i:Int):Bool:=decide (U3 .u8 (aS .u8 f i) 1=1)
theorem aM9{v:Value}{xs:List Int}(hl:bD ro v 1 cm xs)(hn:0 <xs.length∧xs.length≤1000000):dv zT 110 [v] ro (zI (qe xs)):=by
 obtain⟨fA,rQ,rP,eP,rfl,tQ,lJ,mE⟩:=hl
 refine zE<|zD 11<|zJ 7 ((xs.length:Int) <1) (fun h1=>?_) fun h1=>?_
 ·
  exfalso;omega
 refine zD 5 ?_
 obtain⟨x10,rX⟩:=zG xs 0
 refine ek eP 1 lJ rX<|jl 0 (mE _ _ rX)<|zD 8<|dP [1,1,1,0,1,0,0] [] (fun(zz:Nat×Int)=>[(0,.slice fA xs.length eP),(2,zI 0),(3,zI zz.2),(4,zI (zz.1:Int))]) (fun zz=>[]) (fun zz=>(1≤zz.1∧zz.1≤xs.length)∧qe xs=(xs.drop zz.1).foldl min zz.2) (fun zz=>xs.length-zz.1) (⟨1,x10⟩) ⟨by dsimp only;omega,auW rX⟩ [] ?_
 rintro⟨k,m⟩ hI K1 bH rest
 dsimp only at hI
 refine zD 8<|zJ 15 ((k:Int) <(xs.length:Int)) (fun h2=>?_) fun h2=>?_
 ·
  refine zD 8 ?_
  obtain⟨yC,qk⟩:=zG xs k
  refine ek eP 1 lJ qk<|jl 0 (mE _ _ qk)<|jmn (k:= .i64) (a:=m) (b:=yC)<|zD 4<|ja ((k:Int)+1) (by omega)<|zD 2<|bI bH (⟨k+1,(min m yC)⟩) ⟨by dsimp only;omega,by rw[hI.2,fx qk];rfl⟩ (by dsimp only;omega) [] (Sub.refl _)
 refine zD 8<|zX (zI m) ⟨by rw[hI.2,eA (by omega)];rfl,rfl⟩
theorem aNa{v:Value}{xs:List Int}(hl:bD ro v 1 cm xs)(hn:0 <xs.length∧xs.length≤1000000):dv zT 111 [v] ro (zI (vZ xs)):=by
 obtain⟨fA,rQ,rP,eP,rfl,tQ,lJ,mE⟩:=hl
 refine zE<|zD 11<|zJ 7 ((xs.length:Int) <1) (fun h1=>?_) fun h1=>?_
 ·
  exfalso;omega
 refine zD 5 ?_
 obtain⟨x10,rX⟩:=zG xs 0
 refine ek eP 1 lJ rX<|jl 0 (mE _ _ rX)<|zD 8<|dP [1,1,1,0,1,0,0] [] (fun(zz:Nat×Int)=>[(0,.slice fA xs.length eP),(2,zI 0),(3,zI zz.2),(4,zI (zz.1:Int))]) (fun zz=>[]) (fun zz=>(1≤zz.1∧zz.1≤xs.length)∧vZ xs=(xs.drop zz.1).foldl max zz.2) (fun zz=>xs.length-zz.1) (⟨1,x10⟩) ⟨by dsimp only;omega,auX rX⟩ [] ?_
 rintro⟨k,m⟩ hI K1 bH rest
 dsimp only at hI
 refine zD 8<|zJ 15 ((k:Int) <(xs.length:Int)) (fun h2=>?_) fun h2=>?_
 ·
  refine zD 8 ?_
  obtain⟨yC,qk⟩:=zG xs k
  refine ek eP 1 lJ qk<|jl 0 (mE _ _ qk)<|jmx (k:= .i64) (a:=m) (b:=yC)<|zD 4<|ja ((k:Int)+1) (by omega)<|zD 2<|bI bH (⟨k+1,(max m yC)⟩) ⟨by dsimp only;omega,by rw[hI.2,fx qk];rfl⟩ (by dsimp only;omega) [] (Sub.refl _)
 refine zD 8<|zX (zI m) ⟨by rw[hI.2,eA (by omega)];rfl,rfl⟩
theorem agE{v:Value}{xs:List Int}(hl:bD ro v 1 cm xs)(hn:0 <xs.length∧xs.length≤1000000):dv zT 86 [v] ro (.agg ⟨[zI (qe xs),zI (vZ xs)]⟩):=by
 obtain⟨fA,rQ,rP,eP,rfl,tQ,lJ,mE⟩:=hl
 refine zE<|zD 2<|jn fun b2=>zD 4<|jp (vs:=[.slice fA xs.length eP]) [] [] (fun aI hs hZ=>aM9 ((show bD _ _ _ _ _ from ⟨fA,rQ,rP,eP,rfl,tQ,lJ,mE⟩).up hs) (by omega))<|zD 1<|jp (vs:=[.slice fA xs.length eP]) [] [] (fun aI hs hZ=>aNa ((show bD _ _ _ _ _ from ⟨fA,rQ,rP,eP,rfl,tQ,lJ,mE⟩).up hs) (by omega))<|jd 4 [0]<|zR (.agg ⟨[zI (qe xs),zI (vZ xs)]⟩) [0] [] [] ⟨rfl,rfl⟩
theorem an3{x:ah}:dv zT 85 [.agg ⟨[zI x.past,zI x.w0,zI x.w1,zI x.w2,zI x.w3,zI x.gone,zI x.new,zI x.af]⟩] ro (.bool true):=by
 refine zE<|zD 2<|jn fun b1=>zD 7<|zX (.bool true) ⟨rfl,rfl⟩
theorem agN{f:Nat}{x:ah}{c2 c3 c4:Value}(hf:ro f=some (.cells ⟨[c0,c1,c2,c3,c4,c5,c6,c7,zI gone,zI new,zI af,c11,vt]⟩ 150 (0,0))):dv zT 77 [zP f,.agg ⟨[zI x.past,zI x.w0,zI x.w1,zI x.w2,zI x.w3,zI x.gone,zI x.new,zI x.af]⟩] ro (.bool (bM gone new af x)):=by
 refine zE<|zD 2<|jn fun b3=>jd 10 [0]<|jl (b:=f) (off:=0) (m:=13) (vs:=[c0,c1,c2,c3,c4,c5,c6,c7,zI gone,zI new,zI af,c11,vt]) 8 ⟨_,_,_,.inl hf,rfl⟩<|zD 2<|js 8 (decide (x.gone≤gone)) (fun h1=>?_) (fun h1=>?_)
 ·
  have fW:=h1
  replace fW:=of_decide_eq_true fW
  refine jd 6 [0]<|jl (b:=f) (off:=0) (m:=13) (vs:=[c0,c1,c2,c3,c4,c5,c6,c7,zI gone,zI new,zI af,c11,vt]) 9 ⟨_,_,_,.inl hf,rfl⟩<|zD 3<|js 18 (decide (x.new≤new)) (fun h2=>?_) (fun h2=>?_)
  ·
   have mv:=h2
   replace mv:=of_decide_eq_true mv
   refine jd 6 [0]<|jl (b:=f) (off:=0) (m:=13) (vs:=[c0,c1,c2,c3,c4,c5,c6,c7,zI gone,zI new,zI af,c11,vt]) 10 ⟨_,_,_,.inl hf,rfl⟩<|zD 5<|zX (.bool (decide (x.af≤af))) ⟨by simp_all[bM]<;>(intros;omega),rfl⟩
  have mv:=h2
  replace mv:=of_decide_eq_false mv
  refine zD 12<|zX (.bool false) ⟨by simp_all[bM]<;>(intros;omega),rfl⟩
 have fW:=h1
 replace fW:=of_decide_eq_false fW
 refine zD 22<|zX (.bool false) ⟨by simp_all[bM]<;>(intros;omega),rfl⟩
theorem avv{f i:Int}(hi:0≤i∧i≤8):dv zT 94 [.int .u8 f,zI i] ro (.bool (hasB f i)):=by
 refine zE<|zD 8<|jsr (k:= .u8) (k':= .i64) (a:=f) (b:=i) 105 (by omega)<|zD 5<|zX (.bool (decide ((U3 .u8 (aS .u8 f i) 1)=1))) ⟨rfl,rfl⟩
theorem ave{p0 p1 p2 p3:Int}:dv zT 120 [.agg ⟨[zI p0,zI p1,zI p2,zI p3]⟩] ro (zI (qS [p0,p1,p2,p3])):=by
 refine zE<|zD 2<|jn fun b1=>jd 13 [0]<|dP [1,1,0,1,0,0] [] (fun(zz:Nat×Int)=>[(2,zI 0),(3,zI zz.2),(6,.agg ⟨[zI p0,zI p1,zI p2,zI p3]⟩),(7,zI (zz.1:Int))]) (fun zz=>[]) (fun zz=>zz.1≤4∧zz.2=qS ([p0,p1,p2,p3].take zz.1)∧(0≤zz.2∧zz.2≤zz.1)) (fun zz=>4-zz.1) (⟨0,0⟩) ⟨by omega,rfl,by omega⟩ [] ?_
 rintro⟨k,n⟩ hI K1 bH rest
 dsimp only at hI
 refine zD 5<|zJ 8 ((k:Int) <4) (fun h1=>?_) fun h1=>?_
 ·
  refine zD 6 ?_
  obtain⟨x9,Rj⟩:=zG ([p0,p1,p2,p3]:List Int) k (show k <4 from by omega)
  refine jai (l:=[zI p0,zI p1,zI p2,zI p3]) (k:Int) 4 1 false (by omega) (v:= zI x9) (show nth _ (k*1)=_ by rw[Nat.mul_one];exact aOG Rj) ?_
  refine zD 7<|zJ 11 (x9>0) (fun h2=>?_) fun h2=>?_
  ·
   refine zD 3<|ja (n+1) (by omega)<|zD 3<|ja ((k:Int)+1) (by omega)<|zD 2<|bI bH (⟨k+1,(n+1)⟩) ⟨by dsimp only;omega,by rw[K0 Rj,if_pos (by assumption),hI.2.1],by dsimp only;omega⟩ (by dsimp only;omega) [] (Sub.refl _)
  refine zD 3<|ja ((k:Int)+1) (by omega)<|zD 2<|bI bH (⟨k+1,n⟩) ⟨by dsimp only;omega,by rw[K0 Rj,if_neg (by assumption),hI.2.1,Int.add_zero],by dsimp only;omega⟩ (by dsimp only;omega) [] (Sub.refl _)
 refine zD 8<|zX (zI n) ⟨by rw[hI.2.1,show k=4 by omega];rfl,rfl⟩
theorem q8{xs:List α}{a:Option Addr}{o:Nat}(h:∀k,k <xs.length→a=some ⟨b,o,none⟩)(hn:a.isNone=true):xs=[]:=by
 cases xs with
 |nil=>rfl
 |cons x l=>rw[h 0 (by simp)] at hn;cases hn
theorem atK{v:Value}(hl:bD ro v 1 pK xs)(hn:xs.length≤1000):dO zT 247 [v] ro [] (fun r Y=>∃L,ax r 1 9 pK xs L∧Y=L):=by
 obtain⟨fA,rQ,rP,eP,rfl,tQ,lJ,mE⟩:=hl
 refine zE<|zD 8<|jsn 99 (a:=fA) (l:=xs.length) (c:=eP)<|zD 1<|js 4 (fA.isNone) (fun h1=>?_) (fun h1=>?_)
 ·
  refine zD 6<|zX (zS) ⟨[],by rw[q8 lJ (by assumption)];exact ax.nil _ _ _,rfl⟩
 refine zD 4<|jn fun b5=>zD 1<|iC (sz:=1) (ps:=[]) (qs:=xs) (enc:=pK) (w:= .slice fA xs.length eP) [0] [] [] (bA (b:=b5) (T:=9)) (fun s he _=>⟨fA,rQ,rP,eP,rfl,lJ,fun i p hp=>(mE i p hp).ext he⟩) (fun p _=>aj rfl) (by simp<;>omega) (fun v7 L7 iD=>?_)
 rw[List.nil_append] at iD
 obtain⟨TR,TJ,R2⟩:=iD.form
 subst R2
 refine zD 3<|zR ((.slice TR (xs).length TJ)) [] [0] L7 ⟨_,iD,rfl⟩
theorem aO3{f:Nat}{c2 c3 c4:Value}(hx:bD ro c11 3 mX fs)(hf:ro f=some (.cells ⟨[c0,c1,c2,c3,c4,c5,c6,c7,zI gone,zI new,zI af,c11,vt]⟩ 150 (0,0)))(hn:fs.length≤7):dv zT 42 [zP f] ro (.int .u8 (IntKind.u8.wrap (dC .u8 1 (fs.length:Int)-1))):=by
 obtain⟨qxa,qxb,qxo,qxc,rfl,qxk,qxh,qxl⟩:=hx
 refine zE<|zD 10<|jl (b:=f) (off:=0) (m:=13) (vs:=[c0,c1,c2,c3,c4,c5,c6,c7,zI gone,zI new,zI af,.slice qxa fs.length qxc,vt]) 11 ⟨_,_,_,.inl hf,rfl⟩<|zD 1<|jsh (k:= .u8) (k':= .i64) (a:=1) (b:=(fs.length:Int)) 105 (by omega)<|zD 4<|zX (.int .u8 (IntKind.u8.wrap ((dC .u8 1 (fs.length:Int))-1))) ⟨rfl,rfl⟩
theorem yb{r:Value}{A B:Prop}(h:(r= .bool true∧A)∨(r= .bool false∧B)):∃c,r= .bool c∧(c=true→A)∧(c=false→B):=by
 rcases h with ⟨rfl,h⟩| ⟨rfl,h⟩
 ·exact⟨true,rfl,fun _=>h,nofun⟩
 exact⟨false,rfl,nofun,fun _=>h⟩
def uI(w f t:ByteArray)(i:Nat):ByteArray:=w.extract 0 (i:Int).toNat++t++w.extract ((i:Int)+(f.size:Int)).toNat w.size
def p8(w f t:ByteArray)(i:Nat):Option ByteArray:=if sW (w.extract i w.size) f=true∧1≤(uI w f t i).size∧(uI w f t i).size≤12 then some (uI w f t i) else none
def u3(w f t:ByteArray)(k:Nat):List ByteArray:=(List.range k).filterMap (p8 w f t)
def Dw(w f t:ByteArray):List ByteArray:=u3 w f t (w.size+1)
theorem B6(w f t:ByteArray)(k:Nat):u3 w f t (k+1)=u3 w f t k++(p8 w f t k).toList:=by
 rw[u3,u3,List.range_succ,List.filterMap_append]
 cases h:p8 w f t k<;>simp[h]
theorem aeu(w f t:ByteArray){n:Nat}(h:k≤n):∃l,u3 w f t n=u3 w f t k++l:=by
 induction n with
 |zero=>exact⟨[],by rw[show k=0 by omega];simp⟩
 |succ n ih=>
  by_cases hk:k=n+1
  ·exact⟨[],by rw[hk];simp⟩
  obtain⟨l,hl⟩:=ih (by omega)
  exact⟨l++(p8 w f t n).toList,by rw[B6,hl,List.append_assoc]⟩
theorem Qg{w x:ByteArray}{n:Nat}(hk:k <n)(h:p8 w f t k=some x):(u3 w f t n)[(u3 w f t k).length]?=some x∧(u3 w f t (k+1)).length=(u3 w f t k).length+1:=by
 obtain⟨l,hl⟩:=aeu w f t (k:=k+1) (n:=n) hk
 rw[hl,B6,h]
 constructor
 ·rw[List.append_assoc,List.getElem?_append_right (Nat.le_refl _)];simp
 simp
theorem XB{w:ByteArray}(h:p8 w f t k=none):(u3 w f t (k+1)).length=(u3 w f t k).length:=by
 rw[B6,h];simp
abbrev ase(l:List ByteArray):(Nat→Option Obj)→Nat→List Value→Cells→Prop:=fun _ k vs LL=>∃x,l[k]?=some x∧vs=[.string x]∧LL=[]
theorem xP.ext{w:ByteArray}(h:xP w)(i j:Nat):xP (w.extract i j):=by
 intro b hb
 refine h b ?_
 have:(w.extract i j).data.toList=(w.data.extract i j).toList:=by simp[ByteArray.data_extract]
 rw[this,Array.toList_extract] at hb
 simp only[List.extract_eq_drop_take] at hb
 exact List.mem_of_mem_drop (List.mem_of_mem_take hb)
theorem xP.app{v w:ByteArray}(h:xP v)(k:xP w):xP (v++w):=by
 intro b hb
 have:(v++w).data.toList=v.data.toList++w.data.toList:=by simp[ByteArray.data_append]
 rw[this] at hb
 exact(List.mem_append.1 hb).elim (h b) (k b)
theorem KD{w:ByteArray}(hw:xP w)(ht:xP t):xP (uI w f t i):=((hw.ext _ _).app ht).app (hw.ext _ _)
theorem afc{a b:ByteArray}(h:sW a b=true):b.size≤a.size:=by
 unfold sW at h
 simp only[Bool.and_eq_true,decide_eq_true_eq] at h
 omega
def agh(w:ByteArray):Bool:=decide ((1:Int)≤w.size)&&decide ((w.size:Int)≤12)
theorem Up{w:ByteArray}(h:sW (w.extract (k:Int).toNat w.size) f=false):p8 w f t k=none:=if_neg fun x=>by
 have h1:sW (w.extract k w.size) f=false:=h
 rw[h1] at x;cases x.1
theorem aay{w:ByteArray}(h:agh (uI w f t k)=false):p8 w f t k=none:=if_neg fun x=>by
 simp only[agh,Bool.and_eq_false_iff,decide_eq_false_iff_not] at h
 omega
theorem Uo{w:ByteArray}(h:sW (w.extract (k:Int).toNat w.size) f=true)(h2:agh (uI w f t k)=true):p8 w f t k=some (uI w f t k):=if_pos ⟨h,by
 simp only[agh,Bool.and_eq_true,decide_eq_true_eq] at h2
 omega⟩
theorem Un{w:ByteArray}(h:w.size≤100∧f.size≤100∧t.size≤100):(uI w f t k).size≤1000:=by
 simp only[uI,ByteArray.size_append,ByteArray.size_extract];omega
theorem amQ{w:ByteArray}(hk:k≤w.size)(h:p8 w f t k=some (uI w f t k)):(u3 w f t k).length <(Dw w f t).length∧(Dw w f t)[(u3 w f t k).length]?=some (uI w f t k):=by
 have:=(Qg (n:=w.size+1) (by omega) h).1
 exact⟨(List.getElem?_eq_some_iff.1 this).1,this⟩
theorem Wk(w:ByteArray)(a b:Nat):(w.extract a b).size≤w.size:=by simp;omega
theorem ajW(w:ByteArray)(i:Nat)(h:i≤w.size):(w.extract i w.size).size=w.size-i:=by simp
theorem anz{w:ByteArray}{b1 b2 b3:Nat}(g1:ro b1=some (.cells ⟨[.string w]⟩ 299 (0,0)))(g2:ro b2=some (.cells ⟨[.string f]⟩ 9 (0,0)))(g3:ro b3=some (.cells ⟨[.string t]⟩ 9 (0,0)))(hw:xP w)(ht:xP t)(hn:w.size≤100∧f.size≤100∧t.size≤100):ItX zT 289 [] [zP b1,zP b2,zP b3] ro [] (Dw w f t).length (ase (Dw w f t)) (fun Z=>Z=[]):=by
 intro bl aI Inv Stop hs hy B hB
 replace g1:=hs _ _ g1
 replace g2:=hs _ _ g2
 replace g3:=hs _ _ g3
 refine zC [.l B]<|zD 2<|jl (b:=b1) (off:=0) (m:=1) (vs:=[.string w]) 0 ⟨_,_,_,.inl g1,rfl⟩<|zD 1<|ja ((w.size:Int)+1) (by omega)<|zD 3<|dP [1,0,0] [] (fun(zz:Nat×Cells)=>[(0,(.func (.yield bl) #[] #[])),(1,zP b1),(2,zP b2),(3,zP b3),(9,zI ((w.size:Int)+1)),(10,zI (zz.1:Int))]) (fun zz=>[.l zz.2]) (fun zz=>zz.1≤w.size+1∧Inv (u3 w f t zz.1).length zz.2) (fun zz=>w.size+1-zz.1) (⟨0,B⟩) ⟨by dsimp only;omega,hB⟩ [0] ?_
 rintro⟨k,B⟩ hI K1 bH rest
 dsimp only at hI
 refine zD 5<|zJ 11 ((k:Int) <((w.size:Int)+1)) (fun h1=>?_) fun h1=>?_
 ·
  refine zD 11 ?_
  have pq:=Wk w (k:Int).toNat w.size
  refine zD 1<|jl (b:=b1) (off:=0) (m:=1) (vs:=[.string w]) 0 ⟨_,_,_,.inl g1,rfl⟩<|zD 1<|jtL (b:=w) (lo:=(k:Int)) (by omega)<|jl (b:=b2) (off:=0) (m:=1) (vs:=[.string f]) 0 ⟨_,_,_,.inl g2,rfl⟩<|jp (vs:=[.string (w.extract (k:Int).toNat w.size),.string f]) [] [] (fun aI hs hZ=>(abM (by omega)))<|zD 2<|js 18 (!(sW (w.extract (k:Int).toNat w.size) f)) (fun h2=>?_) (fun h2=>?_)
  ·
   try simp only[zB] at h2
   refine zD 3<|ja ((k:Int)+1) (by omega)<|zD 2<|bI bH (⟨k+1,B⟩) ⟨by dsimp only;omega,by dsimp only;rw[XB (Up (by assumption))];exact hI.2⟩ (by dsimp only;omega) [0] (Sub.refl _)
  try simp only[zB] at h2
  refine zD 3 ?_
  have Jl:=Wk w 0 (k:Int).toNat
  have he3:=Wk w ((k:Int)+(f.size:Int)).toNat w.size
  have he4:(w.extract 0 (k:Int).toNat++t).size=_:=ByteArray.size_append
  have hpr:sW (w.extract (k:Int).toNat w.size) f=true:=by assumption
  have Rx:=afc hpr
  rw[ajW _ _ (by omega)] at Rx
  refine zD 1<|jl (b:=b1) (off:=0) (m:=1) (vs:=[.string w]) 0 ⟨_,_,_,.inl g1,rfl⟩<|zD 1<|jtH (b:=w) (hi:=(k:Int)) (by omega)<|jl (b:=b3) (off:=0) (m:=1) (vs:=[.string t]) 0 ⟨_,_,_,.inl g3,rfl⟩<|jsa (a:=(w.extract 0 (k:Int).toNat)) (b:=t) 299 (by omega)<|jl (b:=b1) (off:=0) (m:=1) (vs:=[.string w]) 0 ⟨_,_,_,.inl g1,rfl⟩<|zD 1<|jl (b:=b2) (off:=0) (m:=1) (vs:=[.string f]) 0 ⟨_,_,_,.inl g2,rfl⟩<|zD 1<|ja ((k:Int)+(f.size:Int)) (by omega)<|jtL (b:=w) (lo:=((k:Int)+(f.size:Int))) (by omega)<|jsa (a:=((w.extract 0 (k:Int).toNat)++t)) (b:=(w.extract ((k:Int)+(f.size:Int)).toNat w.size)) 299 (by omega)<|zD 5<|jp (vs:=[.string (((w.extract 0 (k:Int).toNat)++t)++(w.extract ((k:Int)+(f.size:Int)).toNat w.size)),zI 1,zI 12]) [] [] (fun aI hs hZ=>(QQ (KD (i:=k) hw ht) (Un hn)))<|zD 1<|js 33 (agh (uI w f t k)) (fun h3=>?_) (fun h3=>?_)
  ·
   have hry:=Uo (t:=t) hpr (by assumption)
   have Tl:=amQ (by omega) hry
   refine zD 2<|jyc [0] (hy (u3 w f t k).length _ [] B aI Tl.1 ⟨_,Tl.2,rfl,rfl⟩ hI.2 (Sub.refl _)) (Sub.refl _) ?_
   intro v4 Y4 hy4
   obtain⟨c4,rfl,hc4,hd4⟩:=yb hy4
   refine zD 3<|js 38 (!c4) (fun h5=>?_) (fun h5=>?_)
   ·
    try simp only[zB] at h5
    refine zD 2<|zR (.tuple ⟨[]⟩) [] [0] Y4 ⟨[],Y4,rfl,rfl,.inr (hd4 (by simp_all))⟩
   try simp only[zB] at h5
   refine zD 3<|ja ((k:Int)+1) (by omega)<|zD 2<|bI bH (⟨k+1,Y4⟩) ⟨by dsimp only;omega,by dsimp only;rw[(Qg (n:=k+1) (by omega) hry).2];exact hc4 (by assumption)⟩ (by dsimp only;omega) [0] (Sub.refl _)
  refine zD 9<|ja ((k:Int)+1) (by omega)<|zD 2<|bI bH (⟨k+1,B⟩) ⟨by dsimp only;omega,by dsimp only;rw[XB (aay (by assumption))];exact hI.2⟩ (by dsimp only;omega) [0] (Sub.refl _)
 refine zD 2<|zR (.tuple ⟨[]⟩) [] [0] B ⟨[],B,rfl,rfl,.inl (by have:=hI.2;rwa[show k=w.size+1 by omega] at this)⟩
end Go.L
