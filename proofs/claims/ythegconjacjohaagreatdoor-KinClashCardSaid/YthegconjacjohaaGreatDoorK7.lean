/- Part 7 of the proof. -/
import Derived.Test.YthegconjacjohaaGreatDoorK6
set_option maxRecDepth 100000
set_option linter.all false
namespace Go.L
open Go Go.Conc Go.Proofs
variable {ro:Nat→Option Obj} {hd:List cA} {cs:List bN} {f t:ByteArray} {k i b sz:Nat} {l:List Value} {α β:Type} {xs ys:List ByteArray} {fs:List bM} {K:aC} {x:aB} {vc vh vp c11 vd c0 c1 c5 c6 c7 vt:Value} {r n af gone new lo hi:Int}
set_option maxHeartbeats 2000000 in
theorem aUW {d:Nat} {X:Cells} {xs:List Int} {np nf:Int} (hN:Dn ro vd xs) (hD:bK vd xs d X) (hnp:0≤np∧np≤4) (hnf:0≤nf∧nf≤4):FnG zT 6 [zP d,zI np,zI nf] ro X (fun r aG Y=>∃(K:aC) (l:List Value),r= .agg ⟨l⟩∧Tt K∧(K.facts.length:Int)≤nf∧fx aG l K∧bK vd xs d Y):=by
 refine aED (hm:=ar) [.l X] [] aW<|zD 2<|jn fun b6=>zD 4<|jc [1] (apv hN hD) ?_
 rintro _ _ ⟨kT,jT,VS,aaw,bao,Z18,X18,rfl,HS,C4,aTx,rfl,Sq⟩
 refine jg 0 [.l Z18,.l X18]<|jf [0] Z18 (fun yN bZ iL=>?_)
 have pY:=aTx _ iL
 obtain⟨hc,hh,di⟩:=id pY
 obtain⟨eo,AO,AN,dX,rfl,DK,yP,yO⟩:=hc
 obtain⟨dJ,u5,u4,dv,rfl,xq,qX,qW⟩:=hh
 refine zD 2<|jn fun b21=>zD 2<|jn fun FC=>jn fun nS=>zD 3<|jn fun b7=>jd 5 [0]<|jf [1,2,3] ((nS,.cells ⟨[.slice (some ⟨b21,0,none⟩) 2 2,.slice (some ⟨FC,0,none⟩) 2 2]⟩ 82 (0,0))::((FC,.cells ⟨[zI 1,zI 0,zI 3,zI 0]⟩ 81 (0,0))::[(b21,.cells ⟨[zI 1,zI 0,zI 2,zI 0]⟩ 81 (0,0))])) (fun ro6 kA Zl=>?_)
 have aTy:=Ui (Zl _ (.tail _ (.tail _ (.head _)))) (Zl _ (.tail _ (.head _))) (Zl _ (.head _))
 refine zD 1<|jc (vs:=[zP d,zI 2]) [1] (tB (hN.up (bZ.trans kA)) Sq (by omega)) ?_
 rintro _ X30 ⟨w30,rfl,aHv⟩
 refine zD 1<|EG [1,1,1] [] (fun(zz:Value×Cells×(List (List aN))×Cells)=>[(0,zP d),(1,zI np),(2,zI nf),(6,zP b6),(7,zP b7)]) (fun(zz:Value×Cells×(List (List aN))×Cells)=>[.l zz.2.1,.l zz.2.2.2,.b b7 (.cells ⟨[.slice (some ⟨nS,0,none⟩) 2 2,zz.1,zS,.slice eo kT.length dX,.slice dJ jT.length dv,zS,zS,zS,zI 0,zI 0,zI 0,zS]⟩ 38 (0,0)),.b b6 (.cells ⟨zO⟩ 38 (0,0))]) (fun(zz:Value×Cells×(List (List aN))×Cells)=>(∀lq,Knows lq zz.2.1→nU lq zz.1 zz.2.2.1)∧(zz.2.2.1.length≤1∧∀l∈zz.2.2.1,(1≤l.length∧l.length≤2)∧∀c∈l,jA c)∧bK vd xs d zz.2.2.2) ?_ (fun K1 bG=>?_)
 ·
  rintro⟨vT,LT,ways,X⟩ TS rest
  dsimp only at TS
  refine zD 2<|jf [0] LT (fun ro9 sj hk8=>?_)
  have aHj:=TS.1 _ hk8
  obtain⟨TZ,ht,_⟩:=id aHj
  obtain⟨eR,AK,AI,dS,rfl,AJ,sG,sE⟩:=ht
  refine zD 1<|jc (vs:=[zP d,zI 2]) [0] (ay1 (hN.up ((bZ.trans kA).trans sj)) TS.2.2 (by decide)) ?_
  rintro v60 _ ⟨Ng,L60,X60,NP,bd6,ahy,rfl,aUb⟩
  refine jg 0 [.l L60,.l X60]<|zD 8<|nI<|dw [1,1,1,1,0,1,0,0] [] (fun(zz:Nat×Value×Cells×(List bP))=>[(0,zP d),(1,zI np),(2,zI nf),(6,zP b6),(7,zP b7),(8,v60),(9,zI (zz.1:Int))]) (fun zz=>[.l zz.2.2.1,.l X60,.b b7 (.cells ⟨[.slice (some ⟨nS,0,none⟩) 2 2,.slice eR TZ.length dS,zS,.slice eo kT.length dX,.slice dJ jT.length dv,zz.2.1,zS,zS,zI 0,zI 0,zI 0,zS]⟩ 38 (0,0)),.l L60,.b b6 (.cells ⟨zO⟩ 38 (0,0))]) (fun zz=>(zz.1≤Ng.length∧zz.2.2.2.length≤zz.1)∧aw zz.2.1 2 92 iG zz.2.2.2 zz.2.2.1∧∀r∈zz.2.2.2,IU r) (fun zz=>Ng.length-zz.1) (⟨0,zS,[],[]⟩) ⟨by simp,aw.nil _ _ _,(fun _ h=>by cases h)⟩ [0,2,3,1,4] ?_
  rintro⟨i,vR,LR,rs⟩ hR K2 jV rest
  dsimp only at hR
  refine zD 5<|BQ NP<|zD 2<|zJ 64 ((i:Int) <(Ng.length:Int)) (fun EV=>?_) fun EV=>?_
  ·
   refine zD 8 ?_
   obtain⟨Ty,JI⟩:=zG Ng i
   refine Af 2 NP JI fun b69 axZ=>zD 1<|ki 0 [3] L60 (fun s _ hZ=>bh NP axZ hZ JI)<|zD 2 ?_
   obtain⟨x74,aET⟩:=zG Ng i
   refine Af 2 NP aET fun b74 aS3=>zD 1<|ki 1 [3] L60 (fun s _ hZ=>bh NP aS3 hZ aET)<|zD 2<|js 77 (!(cS Ty.f x74.t)) (fun h11=>?_) (fun h11=>?_)
   ·
    try simp only[zB] at h11
    refine jd 6 [2] ?_
    obtain⟨Fb,Vj⟩:=zG Ng i
    refine Af 2 NP Vj fun b82 aS0=>ki 0 [3] L60 (fun s _ hZ=>bh NP aS0 hZ Vj)<|aS 6 fun oP oR nK=>jn fun b84=>eG nK (zN 1 5)<|aS 7 fun qU qV pK=>iK (sz:=2) (ps:=rs) (qs:=[(⟨Fb.f,Fb.t⟩:bP)]) (enc:=iG) (w:= .slice (some ⟨b84,0,none⟩) 1 1) [1] [0] [(b84,.cells ⟨([(⟨Fb.f,Fb.t⟩:bP)].map iG).flatten⟩ 92 (0,0))] (hR.2.1) (fun s _ hZ=>bV [(⟨Fb.f,Fb.t⟩:bP)] (hZ _ (.head _)) (by intro p hp;rfl)) (fun p _=>ai rfl) (by simp<;>omega) (fun v85 L85 ahE=>?_)
    obtain⟨aMi,aLY,aSm⟩:=ahE.form
    subst aSm
    refine gx pK []<|zD 1<|aS 9 fun yz yF zh=>jd 1 [3]<|fW zh<|zD 3<|ja ((i:Int)+1) (by omega)<|zD 2<|bF jV (⟨i+1,(.slice aMi ((rs++[(⟨Fb.f,Fb.t⟩:bP)])).length aLY),L85,(rs++[(⟨Fb.f,Fb.t⟩:bP)])⟩) ⟨by simp only[zM];omega,ahE,qL hR.2.2 (ahy _ (zL Vj))⟩ (by omega) [0,2,3,4,5] (Sub.refl _)
   try simp only[zB] at h11
   refine zD 4<|ja ((i:Int)+1) (by omega)<|zD 2<|bF jV (⟨i+1,vR,LR,rs⟩) ⟨by dsimp only;omega,hR.2⟩ (by omega) (zN 0 5) (Sub.refl _)
  refine zD 4<|jf [0] LR (fun ba2 iN aRU=>?_)
  have hRU:=hR.2.1.jF aRU
  refine jd 3 [1]<|jn fun pf=>jd 7 [0]<|jc (vs:=[zP d,zI np]) [1] (EZ (hN.up (((bZ.trans kA).trans sj).trans iN)) aUb (by omega)) ?_
  rintro _ X92 ⟨w92,rfl,bcZ,bcU,aT6⟩
  refine zD 3<|nI<|dw [1,1,1,1,1,1,0,1,0,0] [] (fun(zz:Int×Value×Cells×(List aB)×Cells)=>[(0,zP d),(1,zI np),(2,zI nf),(6,zP b6),(7,zP b7),(10,zP pf),(11,zI zz.1)]) (fun zz=>[.l zz.2.2.1,.l zz.2.2.2.2,.b pf (.cells ⟨[zI 2,zI 0,zI 0,.slice eo kT.length dX,.slice dJ jT.length dv,zS,zS]⟩ 94 (0,0)),.b b7 (.cells ⟨[.slice (some ⟨nS,0,none⟩) 2 2,.slice eR TZ.length dS,zS,.slice eo kT.length dX,.slice dJ jT.length dv,vR,zz.2.1,zS,zI 0,zI 0,zI 0,zS]⟩ 38 (0,0)),.b b6 (.cells ⟨zO⟩ 38 (0,0))]) (fun zz=>(0≤zz.1∧zz.2.2.2.1.length+zz.1≤4)∧aw zz.2.1 5 76 eC zz.2.2.2.1 zz.2.2.1∧(∀p∈zz.2.2.2.1,ak3 VS p)∧bK vd xs d zz.2.2.2.2) (fun zz=>zz.1.toNat) (⟨w92,zS,[],[],X92⟩) ⟨by simp only[List.length_nil];omega,aw.nil _ _ _,(fun _ h=>by cases h),aT6⟩ [0,1,2,3,5] ?_
  rintro⟨j,vB,LB,uY,X⟩ hB K6 hK6 rest
  dsimp only at hB
  refine zD 6<|zJ 94 (j>0) (fun h18=>?_) fun h18=>?_
  ·
   refine zD 5<|EG [1,1,1,1,1,1,0,1,0,0,1,0,0,1] [K6] (fun(zz:Nat×aB×Cells)=>[(0,zP d),(1,zI np),(2,zI nf),(6,zP b6),(7,zP b7),(10,zP pf),(11,zI j),(12,zP zz.1)]) (fun zz=>[.b zz.1 (.cells ⟨[.string zz.2.1.name,zI zz.2.1.st,zI zz.2.1.no,zI zz.2.1.head,.bool zz.2.1.bold]⟩ 76 (0,0)),.l LB,.l zz.2.2,.b pf (.cells ⟨[zI 2,zI 0,zI 0,.slice eo kT.length dX,.slice dJ jT.length dv,zS,zS]⟩ 94 (0,0)),.b b7 (.cells ⟨[.slice (some ⟨nS,0,none⟩) 2 2,.slice eR TZ.length dS,zS,.slice eo kT.length dX,.slice dJ jT.length dv,vR,vB,zS,zI 0,zI 0,zI 0,zS]⟩ 38 (0,0)),.b b6 (.cells ⟨zO⟩ 38 (0,0))]) (fun zz=>(OT zz.2.1.name∧nX VS zz.2.1.head∧(0≤zz.2.1.st∧zz.2.1.st≤1))∧bK vd xs d zz.2.2) ?_ (fun K7 hK7=>?_)
   ·
    rintro⟨wX,pp,X⟩ ai2 rest
    dsimp only at ai2
    refine zD 3<|jc (vs:=[zP d,zI 1,zI 2]) [2] (Bu (hN.up (((bZ.trans kA).trans sj).trans iN)) ai2.2 (by omega) (by omega)) ?_
    rintro _ aVM ⟨aLV,rfl,aYo,aYd,ar7⟩
    refine jd 10 [1,1]<|EG [1,1,1,1,1,1,0,1,0,0,1,0,0,1,1,1] [K6] (fun(zz:Int×Cells)=>[(0,zP d),(1,zI np),(2,zI nf),(6,zP b6),(7,zP b7),(10,zP pf),(11,zI j),(12,zP wX)]) (fun zz=>[.b wX (.cells ⟨[.string pp.name,zI pp.st,zI zz.1,zI pp.head,.bool pp.bold]⟩ 76 (0,0)),.l LB,.l zz.2,.b pf (.cells ⟨[zI 2,zI 0,zI 0,.slice eo kT.length dX,.slice dJ jT.length dv,zS,zS]⟩ 94 (0,0)),.b b7 (.cells ⟨[.slice (some ⟨nS,0,none⟩) 2 2,.slice eR TZ.length dS,zS,.slice eo kT.length dX,.slice dJ jT.length dv,vR,vB,zS,zI 0,zI 0,zI 0,zS]⟩ 38 (0,0)),.b b6 (.cells ⟨zO⟩ 38 (0,0))]) (fun zz=>((pp.st=0→zz.1=1∨zz.1=2)∧(pp.st=1→zz.1=1∨zz.1=3))∧bK vd xs d zz.2) ?_ (fun K8 hK8=>?_)
    ·
     rintro⟨q,X⟩ ao7 rest
     dsimp only at ao7
     refine jd 7 [0]<|EG [1,1,1,1,1,1,0,1,0,0,1,0,0,1,1,1,1,0,1] [K6] (fun(zz:Bool×Cells)=>[(0,zP d),(1,zI np),(2,zI nf),(6,zP b6),(7,zP b7),(10,zP pf),(11,zI j),(12,zP wX),(120,.bool zz.1)]) (fun zz=>[.b wX (.cells ⟨[.string pp.name,zI pp.st,zI q,zI pp.head,.bool false]⟩ 76 (0,0)),.l LB,.l zz.2,.b pf (.cells ⟨[zI 2,zI 0,zI 0,.slice eo kT.length dX,.slice dJ jT.length dv,zS,zS]⟩ 94 (0,0)),.b b7 (.cells ⟨[.slice (some ⟨nS,0,none⟩) 2 2,.slice eR TZ.length dS,zS,.slice eo kT.length dX,.slice dJ jT.length dv,vR,vB,zS,zI 0,zI 0,zI 0,zS]⟩ 38 (0,0)),.b b6 (.cells ⟨zO⟩ 38 (0,0))]) (fun zz=>(zz.1=true→0 <uY.length)∧bK vd xs d zz.2) ?_ (fun K9 hK9=>?_)
     ·
      rintro⟨g,X⟩ ai1 rest
      dsimp only at ai1
      refine EG [1,1,1,1,1,1,0,1,0,0,1,0,0,1,1,1,1,1] [K6] (fun(zz:aB×Cells)=>[(0,zP d),(1,zI np),(2,zI nf),(6,zP b6),(7,zP b7),(10,zP pf),(11,zI j),(12,zP wX)]) (fun zz=>[.b wX (.cells ⟨[.string zz.1.name,zI zz.1.st,zI zz.1.no,zI zz.1.head,.bool zz.1.bold]⟩ 76 (0,0)),.l LB,.l zz.2,.b pf (.cells ⟨[zI 2,zI 0,zI 0,.slice eo kT.length dX,.slice dJ jT.length dv,zS,zS]⟩ 94 (0,0)),.b b7 (.cells ⟨[.slice (some ⟨nS,0,none⟩) 2 2,.slice eR TZ.length dS,zS,.slice eo kT.length dX,.slice dJ jT.length dv,vR,vB,zS,zI 0,zI 0,zI 0,zS]⟩ 38 (0,0)),.b b6 (.cells ⟨zO⟩ 38 (0,0))]) (fun zz=>ak3 VS zz.1∧bK vd xs d zz.2) ?_ (fun K10 ao5=>?_)
      ·
       rintro⟨p2,X⟩ ayr rest
       dsimp only at ayr
       refine jd 4 [4,0]<|jn fun azk=>iK (sz:=5) (ps:=uY) (qs:=[(⟨p2.name,p2.st,p2.no,p2.head,p2.bold⟩:aB)]) (enc:=eC) (w:= .slice (some ⟨azk,0,none⟩) 1 1) [2] [0] [(azk,.cells ⟨([(⟨p2.name,p2.st,p2.no,p2.head,p2.bold⟩:aB)].map eC).flatten⟩ 76 (0,0))] (hB.2.1) (fun s _ hZ=>bV [(⟨p2.name,p2.st,p2.no,p2.head,p2.bold⟩:aB)] (hZ _ (.head _)) (by intro p hp;rfl)) (fun p _=>ai rfl) (by simp<;>omega) (fun baG aWb Ze=>?_)
       obtain⟨aBq,aBj,aGC⟩:=Ze.form
       subst aGC
       refine jd 5 [5]<|ja (j-1) (by omega)<|zD 2<|bF hK6 (⟨j-1,(.slice aBq ((uY++[(⟨p2.name,p2.st,p2.no,p2.head,p2.bold⟩:aB)])).length aBj),aWb,(uY++[(⟨p2.name,p2.st,p2.no,p2.head,p2.bold⟩:aB)]),X⟩) ⟨by simp only[zM];omega,Ze,qL hB.2.2.1 ayr.1,ayr.2⟩ (by omega) [0,3,4,5,6] (Sub.refl _)
      refine js 120 g (fun ZA=>?_) (fun ZA=>?_)
      ·
       subst ZA
       refine jd 7 [4,4]<|BQ hB.2.1<|ja ((uY.length:Int)-1) (by omega)<|aS 7 fun FH Gd zk=>jc (vs:=[zP d,zI ((uY.length:Int)-1)]) [2] (EZ (hN.up (((bZ.trans kA).trans sj).trans iN)) ai1.2 (by omega)) ?_
       rintro _ aVJ ⟨adW,rfl,aYn,ahj,aHI⟩
       refine gx zk [[4],[4]] ?_
       obtain⟨aLF,ahi⟩:=zG uY (adW.toNat) (by have:=ai1.1 rfl;omega)
       refine mW adW 5 hB.2.1 ahi (Int.toNat_of_nonneg (show 0≤adW∧adW <((uY).length:Int) from (by have:=ai1.1 rfl;omega)).1).symm (fun bfR aG5=>?_)
       refine ki 0 [2] LB (fun s _ hZ=>bh hB.2.1 aG5 hZ ahi)<|aS 10 fun Pv PX C7=>jd 1 [1]<|fW C7<|zD 1<|bF ao5 ⟨aLF,aVJ⟩ ⟨hB.2.2.1 _ (zL ahi),aHI⟩ Nat.zero_lt_one [1,2,0,3,4,5] (Sub.refl _)
      subst ZA
      refine zD 2<|bF ao5 ⟨⟨pp.name,pp.st,q,pp.head,false⟩,X⟩ ⟨⟨⟨ai2.1.1,ai2.1.2.1,ai2.1.2.2,rfl⟩,ao7.1⟩,ai1.2⟩ Nat.zero_lt_one (zN 0 6) (Sub.refl _)
     refine jd 3 [4]<|BQ hB.2.1<|zD 2<|js 117 (decide ((uY.length:Int)>0)) (fun LW=>?_) (fun LW=>?_)
     ·
      have ajn:=LW
      replace ajn:=of_decide_eq_true ajn
      refine zD 1<|jc (vs:=[zP d,zI 5]) [2] (tB (hN.up (((bZ.trans kA).trans sj).trans iN)) ao7.2 (by omega)) ?_
      rintro _ aVK ⟨aLS,rfl,aHJ⟩
      refine zD 2<|bF hK9 ⟨aLS,aVK⟩ ⟨fun _=>by omega,aHJ⟩ Nat.zero_lt_one [1,2,0,3,4,5] (Sub.refl _)
     have ajn:=LW
     replace ajn:=of_decide_eq_false ajn
     refine zD 4<|bF hK9 ⟨false,X⟩ ⟨(fun h=>by cases h),ao7.2⟩ Nat.zero_lt_one (zN 0 6) (Sub.refl _)
    refine zJ 107 (pp.st=1) (fun Fz=>?_) fun Fz=>?_
    ·
     refine zD 3<|jn fun aI0=>jcL (vs:=[zP d,.slice (some ⟨aI0,0,none⟩) 2 2]) [1] [0] [(aI0,.cells ⟨([1,3].map cy).flatten⟩ 3 (0,0))] (fun aG hs hZ=>akm ((hN.up (((bZ.trans kA).trans sj).trans iN)).up hs) ar7 (bU [1,3] hZ.head (by intro p hp;rfl)) (by simp)) ?_
     rintro _ aVL ⟨aLT,rfl,aE0,aHK⟩
     refine jd 3 [2]<|bF hK8 ⟨aLT,aVL⟩ ⟨⟨(fun h=>by omega),(fun _=>by simpa using aE0)⟩,aHK⟩ Nat.zero_lt_one [2,3,0,4,5,6] (Sub.refl _)
    refine zD 2<|bF hK8 ⟨aLV,aVM⟩ ⟨⟨(fun _=>by dsimp only;omega),(fun h=>by omega)⟩,ar7⟩ Nat.zero_lt_one [1,2,0,3,4,5] (Sub.refl _)
   refine jd 4 [2]<|I5 [3,5] ⟨fun z13 t14 Wd=>?_,fun z16 t17 N3=>?_,trivial⟩
   ·
    refine jc [1] (ZN (hN.up (((bZ.trans kA).trans sj).trans iN)) hB.2.2.2) ?_
    rintro _ aVN ⟨ami,rfl,Y0,Zz⟩
    refine gx Wd [[2]]<|I5 [4,5] ⟨fun z19 t20 ao2=>?_,fun z22 t23 ayl=>?_,trivial⟩
    ·
     refine jc (vs:=[zP d,.agg ⟨[zI 2,zI 0,zI 0,.slice eo kT.length dX,.slice dJ jT.length dv,zS,zS]⟩,.string ami]) [0] (xK (hN.up (((bZ.trans kA).trans sj).trans iN)) Zz ((((show bB _ _ _ _ _ from ⟨dJ,u5,u4,dv,rfl,xq,qX,qW⟩).up kA).up sj).up iN) (by have:=C4.len;have:=HS.nh;omega)) ?_
     rintro _ akZ ⟨aBf,rfl,RZ,RJ,Sb,Ss⟩
     refine fW ao2<|aS 5 fun aAQ aBP V9=>jn fun wX=>fW V9<|aS 6 fun adD aeo ET=>jd 1 [0]<|fW ET<|zD 1<|bF hK7 ⟨wX,_,akZ⟩ ⟨⟨RZ▸Y0,xD C4 Sb,RJ⟩,Ss⟩ Nat.zero_lt_one [0,2,1,3,4,5] (Sub.refl _)
    refine jn fun wX=>eG ayl (zN 1 5)<|aS 4 fun Pu PW C5=>jc (vs:=[zP d,.agg ⟨[zI 2,zI 0,zI 0,.slice eo kT.length dX,.slice dJ jT.length dv,zS,zS]⟩,.string ami]) [1] (xK (hN.up (((bZ.trans kA).trans sj).trans iN)) Zz ((((show bB _ _ _ _ _ from ⟨dJ,u5,u4,dv,rfl,xq,qX,qW⟩).up kA).up sj).up iN) (by have:=C4.len;have:=HS.nh;omega)) ?_
    rintro _ akZ ⟨aBf,rfl,RZ,RJ,Sb,Ss⟩
    refine fW C5<|aS 6 fun Pt PV HU=>jd 1 [1]<|fW HU<|zD 1<|bF hK7 ⟨wX,_,akZ⟩ ⟨⟨RZ▸Y0,xD C4 Sb,RJ⟩,Ss⟩ Nat.zero_lt_one [1,2,0,3,4,5] (Sub.refl _)
   refine jn fun wX=>eG N3 (zN 1 5)<|aS 3 fun Ps PU HT=>jc [2] (ZN (hN.up (((bZ.trans kA).trans sj).trans iN)) hB.2.2.2) ?_
   rintro _ aVN ⟨ami,rfl,Y0,Zz⟩
   refine gx HT [[3]]<|aS 4 fun adC aen V8=>jc (vs:=[zP d,.agg ⟨[zI 2,zI 0,zI 0,.slice eo kT.length dX,.slice dJ jT.length dv,zS,zS]⟩,.string ami]) [0] (xK (hN.up (((bZ.trans kA).trans sj).trans iN)) Zz ((((show bB _ _ _ _ _ from ⟨dJ,u5,u4,dv,rfl,xq,qX,qW⟩).up kA).up sj).up iN) (by have:=C4.len;have:=HS.nh;omega)) ?_
   rintro _ akZ ⟨aBf,rfl,RZ,RJ,Sb,Ss⟩
   refine fW V8<|aS 6 fun adB aem So=>jd 1 [1]<|fW So<|zD 1<|bF hK7 ⟨wX,_,akZ⟩ ⟨⟨RZ▸Y0,xD C4 Sb,RJ⟩,Ss⟩ Nat.zero_lt_one [1,2,0,3,4,5] (Sub.refl _)
  refine zD 7<|jc (vs:=[zP d,zI np]) [1] (EZ (hN.up (((bZ.trans kA).trans sj).trans iN)) hB.2.2.2 (by omega)) ?_
  rintro _ aVI ⟨aLQ,rfl,aYm,aYc,aHH⟩
  refine zD 3<|nI<|dw [1,1,1,1,1,1,1,0,1,0,0] [] (fun(zz:Int×Value×Cells×(List aB)×Cells)=>[(0,zP d),(2,zI nf),(6,zP b6),(7,zP b7),(10,zP pf),(13,zI zz.1)]) (fun zz=>[.l zz.2.2.1,.l zz.2.2.2.2,.l LB,.b pf (.cells ⟨[zI 2,zI 0,zI 0,.slice eo kT.length dX,.slice dJ jT.length dv,zS,zS]⟩ 94 (0,0)),.b b7 (.cells ⟨[.slice (some ⟨nS,0,none⟩) 2 2,.slice eR TZ.length dS,zS,.slice eo kT.length dX,.slice dJ jT.length dv,vR,vB,zz.2.1,zI 0,zI 0,zI 0,zS]⟩ 38 (0,0)),.b b6 (.cells ⟨zO⟩ 38 (0,0))]) (fun zz=>(0≤zz.1∧zz.2.2.2.1.length+zz.1≤4)∧aw zz.2.1 5 76 eC zz.2.2.2.1 zz.2.2.1∧(∀p∈zz.2.2.2.1,ak4 VS p)∧bK vd xs d zz.2.2.2.2) (fun zz=>zz.1.toNat) (⟨aLQ,zS,[],[],aVI⟩) ⟨by simp only[List.length_nil];omega,aw.nil _ _ _,(fun _ h=>by cases h),aHH⟩ (zN 0 6) ?_
  rintro⟨j,vA,LA,Mu,X⟩ hA K32 aTX rest
  dsimp only at hA
  refine zD 6<|zJ 141 (j>0) (fun h35=>?_) fun h35=>?_
  ·
   refine zD 5<|EG [1,1,1,1,1,1,1,0,1,0,0,1,0,0,1] [K32] (fun(zz:Nat×aB×Cells)=>[(0,zP d),(2,zI nf),(6,zP b6),(7,zP b7),(10,zP pf),(13,zI j),(14,zP zz.1)]) (fun zz=>[.b zz.1 (.cells ⟨[.string zz.2.1.name,zI zz.2.1.st,zI zz.2.1.no,zI zz.2.1.head,.bool zz.2.1.bold]⟩ 76 (0,0)),.l LA,.l zz.2.2,.l LB,.b pf (.cells ⟨[zI 2,zI 0,zI 0,.slice eo kT.length dX,.slice dJ jT.length dv,zS,zS]⟩ 94 (0,0)),.b b7 (.cells ⟨[.slice (some ⟨nS,0,none⟩) 2 2,.slice eR TZ.length dS,zS,.slice eo kT.length dX,.slice dJ jT.length dv,vR,vB,vA,zI 0,zI 0,zI 0,zS]⟩ 38 (0,0)),.b b6 (.cells ⟨zO⟩ 38 (0,0))]) (fun zz=>(OT zz.2.1.name∧nX VS zz.2.1.head∧(0≤zz.2.1.st∧zz.2.1.st≤1))∧bK vd xs d zz.2.2) ?_ (fun K33 ayp=>?_)
   ·
    rintro⟨b14,pp,X⟩ ai0 rest
    dsimp only at ai0
    refine zD 3<|jc (vs:=[zP d,zI 1,zI 3]) [2] (Bu (hN.up (((bZ.trans kA).trans sj).trans iN)) ai0.2 (by omega) (by omega)) ?_
    rintro _ aVG ⟨aBd,rfl,aYl,aYb,ar4⟩
    refine jd 7 [1,1]<|EG [1,1,1,1,1,1,1,0,1,0,0,1,0,0,1,1,0,1] [K32] (fun(zz:Bool×Cells)=>[(0,zP d),(2,zI nf),(6,zP b6),(7,zP b7),(10,zP pf),(13,zI j),(14,zP b14),(161,.bool zz.1)]) (fun zz=>[.b b14 (.cells ⟨[.string pp.name,zI pp.st,zI aBd,zI pp.head,.bool false]⟩ 76 (0,0)),.l LA,.l zz.2,.l LB,.b pf (.cells ⟨[zI 2,zI 0,zI 0,.slice eo kT.length dX,.slice dJ jT.length dv,zS,zS]⟩ 94 (0,0)),.b b7 (.cells ⟨[.slice (some ⟨nS,0,none⟩) 2 2,.slice eR TZ.length dS,zS,.slice eo kT.length dX,.slice dJ jT.length dv,vR,vB,vA,zI 0,zI 0,zI 0,zS]⟩ 38 (0,0)),.b b6 (.cells ⟨zO⟩ 38 (0,0))]) (fun zz=>(zz.1=true→0 <uY.length)∧bK vd xs d zz.2) ?_ (fun K34 aHo=>?_)
    ·
     rintro⟨g,X⟩ aiZ rest
     dsimp only at aiZ
     refine EG [1,1,1,1,1,1,1,0,1,0,0,1,0,0,1,1,1] [K32] (fun(zz:aB×Cells)=>[(0,zP d),(2,zI nf),(6,zP b6),(7,zP b7),(10,zP pf),(13,zI j),(14,zP b14)]) (fun zz=>[.b b14 (.cells ⟨[.string zz.1.name,zI zz.1.st,zI zz.1.no,zI zz.1.head,.bool zz.1.bold]⟩ 76 (0,0)),.l LA,.l zz.2,.l LB,.b pf (.cells ⟨[zI 2,zI 0,zI 0,.slice eo kT.length dX,.slice dJ jT.length dv,zS,zS]⟩ 94 (0,0)),.b b7 (.cells ⟨[.slice (some ⟨nS,0,none⟩) 2 2,.slice eR TZ.length dS,zS,.slice eo kT.length dX,.slice dJ jT.length dv,vR,vB,vA,zI 0,zI 0,zI 0,zS]⟩ 38 (0,0)),.b b6 (.cells ⟨zO⟩ 38 (0,0))]) (fun zz=>ak4 VS zz.1∧bK vd xs d zz.2) ?_ (fun K35 ayo=>?_)
     ·
      rintro⟨p2,X⟩ ayq rest
      dsimp only at ayq
      refine jd 4 [5,0]<|jn fun aIX=>iK (sz:=5) (ps:=Mu) (qs:=[(⟨p2.name,p2.st,p2.no,p2.head,p2.bold⟩:aB)]) (enc:=eC) (w:= .slice (some ⟨aIX,0,none⟩) 1 1) [2] [0] [(aIX,.cells ⟨([(⟨p2.name,p2.st,p2.no,p2.head,p2.bold⟩:aB)].map eC).flatten⟩ 76 (0,0))] (hA.2.1) (fun s _ hZ=>bV [(⟨p2.name,p2.st,p2.no,p2.head,p2.bold⟩:aB)] (hZ _ (.head _)) (by intro p hp;rfl)) (fun p _=>ai rfl) (by simp<;>omega) (fun baF aWa Zd=>?_)
      obtain⟨aBp,aBi,aGB⟩:=Zd.form
      subst aGB
      refine jd 5 [6]<|ja (j-1) (by omega)<|zD 2<|bF aTX (⟨j-1,(.slice aBp ((Mu++[(⟨p2.name,p2.st,p2.no,p2.head,p2.bold⟩:aB)])).length aBi),aWa,(Mu++[(⟨p2.name,p2.st,p2.no,p2.head,p2.bold⟩:aB)]),X⟩) ⟨by simp only[zM];omega,Zd,qL hA.2.2.1 ayq.1,ayq.2⟩ (by omega) [0,3,4,5,6,7] (Sub.refl _)
     refine js 161 g (fun h36=>?_) (fun h36=>?_)
     ·
      subst h36
      refine jd 8 [5,5]<|BQ hB.2.1<|ja ((uY.length:Int)-1) (by omega)<|aS 7 fun adA ael N2=>jc (vs:=[zP d,zI ((uY.length:Int)-1)]) [2] (EZ (hN.up (((bZ.trans kA).trans sj).trans iN)) aiZ.2 (by omega)) ?_
      rintro _ bgz ⟨adV,rfl,aYk,YU,aHF⟩
      refine gx N2 [[5],[5]] ?_
      obtain⟨Eo,RA⟩:=zG uY (adV.toNat) (by have:=aiZ.1 rfl;omega)
      refine mW adV 5 hB.2.1 RA (Int.toNat_of_nonneg (show 0≤adV∧adV <((uY).length:Int) from (by have:=aiZ.1 rfl;omega)).1).symm (fun bfM aGZ=>?_)
      refine ki 0 [3] LB (fun s _ hZ=>bh hB.2.1 aGZ hZ RA)<|aS 10 fun adz aek V6=>jd 1 [1]<|fW V6<|zD 5<|jc (vs:=[zP d,zI 3]) [0] (tB (hN.up (((bZ.trans kA).trans sj).trans iN)) aHF (by omega)) ?_
      rintro _ aVD ⟨aLN,rfl,ar3⟩
      refine zD 1<|EG [1,1,1,1,1,1,1,0,1,0,0,1,0,0,1,1,2,1,0,1,1] [K32,K35] (fun(zz:Int×Cells)=>[(0,zP d),(2,zI nf),(6,zP b6),(7,zP b7),(10,zP pf),(13,zI j),(14,zP b14)]) (fun zz=>[.b b14 (.cells ⟨[.string Eo.name,zI Eo.st,zI zz.1,zI Eo.head,.bool Eo.bold]⟩ 76 (0,0)),.l LA,.l zz.2,.l LB,.b pf (.cells ⟨[zI 2,zI 0,zI 0,.slice eo kT.length dX,.slice dJ jT.length dv,zS,zS]⟩ 94 (0,0)),.b b7 (.cells ⟨[.slice (some ⟨nS,0,none⟩) 2 2,.slice eR TZ.length dS,zS,.slice eo kT.length dX,.slice dJ jT.length dv,vR,vB,vA,zI 0,zI 0,zI 0,zS]⟩ 38 (0,0)),.b b6 (.cells ⟨zO⟩ 38 (0,0))]) (fun zz=>(1≤zz.1∧zz.1≤3)∧bK vd xs d zz.2) ?_ (fun K38 aHn=>?_)
      ·
       rintro⟨q,X⟩ ao6 rest
       dsimp only at ao6
       have hO:=hB.2.2.1 _ (zL RA)
       have hO2:=hO.1.2.2.1
       have hO3:=hO.2
       refine zD 3<|jc (vs:=[zP d,zI 4]) [2] (tB (hN.up (((bZ.trans kA).trans sj).trans iN)) ao6.2 (by omega)) ?_
       rintro _ aJf ⟨aLL,rfl,ar2⟩
       refine zD 1<|js 178 aLL (fun h39=>?_) (fun h39=>?_)
       ·
        subst h39
        refine jd 5 [1]<|bF ayo ⟨⟨Eo.name,Eo.st,q,-1,Eo.bold⟩,aJf⟩ ⟨⟨⟨hO.1.1,.inl rfl,hO.1.2.2.1,hO.1.2.2.2⟩,ao6.1⟩,ar2⟩ Nat.zero_lt_one [1,2,0,3,4,5,6] (Sub.refl _)
       subst h39
       refine zD 2<|bF ayo ⟨⟨Eo.name,Eo.st,q,Eo.head,Eo.bold⟩,aJf⟩ ⟨⟨⟨hO.1.1,hO.1.2.1,hO.1.2.2.1,hO.1.2.2.2⟩,ao6.1⟩,ar2⟩ Nat.zero_lt_one [1,2,0,3,4,5,6] (Sub.refl _)
      refine js 173 aLN (fun h40=>?_) (fun h40=>?_)
      ·
       subst h40
       have hO:=hB.2.2.1 _ (zL RA)
       have hO2:=hO.1.2.2.1
       have hO3:=hO.2
       refine zD 3<|jc (vs:=[zP d,zI 1,zI 3]) [0] (Bu (hN.up (((bZ.trans kA).trans sj).trans iN)) ar3 (by omega) (by omega)) ?_
       rintro _ aVC ⟨aLM,rfl,aYj,ahe,aHE⟩
       refine jd 3 [1]<|bF aHn ⟨aLM,aVC⟩ ⟨by dsimp only;omega,aHE⟩ Nat.zero_lt_one [1,2,0,3,4,5,6] (Sub.refl _)
      subst h40
      have hO:=hB.2.2.1 _ (zL RA)
      have hO2:=hO.1.2.2.1
      have hO3:=hO.2
      refine zD 2<|bF aHn ⟨Eo.no,aVD⟩ ⟨by dsimp only;omega,ar3⟩ Nat.zero_lt_one [1,2,0,3,4,5,6] (Sub.refl _)
     subst h36
     refine zD 2<|bF ayo ⟨⟨pp.name,pp.st,aBd,pp.head,false⟩,X⟩ ⟨⟨⟨ai0.1.1,ai0.1.2.1,ai0.1.2.2,rfl⟩,by dsimp only;omega⟩,aiZ.2⟩ Nat.zero_lt_one (zN 0 7) (Sub.refl _)
    refine jd 3 [5]<|BQ hB.2.1<|zD 2<|js 157 (decide ((uY.length:Int)>0)) (fun h41=>?_) (fun h41=>?_)
    ·
     have aja:=h41
     replace aja:=of_decide_eq_true aja
     refine zD 1<|jc (vs:=[zP d,zI 3]) [0] (tB (hN.up (((bZ.trans kA).trans sj).trans iN)) ar4 (by omega)) ?_
     rintro _ aVF ⟨aLP,rfl,aHG⟩
     refine zD 3<|bF aHo ⟨!aLP,aVF⟩ ⟨fun _=>by omega,aHG⟩ Nat.zero_lt_one [1,2,0,3,4,5,6] (Sub.refl _)
    have aja:=h41
    replace aja:=of_decide_eq_false aja
    refine zD 5<|bF aHo ⟨false,aVG⟩ ⟨(fun h=>by cases h),ar4⟩ Nat.zero_lt_one [1,2,0,3,4,5,6] (Sub.refl _)
   refine jd 4 [3]<|I5 [3,5] ⟨fun z39 t40 aiS=>?_,fun z42 t43 aTT=>?_,trivial⟩
   ·
    refine jc [1] (ZN (hN.up (((bZ.trans kA).trans sj).trans iN)) hA.2.2.2) ?_
    rintro _ aVH ⟨amh,rfl,YZ,Zy⟩
    refine gx aiS [[3]]<|I5 [4,5] ⟨fun z45 t46 aTS=>?_,fun z48 t49 aiR=>?_,trivial⟩
    ·
     refine jc (vs:=[zP d,.agg ⟨[zI 2,zI 0,zI 0,.slice eo kT.length dX,.slice dJ jT.length dv,zS,zS]⟩,.string amh]) [0] (xK (hN.up (((bZ.trans kA).trans sj).trans iN)) Zy ((((show bB _ _ _ _ _ from ⟨dJ,u5,u4,dv,rfl,xq,qX,qW⟩).up kA).up sj).up iN) (by have:=C4.len;have:=HS.nh;omega)) ?_
     rintro _ akY ⟨aBe,rfl,RV,RI,Sa,Sr⟩
     refine fW aTS<|aS 5 fun aqd aqy aiQ=>jn fun b14=>fW aiQ<|aS 6 fun aqc aqx aiP=>jd 1 [0]<|fW aiP<|zD 1<|bF ayp ⟨b14,_,akY⟩ ⟨⟨RV▸YZ,xD C4 Sa,RI⟩,Sr⟩ Nat.zero_lt_one [0,2,1,3,4,5,6] (Sub.refl _)
    refine jn fun b14=>eG aiR (zN 1 6)<|aS 4 fun aqb aqw aiO=>jc (vs:=[zP d,.agg ⟨[zI 2,zI 0,zI 0,.slice eo kT.length dX,.slice dJ jT.length dv,zS,zS]⟩,.string amh]) [1] (xK (hN.up (((bZ.trans kA).trans sj).trans iN)) Zy ((((show bB _ _ _ _ _ from ⟨dJ,u5,u4,dv,rfl,xq,qX,qW⟩).up kA).up sj).up iN) (by have:=C4.len;have:=HS.nh;omega)) ?_
    rintro _ akY ⟨aBe,rfl,RV,RI,Sa,Sr⟩
    refine fW aiO<|aS 6 fun aqa aqv aiN=>jd 1 [1]<|fW aiN<|zD 1<|bF ayp ⟨b14,_,akY⟩ ⟨⟨RV▸YZ,xD C4 Sa,RI⟩,Sr⟩ Nat.zero_lt_one [1,2,0,3,4,5,6] (Sub.refl _)
   refine jn fun b14=>eG aTT (zN 1 6)<|aS 3 fun ap9 aqu aiM=>jc [2] (ZN (hN.up (((bZ.trans kA).trans sj).trans iN)) hA.2.2.2) ?_
   rintro _ aVH ⟨amh,rfl,YZ,Zy⟩
   refine gx aiM [[4]]<|aS 4 fun ap8 aqt aiL=>jc (vs:=[zP d,.agg ⟨[zI 2,zI 0,zI 0,.slice eo kT.length dX,.slice dJ jT.length dv,zS,zS]⟩,.string amh]) [0] (xK (hN.up (((bZ.trans kA).trans sj).trans iN)) Zy ((((show bB _ _ _ _ _ from ⟨dJ,u5,u4,dv,rfl,xq,qX,qW⟩).up kA).up sj).up iN) (by have:=C4.len;have:=HS.nh;omega)) ?_
   rintro _ akY ⟨aBe,rfl,RV,RI,Sa,Sr⟩
   refine fW aiL<|aS 6 fun ap7 aqs aiK=>jd 1 [1]<|fW aiK<|zD 1<|bF ayp ⟨b14,_,akY⟩ ⟨⟨RV▸YZ,xD C4 Sa,RI⟩,Sr⟩ Nat.zero_lt_one [1,2,0,3,4,5,6] (Sub.refl _)
  refine zD 4<|jf [2,0] (LB++LA) (fun baX wA aGi=>?_)
  have hb:=hB.2.1.jF (Knows.left aGi)
  have ha:=hA.2.1.jF (Knows.right aGi)
  have hBF:=hb
  have hAF:=ha
  obtain⟨mw,Qv,Qt,mo,rfl,Qu,O6,O5⟩:=hb
  obtain⟨lO,M9,M7,lH,rfl,M8,KH,KG⟩:=ha
  refine zD 2<|jc (vs:=[zP d,zI 4]) [0] (EZ (hN.up ((((bZ.trans kA).trans sj).trans iN).trans wA)) hA.2.2.2 (by omega)) ?_
  rintro _ bgy ⟨amg,rfl,aYi,aYa,aHD⟩
  refine jn fun aIW=>jcL (vs:=[zP d,.slice (some ⟨aIW,0,none⟩) 4 4]) [1] [0] [(aIW,.cells ⟨([1,2,4,amg].map cy).flatten⟩ 3 (0,0))] (fun aG hs hZ=>akm ((hN.up ((((bZ.trans kA).trans sj).trans iN).trans wA)).up hs) aHD (bU [1,2,4,amg] hZ.head (by intro p hp;rfl)) (by simp)) ?_
  rintro _ bgx ⟨adU,rfl,aEY,aHC⟩
  refine zD 2<|jc (vs:=[zP d,zI 4]) [0] (EZ (hN.up ((((bZ.trans kA).trans sj).trans iN).trans wA)) aHC (by omega)) ?_
  rintro _ bgw ⟨amf,rfl,aYh,aX9,aHB⟩
  refine jn fun aIV=>jcL (vs:=[zP d,.slice (some ⟨aIV,0,none⟩) 4 4]) [1] [0] [(aIV,.cells ⟨([1,2,4,amf].map cy).flatten⟩ 3 (0,0))] (fun aG hs hZ=>akm ((hN.up ((((bZ.trans kA).trans sj).trans iN).trans wA)).up hs) aHB (bU [1,2,4,amf] hZ.head (by intro p hp;rfl)) (by simp)) ?_
  rintro _ bgv ⟨adT,rfl,aEX,aHA⟩
  refine zD 2<|jc (vs:=[zP d,zI 4]) [0] (EZ (hN.up ((((bZ.trans kA).trans sj).trans iN).trans wA)) aHA (by omega)) ?_
  rintro _ bgu ⟨ame,rfl,aYg,aX8,aHz⟩
  refine jn fun aIU=>jcL (vs:=[zP d,.slice (some ⟨aIU,0,none⟩) 4 4]) [1] [0] [(aIU,.cells ⟨([1,2,4,ame].map cy).flatten⟩ 3 (0,0))] (fun aG hs hZ=>akm ((hN.up ((((bZ.trans kA).trans sj).trans iN).trans wA)).up hs) aHz (bU [1,2,4,ame] hZ.head (by intro p hp;rfl)) (by simp)) ?_
  rintro _ bgt ⟨adR,rfl,aEW,aHy⟩
  refine jd 6 [5,5,5] ?_
  have An:=avp aEY (by omega:0≤amg∧amg≤4)
  have zi:=avp aEX (by omega:0≤amf∧amf≤4)
  have nK:=avp aEW (by omega:0≤ame∧ame≤4)
  refine zD 6<|jc (vs:=[zP d,zI nf]) [0] (EZ (hN.up ((((bZ.trans kA).trans sj).trans iN).trans wA)) aHy (by omega)) ?_
  rintro _ aVB ⟨aLK,rfl,aYf,aX7,aHx⟩
  refine zD 3<|nI<|dw [1,1,1,1,1,1,1,1,1,0,1,0,0] [] (fun(zz:Int×Value×Cells×(List bM)×Cells)=>[(0,zP d),(6,zP b6),(7,zP b7),(15,zI zz.1)]) (fun zz=>[.l zz.2.2.1,.l zz.2.2.2.2,.b pf (.cells ⟨[zI 2,zI 0,zI 0,.slice eo kT.length dX,.slice dJ jT.length dv,zS,zS]⟩ 94 (0,0)),.b b7 (.cells ⟨[.slice (some ⟨nS,0,none⟩) 2 2,.slice eR TZ.length dS,zS,.slice eo kT.length dX,.slice dJ jT.length dv,vR,.slice mw uY.length mo,.slice lO Mu.length lH,zI adU,zI adT,zI adR,zz.2.1]⟩ 38 (0,0)),.b b6 (.cells ⟨zO⟩ 38 (0,0))]) (fun zz=>(0≤zz.1∧zz.2.2.2.1.length+zz.1≤nf)∧aw zz.2.1 3 100 mY zz.2.2.2.1 zz.2.2.1∧BL uY.length Mu.length zz.2.2.2.1∧bK vd xs d zz.2.2.2.2) (fun zz=>zz.1.toNat) (⟨aLK,zS,[],[],aVB⟩) ⟨by simp only[List.length_nil];omega,aw.nil _ _ _,⟨(fun _ h=>by cases h),List.Pairwise.nil⟩,aHx⟩ [0,1,5,6,7] ?_
  rintro⟨j,vF,LF,fs,X⟩ hF K58 aHm rest
  dsimp only at hF
  have aw3:=hB.1
  have aYz:=hA.1
  refine zD 6<|jj 5 [(0,zP d),(6,zP b6),(7,zP b7),(15,zI j),(214,.bool ((decide (j>0))&&(decide ((uY.length:Int)>0))))] (fun gI=>?_) (fun hj=>?_)
  rotate_left
  refine js 209 (decide (j>0)) (fun h56=>?_) (fun h56=>?_)
  ·
   have ai9:=h56
   replace ai9:=of_decide_eq_true ai9
   refine jd 5 [3]<|jw 214 (.bool ((decide (j>0))&&(decide ((uY.length:Int)>0)))) (w:= .bool (decide ((uY.length:Int)>0))) (by rw[h56]<;>rfl) ?_
   exact zK hj
  ·
   have ai9:=h56
   replace ai9:=of_decide_eq_false ai9
   refine zD 5<|jw 214 (.bool ((decide (j>0))&&(decide ((uY.length:Int)>0)))) (w:= .bool false) (by rw[h56]<;>rfl) ?_
   exact zK hj
  refine zD 1<|jj 5 [(0,zP d),(6,zP b6),(7,zP b7),(15,zI j),(220,.bool (((decide (j>0))&&(decide ((uY.length:Int)>0)))&&(decide ((Mu.length:Int)>0))))] (fun gI=>?_) (fun hj=>?_)
  rotate_left
  refine js 215 ((decide (j>0))&&(decide ((uY.length:Int)>0))) (fun h57=>?_) (fun h57=>?_)
  ·
   have ayw:=h57
   try simp only[zB] at ayw
   refine jd 5 [3]<|jw 220 (.bool (((decide (j>0))&&(decide ((uY.length:Int)>0)))&&(decide ((Mu.length:Int)>0)))) (w:= .bool (decide ((Mu.length:Int)>0))) (by rw[h57]<;>rfl) ?_
   exact zK hj
  ·
   have ayw:=h57
   try simp only[zB] at ayw
   refine zD 5<|jw 220 (.bool (((decide (j>0))&&(decide ((uY.length:Int)>0)))&&(decide ((Mu.length:Int)>0)))) (w:= .bool false) (by rw[h57]<;>rfl) ?_
   exact zK hj
  refine zD 1<|js 220 (((decide (j>0))&&(decide ((uY.length:Int)>0)))&&(decide ((Mu.length:Int)>0))) (fun h58=>?_) (fun h58=>?_)
  ·
   try simp only[zB] at h58
   refine jd 8 [3]<|jc (vs:=[zP d,.agg ⟨[.slice (some ⟨nS,0,none⟩) 2 2,.slice eR TZ.length dS,zS,.slice eo kT.length dX,.slice dJ jT.length dv,vR,.slice mw uY.length mo,.slice lO Mu.length lH,zI adU,zI adT,zI adR,vF]⟩]) [1] (aUT (hN.up ((((bZ.trans kA).trans sj).trans iN).trans wA)) hF.2.2.2 (show bB _ _ _ _ _ from ⟨mw,Qv,Qt,mo,rfl,Qu,O6,O5⟩) (show bB _ _ _ _ _ from ⟨lO,M9,M7,lH,rfl,M8,KH,KG⟩) (by omega)) ?_
   rintro _ aJe ⟨p7,rfl,aYN,aYM,ar1⟩
   refine jn fun b16=>jd 6 [0,4,0]<|jp (vs:=[.agg ⟨[.slice (some ⟨nS,0,none⟩) 2 2,.slice eR TZ.length dS,zS,.slice eo kT.length dX,.slice dJ jT.length dv,vR,.slice mw uY.length mo,.slice lO Mu.length lH,zI adU,zI adT,zI adR,vF]⟩,.agg ⟨[zI p7.a,zI p7.b,.bool p7.same]⟩]) [2] LF (fun aG hs hZ=>aEu (x:=⟨p7.a,p7.b,p7.same⟩) (hF.2.1.jF hZ) (by omega))<|zD 2<|js 229 (!(DF fs p7.a p7.b)) (fun h59=>?_) (fun h59=>?_)
   ·
    try simp only[zB] at h59
    refine jd 5 [4,0]<|jn fun aIS=>iK (sz:=3) (ps:=fs) (qs:=[(⟨p7.a,p7.b,p7.same⟩:bM)]) (enc:=mY) (w:= .slice (some ⟨aIS,0,none⟩) 1 1) [3] [0] [(aIS,.cells ⟨([(⟨p7.a,p7.b,p7.same⟩:bM)].map mY).flatten⟩ 100 (0,0))] (hF.2.1) (fun s _ hZ=>bV [(⟨p7.a,p7.b,p7.same⟩:bM)] (hZ _ (.head _)) (by intro p hp;rfl)) (fun p _=>ai rfl) (by simp<;>omega) (fun baD aV9 Zc=>?_)
    obtain⟨aBo,aBh,aGA⟩:=Zc.form
    subst aGA
    refine jd 5 [5]<|ja (j-1) (by omega)<|zD 2<|bF aHm (⟨j-1,(.slice aBo ((fs++[(⟨p7.a,p7.b,p7.same⟩:bM)])).length aBh),aV9,(fs++[(⟨p7.a,p7.b,p7.same⟩:bM)]),aJe⟩) ⟨by simp only[zM];omega,Zc,BL.snoc hF.2.2.1 (by dsimp only;omega) (by dsimp only;omega) (by assumption),ar1⟩ (by omega) [0,3,4,5,6] (Sub.refl _)
   try simp only[zB] at h59
   refine zD 4<|ja (j-1) (by omega)<|zD 2<|bF aHm (⟨j-1,vF,LF,fs,aJe⟩) ⟨by dsimp only;omega,hF.2.1,hF.2.2.1,ar1⟩ (by omega) [2,1,3,4,5] (Sub.refl _)
  try simp only[zB] at h58
  refine zD 4<|jf [0] LF (fun baW Vs aRR=>?_)
  have hFA:=hF.2.1.jF aRR
  refine jd 1 [2] ?_
  obtain⟨aMm,aL2,aSq⟩:=hR.2.1.form
  subst aSq
  obtain⟨aMl,aL1,aSp⟩:=hF.2.1.form
  subst aSp
  refine jd 3 [3]<|aK q0.a.a.a.a.a.a (.agg ⟨[.slice (some ⟨nS,0,none⟩) 2 2,.slice eR TZ.length dS,zS,.slice eo kT.length dX,.slice dJ jT.length dv,(.slice aMm (rs).length aL2),.slice mw uY.length mo,.slice lO Mu.length lH,zI adU,zI adT,zI adR,(.slice aMl (fs).length aL1)]⟩) [3] [0] X (Sub.refl _) ⟨_,_,X,rfl,rfl,(((((bZ.trans kA).trans sj).trans iN).trans wA).trans Vs),⟨ways,kT,VS,rs,uY,Mu,adU,adT,adR,fs,yR⟩,_,rfl,⟨TS.2.1,HS,⟨by dsimp only;omega,hR.2.2⟩,⟨by dsimp only;omega,hB.2.2.1⟩,⟨by dsimp only;omega,hA.2.2.1⟩,⟨An,zi,nK⟩,⟨by dsimp only;omega,hF.2.2.1.1⟩,hF.2.2.1.2,rfl⟩,(by dsimp only;omega),⟨_,_,_,_,_,_,_,_,none,0,jT,rfl,(aTy.up (((sj.trans iN).trans wA).trans Vs)),(aHj.up ((iN.trans wA).trans Vs)),(pY.up ((((kA.trans sj).trans iN).trans wA).trans Vs)),C4,(hRU.up (wA.trans Vs)),(hBF.up Vs),(hAF.up Vs),hFA⟩,hF.2.2.2⟩
 refine js 30 w30 (fun h65=>?_) (fun h65=>?_)
 ·
  subst h65
  refine jd 7 [1]<|aS 4 fun aWt aWU aTR=>jc [0] (aIs (hN.up (bZ.trans kA)) aHv) ?_
  rintro _ X35 ⟨uJ,rfl,aEV,aUf⟩
  refine gx aTR [[1]]<|aS 5 fun aWs aWT aTQ=>jn fun q6=>eG aTQ [1,2,3]<|zD 1<|aS 7 fun aWr aWS aTP=>jn fun b38=>eG aTP (zN 1 4)<|aS 8 fun aWq aWR aTO=>aPT (E:=89) (sz:=1) fw (qs:=[(.slice (some ⟨q6,0,none⟩) 1 1:Value)]) (w:= .slice (some ⟨b38,0,none⟩) 1 1) [0] [(b38,.cells ⟨([(.slice (some ⟨q6,0,none⟩) 1 1:Value)].map fw).flatten⟩ 89 (0,0))] (fun s _ hZ=>bV [(.slice (some ⟨q6,0,none⟩) 1 1:Value)] (hZ _ (.head _)) (by intro p hp;rfl)) (by intro p hp;rw[List.mem_singleton] at hp;subst hp;exact ai rfl) (by simp<;>omega) (fun v39 L39 CV=>?_)
  obtain⟨aBn,aBg,aiq⟩:=CV.form
  subst aiq
  refine eG aTO (zN 1 5)<|zD 2<|aS 11 fun aWp aWQ aTN=>jd 1 [4]<|gx aTN []<|zD 4<|jc (vs:=[zP d,zI 2]) [3] (tB (hN.up (bZ.trans kA)) aUf (by omega)) ?_
  rintro _ X43 ⟨w43,rfl,aHu⟩
  refine zD 1<|js 43 w43 (fun h71=>?_) (fun h71=>?_)
  ·
   subst h71
   refine jd 8 [4,4]<|Af 1 CV (show ([(.slice (some ⟨q6,0,none⟩) 1 1:Value)])[0]?=some (.slice (some ⟨q6,0,none⟩) 1 1:Value) from rfl) fun b50 aS8=>zD 1<|ki 0 [1] L39 (fun s _ hZ=>bh CV aS8 hZ (show ([(.slice (some ⟨q6,0,none⟩) 1 1:Value)])[0]?=some (.slice (some ⟨q6,0,none⟩) 1 1:Value) from rfl))<|zD 1<|aS 10 fun aWo aWP aTM=>jc [0] (aIs (hN.up (bZ.trans kA)) aHu) ?_
   rintro _ X54 ⟨vq,rfl,aQm,aUc⟩
   refine gx aTM [[1],[4],[4]]<|aS 11 fun aWn aWO aTL=>jn fun b55=>eG aTL (zN 1 6)<|aS 12 fun aWm aWN aTK=>iK (sz:=7) (ps:=[(⟨uJ.k,uJ.st,uJ.ot,uJ.fn,uJ.fl,uJ.tn,uJ.tl⟩:aN)]) (qs:=[(⟨vq.k,vq.st,vq.ot,vq.fn,vq.fl,vq.tn,vq.tl⟩:aN)]) (enc:=kS) (w:= .slice (some ⟨b55,0,none⟩) 1 1) [4] [0] [(b55,.cells ⟨([(⟨vq.k,vq.st,vq.ot,vq.fn,vq.fl,vq.tn,vq.tl⟩:aN)].map kS).flatten⟩ 85 (0,0))] (AT (b:=q6) (T:=85) [(⟨uJ.k,uJ.st,uJ.ot,uJ.fn,uJ.fl,uJ.tn,uJ.tl⟩:aN)] rfl (by intro p hp;rfl)) (fun s _ hZ=>bV [(⟨vq.k,vq.st,vq.ot,vq.fn,vq.fl,vq.tn,vq.tl⟩:aN)] (hZ _ (.head _)) (by intro p hp;rfl)) (fun p _=>ai rfl) (by simp<;>omega) (fun v56 L56 qo=>?_)
   obtain⟨PG,PD,VK⟩:=qo.form
   subst VK
   refine gx aTK [[5],[5]]<|Af 1 CV (show ([(.slice (some ⟨q6,0,none⟩) 1 1:Value)])[0]?=some (.slice (some ⟨q6,0,none⟩) 1 1:Value) from rfl) fun b57 ax1=>zD 1<|aS 15 fun aWl aWM aTJ=>Fp 3 0 [(.slice PG (([(⟨uJ.k,uJ.st,uJ.ot,uJ.fn,uJ.fl,uJ.tn,uJ.tl⟩:aN)]++[(⟨vq.k,vq.st,vq.ot,vq.fn,vq.fl,vq.tn,vq.tl⟩:aN)])).length PD)] ((.slice PG (([(⟨uJ.k,uJ.st,uJ.ot,uJ.fn,uJ.fl,uJ.tn,uJ.tl⟩:aN)]++[(⟨vq.k,vq.st,vq.ot,vq.fn,vq.fl,vq.tn,vq.tl⟩:aN)])).length PD):Value) CV ax1 (show ([(.slice (some ⟨q6,0,none⟩) 1 1:Value)])[0]?=some (.slice (some ⟨q6,0,none⟩) 1 1:Value) from rfl) rfl rfl (Nat.le_of_ble_eq_true rfl) fun L76 aRe=>gx aTJ []<|zD 1<|JG bG ⟨(.slice aBn ([(.slice (some ⟨q6,0,none⟩) 1 1:Value)]).length aBg),L76++L56,[[uJ,vq]],X54⟩ ⟨fun _ hk=>⟨_,aRe.jF hk.left,.cons (qo.jF hk.right) .nil⟩,⟨by simp,by simpa using ⟨aEV,aQm⟩⟩,aUc⟩ Nat.zero_lt_one [[0,1],[3],[5],[6]] (Sub.refl _)
  subst h71
  refine zD 2<|JG bG ⟨(.slice aBn ([(.slice (some ⟨q6,0,none⟩) 1 1:Value)]).length aBg),L39++[(q6,.cells ⟨[zI uJ.k,zI uJ.st,zI uJ.ot,zI uJ.fn,zI uJ.fl,zI uJ.tn,zI uJ.tl]⟩ 85 (0,0))],[[uJ]],X43⟩ ⟨fun _ hk=>⟨_,CV.jF hk.left,.cons (bU [uJ] (hk.right _ (.head _)) (fun _ _=>rfl)) .nil⟩,⟨by simp,by simpa using aEV⟩,aHu⟩ Nat.zero_lt_one [[1,3],[0],[4],[5]] (Sub.refl _)
 subst h65
 refine zD 2<|nI<|bF bG ⟨zS,[],[],X30⟩ ⟨fun _ _=>Ul,⟨by simp,by simp⟩,aHv⟩ Nat.zero_lt_one (zN 0 4) (Sub.refl _)
theorem aUV{xs:List Int}(hl:bB ro vd 1 cy xs):dG zT 7 [vd] ro [] (fun r Y=>∃d,r= zP d∧bK vd xs d Y):=by
 obtain⟨fy,rX,rV,eO,rfl,tT,lN,mC⟩:=hl
 refine zE<|zD 8<|jn fun b5=>zD 3<|zR (zP b5) [] [0] [(b5,.cells ⟨[.slice fy xs.length eO,zI 0,zU 11400714819323198485]⟩ 105 (0,0))] ⟨_,rfl,0,_,Nat.zero_le _,rfl⟩
theorem de.set{R:α→β→Prop}{l:List α}{m:List β}(h:de R l m){a:α}{b:β}(hb:m[k]?=some b) (hr:R a b):de R (l.set k a) m:=by
 induction h generalizing k with
 |nil=>simp at hb
 |cons h1 h2 ih=>
  cases k with
  |zero=>simp at hb;subst hb;exact .cons hr h2
  |succ k=>exact .cons h1 (ih (by simpa using hb))
theorem de.mem{R:α→β→Prop}{l:List α}{m:List β}(h:de R l m){a:α}(ha:a∈l):∃b∈m,R a b:=by
 obtain⟨i,hi⟩:=List.getElem?_of_mem ha
 obtain⟨b,hb,hr⟩:=h.get hi
 exact⟨b,zL hb,hr⟩
theorem mH{hv:List bx}(h:de (rM ro) hv hd):∀p∈hv,∀c∈mf p,single c=true:=fun p hp=>by
 obtain⟨y,_,h1⟩:=h.mem hp
 obtain⟨w,c,s,a⟩:=p
 obtain⟨_,_,_,_,e,_⟩:=h1.2.2.2
 dsimp only at e
 subst e
 exact ai rfl
theorem SU{hw:List bx}{Z L:Cells}{v:Value}{x x':bx}{y:cA}(h:∀aD,Sub ro aD→Knows aD Z→de (rM aD) hw hd)(hS:de dq hw hd)(hx:hw[k]?=some x) (k7:hw[k]?=some x') (hy:hd[k]?=some y) (ho:aw v 1 3 cy y.dV L):
 (∀aD,Sub ro aD→Knows aD (L++Z)→de (rM aD) (hw.set k ⟨x'.word,x'.cls,x'.ou,v⟩) hd)∧de dq (hw.set k ⟨x'.word,x'.cls,x'.ou,v⟩) hd:=by
 rw[hx] at k7;cases k7
 obtain⟨y',h1,h2⟩:=hS.get hx
 rw[hy] at h1;cases h1
 exact⟨fun aD hs hk=>(h aD hs hk.right).set hy ⟨h2.1,h2.2.1,h2.2.2,ho.jF hk.left⟩,hS.set hy h2⟩
theorem acz{l m:List α}{a:α}(h:l.drop k=m.drop k):(l.set k a).drop (k+1)=m.drop (k+1):=by
 have h1:=congrArg (List.drop 1) h
 rw[List.drop_drop,List.drop_drop] at h1
 rw[List.drop_set_of_lt (by omega)]
 exact h1
theorem akh{l m:List α}{a:α}(h:l.drop k=m.drop k)(ha:l[k]?=some a):m[k]?=some a:=by
 have h1:=congrArg (fun q=>q[0]?) h
 simp only[List.getElem?_drop,Nat.add_zero] at h1
 rw[←h1];exact ha
theorem ui{hv:List bx}(hT:aai cs hd)(hR:jh ro vc vh cs hv hd)(hS:de dq hv hd):dG zT 101 [.agg ⟨[vc,vh]⟩] ro [] (fun r Y=>∃(hw:List bx) (ca ha:Option Addr) (cc hc:Nat) (Z:Cells),r= .agg ⟨[.slice ca cs.length cc,.slice ha hw.length hc]⟩∧de dq hw hd∧(∀aD,Sub ro aD→Knows aD Z→jh aD (.slice ca cs.length cc) (.slice ha hw.length hc) cs hw hd)∧Y=Z):=by
 obtain⟨hc,hh,di⟩:=id hR
 obtain⟨eo,AO,AN,dX,rfl,DK,yP,yO⟩:=hc
 obtain⟨dJ,u5,u4,dv,rfl,xq,qX,qW⟩:=hh
 have hlen:=hS.len
 have hnh:=hT.nh
 have DX:=hT.nc
 refine zE<|zD 2<|jn fun b1=>jn fun b2=>zD 2<|EG [1,1] [] (fun(zz:Value×Cells×Value×Cells)=>[(1,zP b1),(2,zP b2)]) (fun zz=>[.b b1 (.cells ⟨[zz.1,zz.2.2.1]⟩ 33 (0,0)),.l zz.2.1,.l zz.2.2.2,.b b2 (.cells ⟨[zS,zS]⟩ 33 (0,0))]) (fun zz=>aw zz.1 2 170 pe cs zz.2.1∧aw zz.2.2.1 4 173 mf hv zz.2.2.2) ?_ (fun K1 bG=>?_)
 ·
  rintro⟨vC,LC,vH,LH⟩ hJ rest
  dsimp only at hJ
  refine zD 6<|nI<|dw [1,1,0,1,0,0] [] (fun(zz:Nat×Value×Cells×(List bx)×Cells)=>[(1,zP b1),(2,zP b2),(3,zI (zz.1:Int))]) (fun zz=>[.b b1 (.cells ⟨[vC,zz.2.1]⟩ 33 (0,0)),.l zz.2.2.1,.l zz.2.2.2.2,.l LC,.b b2 (.cells ⟨[zS,zS]⟩ 33 (0,0))]) (fun zz=>(zz.1≤zz.2.2.2.1.length∧zz.2.2.2.1.length=hv.length∧zz.2.2.2.1.drop zz.1=hv.drop zz.1)∧aw zz.2.1 4 173 mf zz.2.2.2.1 zz.2.2.1∧(∀aD,Sub ro aD→Knows aD zz.2.2.2.2→de (rM aD) zz.2.2.2.1 hd)∧de dq zz.2.2.2.1 hd) (fun zz=>hv.length-zz.1) (⟨0,vH,LH,hv,[]⟩) ⟨⟨by omega,rfl,rfl⟩,hJ.2,fun _ hs _=>(hR.up hs).2.2,hS⟩ [1,3,0,2,4] ?_
  rintro⟨k,vH,LH,hw,Z⟩ hI K2 jV rest
  dsimp only at hI
  refine jd 6 [0]<|BQ hI.2.1<|zD 2<|zJ 18 ((k:Int) <(hw.length:Int)) (fun h1=>?_) fun h1=>?_
  ·
   refine jd 11 [0,0] ?_
   obtain⟨x27,CN⟩:=zG hw k
   refine Af 4 hI.2.1 CN fun b27 ax5=>zD 1<|ki 3 [1] LH (fun s _ hZ=>bh hI.2.1 ax5 hZ CN)<|aS 9 (fun oP oR nK=>?_)
   obtain⟨y27,av5,aQZ⟩:=hR.2.2.get (akh hI.1.2.2 CN)
   have aYL:=(hT.Bc _ _ av5).2.2.1.1
   refine jc (vs:=[x27.dV]) [] (Rs aQZ.2.2.2 (by omega)) ?_
   rintro v30 L30 ⟨_,uv,rfl⟩
   refine eG nK (zN 1 5) ?_
   obtain⟨x31,NM⟩:=zG hw k
   refine Af 4 hI.2.1 NM fun Jl aTg=>zD 1<|aS 12 (fun qU qV pK=>?_)
   obtain⟨va4,vc4,he4⟩:=uv.form
   subst he4
   refine Fp 2 3 [(.slice va4 (y27.dV).length vc4)] (⟨x31.word,x31.cls,x31.ou,(.slice va4 (y27.dV).length vc4)⟩:bx) hI.2.1 aTg NM rfl rfl (Nat.le_of_ble_eq_true rfl) fun L5 ho6=>gx pK []<|zD 3<|ja ((k:Int)+1) (by omega)<|zD 2<|JG jV (⟨k+1,vH,L5,(hw.set k (⟨x31.word,x31.cls,x31.ou,(.slice va4 (y27.dV).length vc4)⟩:bx)),L30++Z⟩) ⟨⟨by rw[List.length_set];omega,by rw[List.length_set];exact hI.1.2.1,acz hI.1.2.2⟩,ho6,(SU hI.2.2.1 hI.2.2.2 CN NM av5 uv).1,(SU hI.2.2.1 hI.2.2.2 CN NM av5 uv).2⟩ (by omega) [[2],[0],[1,3],[4],[5]] (Sub.refl _)
  refine jd 5 [0] ?_
  obtain⟨O2,O1,NU⟩:=hJ.1.form
  subst NU
  obtain⟨va8,vc8,he8⟩:=hI.2.1.form
  subst he8
  refine jd 3 [4]<|zR (.agg ⟨[(.slice O2 (cs).length O1),(.slice va8 (hw).length vc8)]⟩) [4] [1,2,3] (LH++(Z++LC)) ⟨hw,_,_,_,_,_,rfl,hI.2.2.2,fun aD hs hk=>⟨hJ.1.jF hk.right.right,hI.2.1.jF hk.left,hI.2.2.1 aD hs hk.right.left⟩,rfl⟩
 refine jd 5 [1,1]<|I5 [0,4] ⟨fun z5 t6 N1=>?_,fun z8 t9 wC=>?_,trivial⟩
 ·
  refine jn fun b4=>eG N1 [1,2]<|I5 [3,4] ⟨fun z11 t12 N4=>?_,fun z14 t15 EU=>?_,trivial⟩
  ·
   refine iK (sz:=2) (ps:=[]) (qs:=cs) (enc:=pe) (w:= .slice eo cs.length dX) [0] [] [] (bC (b:=b4) (T:=170)) (fun s he _=>⟨eo,AO,AN,dX,rfl,yP,fun i p hp=>(yO i p hp).ext he⟩) (fun p _=>ai rfl) (by simp<;>omega) (fun v7 L7 iF=>?_)
   rw[List.nil_append] at iF
   obtain⟨O2,O1,NU⟩:=iF.form
   subst NU
   refine gx N4 [[2]]<|zD 1<|aS 4 fun Xm Xw C6=>jn fun b8=>eG C6 [1,2,3]<|aS 7 fun adE aep N3=>iK (sz:=4) (ps:=[]) (qs:=hv) (enc:=mf) (w:= .slice dJ hv.length dv) [0] [] [] (bC (b:=b8) (T:=173)) (fun s he _=>⟨dJ,u5,u4,dv,rfl,qX,fun i p hp=>(qW i p hp).ext he⟩) (mH di) (by simp only[List.length_nil,Nat.zero_add];omega) (fun v11 L11 qp=>?_)
   rw[List.nil_append] at qp
   obtain⟨aeb,ad3,ait⟩:=qp.form
   subst ait
   refine gx N3 []<|aS 9 fun aqh aqC Wc=>jd 1 [3]<|fW Wc<|zD 1<|aS 11 fun aAS aBR Wb=>jd 1 [3]<|fW Wb<|zD 1<|bF bG ⟨(.slice O2 (cs).length O1),L7,(.slice aeb (hv).length ad3),L11⟩ ⟨iF,qp⟩ Nat.zero_lt_one [3,1,0,2] (Sub.refl _)
  refine jn fun b8=>eG EU [1,2,3]<|aS 3 fun aWw aWX ao2=>iK (sz:=2) (ps:=[]) (qs:=cs) (enc:=pe) (w:= .slice eo cs.length dX) [1] [] [] (bC (b:=b4) (T:=170)) (fun s he _=>⟨eo,AO,AN,dX,rfl,yP,fun i p hp=>(yO i p hp).ext he⟩) (fun p _=>ai rfl) (by simp<;>omega) (fun v7 L7 iF=>?_)
  rw[List.nil_append] at iF
  obtain⟨O2,O1,NU⟩:=iF.form
  subst NU
  refine gx ao2 [[3]]<|zD 1<|aS 7 fun aWv aWW aiY=>iK (sz:=4) (ps:=[]) (qs:=hv) (enc:=mf) (w:= .slice dJ hv.length dv) [1] [] [] (bC (b:=b8) (T:=173)) (fun s he _=>⟨dJ,u5,u4,dv,rfl,qX,fun i p hp=>(qW i p hp).ext he⟩) (mH di) (by simp only[List.length_nil,Nat.zero_add];omega) (fun v11 L11 qp=>?_)
  rw[List.nil_append] at qp
  obtain⟨aeb,ad3,ait⟩:=qp.form
  subst ait
  refine gx aiY []<|aS 9 fun aAR aBQ Wa=>jd 1 [3]<|fW Wa<|zD 1<|aS 11 fun aWu aWV ayl=>jd 1 [3]<|fW ayl<|zD 1<|bF bG ⟨(.slice O2 (cs).length O1),L7,(.slice aeb (hv).length ad3),L11⟩ ⟨iF,qp⟩ Nat.zero_lt_one [3,1,0,2] (Sub.refl _)
 refine jn fun b8=>eG wC [1,2]<|aS 0 fun aAQ aBP V9=>jn fun b4=>eG V9 [1,2,3]<|aS 3 fun adD aeo ET=>iK (sz:=2) (ps:=[]) (qs:=cs) (enc:=pe) (w:= .slice eo cs.length dX) [0] [] [] (bC (b:=b4) (T:=170)) (fun s he _=>⟨eo,AO,AN,dX,rfl,yP,fun i p hp=>(yO i p hp).ext he⟩) (fun p _=>ai rfl) (by simp<;>omega) (fun v7 L7 iF=>?_)
 rw[List.nil_append] at iF
 obtain⟨O2,O1,NU⟩:=iF.form
 subst NU
 refine gx ET [[3]]<|zD 1<|aS 7 fun Pu PW C5=>iK (sz:=4) (ps:=[]) (qs:=hv) (enc:=mf) (w:= .slice dJ hv.length dv) [1] [] [] (bC (b:=b8) (T:=173)) (fun s he _=>⟨dJ,u5,u4,dv,rfl,qX,fun i p hp=>(qW i p hp).ext he⟩) (mH di) (by simp only[List.length_nil,Nat.zero_add];omega) (fun v11 L11 qp=>?_)
 rw[List.nil_append] at qp
 obtain⟨aeb,ad3,ait⟩:=qp.form
 subst ait
 refine gx C5 []<|aS 9 fun Pt PV HU=>jd 1 [3]<|fW HU<|zD 1<|aS 11 fun Ps PU HT=>jd 1 [3]<|fW HT<|zD 1<|bF bG ⟨(.slice O2 (cs).length O1),L7,(.slice aeb (hv).length ad3),L11⟩ ⟨iF,qp⟩ Nat.zero_lt_one [3,1,0,2] (Sub.refl _)
structure da where
 a:Int
 b:Int
 c:Int
 d:Int
 e:Int
 f:Int
abbrev mN(x:da):List Value:=[zI x.a,zI x.b,zI x.c,zI x.d,zI x.e,zI x.f]
def Tu(K:aC)(l:List Value):Prop:=∃v0 v1 v3 v4 v5 v6 v7 vb fa fc,l=[v0,v1,.slice fa 0 fc,v3,v4,v5,v6,v7,zI K.gone,zI K.new,zI K.af,vb]∧∀v∈[v0,v1,v3,v4,v5,v6,v7,vb],single v=true
theorem Tu.all(h:Tu K l):∀v∈l,single v=true:=by
 obtain⟨v0,v1,v3,v4,v5,v6,v7,vb,fa,fc,rfl,h⟩:=h
 simp only[List.mem_cons,List.not_mem_nil,or_false] at h ⊢
 rintro v (rfl|rfl|rfl|rfl|rfl|rfl|rfl|rfl|rfl|rfl|rfl|rfl)<;>first|rfl|exact h _ (by simp)
theorem ep{v:Value}{T:TypeId}{enc:α→List Value}{ps:List α}{L:Cells}(h:aw v sz T enc ps L):single v=true:=by
 obtain⟨a,c,rfl⟩:=h.form;rfl
theorem j6{v:Value}{enc:α→List Value}{ps:List α}(h:bB ro v sz enc ps):single v=true:=by
 obtain⟨a,b,o,c,rfl,_⟩:=h;rfl
theorem vM{a b c d e f g h:Value}(h1:single a=true)(h2:single b=true)(h3:single c=true)(h4:single d=true)(h5:single e=true)(h6:single f=true)(h7:single g=true)(h8:single h=true):∀v∈[a,b,c,d,e,f,g,h],single v=true:=by
 simp only[List.mem_cons,List.not_mem_nil,or_false]
 rintro v (rfl|rfl|rfl|rfl|rfl|rfl|rfl|rfl)<;>assumption
theorem fx.L(h:fx ro l K):Tu K l:=by
 obtain⟨v0,v1,v3,v4,v5,v6,v7,vb,fa,fc,hv,rfl,⟨_,h0,_⟩,⟨_,h1,_⟩,⟨h3,h4,_⟩,_,h5,h6,h7,hb⟩:=h
 exact⟨_,_,_,_,_,_,_,_,_,_,rfl,vM (j6 h0) (j6 h1) (j6 h3) (j6 h4) (j6 h5) (j6 h6) (j6 h7) (j6 hb)⟩
theorem oB{P:Prop}{p:α}(h:([]:List α)[i]?=some p):P:=by simp at h
theorem dP{l:List α}{a:α}(h:l[i]?=some a):l.take (i+1)=l.take i++[a]:=by
 rw[List.take_succ,h];rfl
theorem p5{R:α→β→Prop}{ws:List α}{ls:List β}{w:α}{l:β}(h:de R ws (ls.take i))(hl:ls[i]?=some l) (hr:R w l):de R (ws++[w]) (ls.take (i+1)):=by
 rw[dP hl];exact h.snoc hr
def hqw:ByteArray:=bs [72,81,87]
def kindOf(r:Int):Int:=if 97≤r∧r≤122 then 1 else if (65≤r∧r≤90)∧Rv hqw (UInt8.ofNat (IntKind.u8.wrap r).toNat) <0 then 2 else 0
theorem aIm:EF zT 347 Extern.BytealgIndexByte.indexByte:=⟨Tryz.f347,Tryz.func347,by kernel_rfl,by kernel_rfl,by kernel_rfl,by kernel_rfl⟩
theorem abF{a:ByteArray}{b:Int}:du zT 340 [.string a,.int .u8 b] ro (zI (Rv a (b).toNat.toUInt8)):=by
 refine zE<|zD 8<|jib (a:=a) (b:=b) aIm<|zD 3<|zX (zI (Rv a (b).toNat.toUInt8)) ⟨rfl,rfl⟩
theorem abG{a:ByteArray}{b:Int}:du zT 326 [.string a,.int .u8 b] ro (zI (Rv a (b).toNat.toUInt8)):=by
 refine zE<|zD 8<|jp (vs:=[.string a,.int .u8 b]) [] [] (fun aG hs hZ=>abF)<|zD 3<|zX (zI (Rv a (b).toNat.toUInt8)) ⟨rfl,rfl⟩
theorem avZ{a:ByteArray}(hr:0≤r∧r <128):du zT 313 [.string a,.int .i32 r] ro (zI (Rv a (IntKind.u8.wrap r).toNat.toUInt8)):=by
 refine zE<|zD 10<|jj 3 [(0,.string a),(1,.int .i32 r),(4,zI 0),(166,.bool ((decide (0≤r))&&(decide (r <128))))] (fun gI=>?_) (fun hj=>?_)
 rotate_left
 refine js 163 (decide (0≤r)) (fun h1=>?_) (fun h1=>?_)
 ·
  have fq:=h1
  replace fq:=of_decide_eq_true fq
  refine zD 3<|jw 166 (.bool ((decide (0≤r))&&(decide (r <128)))) (w:= .bool (decide (r <128))) (by rw[h1]<;>rfl) ?_
  exact zK hj
 ·
  have fq:=h1
  replace fq:=of_decide_eq_false fq
  refine zD 3<|jw 166 (.bool ((decide (0≤r))&&(decide (r <128)))) (w:= .bool false) (by rw[h1]<;>rfl) ?_
  exact zK hj
 refine zD 2<|js 160 ((decide (0≤r))&&(decide (r <128))) (fun h2=>?_) (fun h2=>?_)
 ·
  try simp only[zB] at h2
  refine zD 6<|jp (vs:=[.string a,.int .u8 (IntKind.u8.wrap r)]) [] [] (fun aG hs hZ=>abG)<|zD 3<|zX (zI (Rv a ((IntKind.u8.wrap r)).toNat.toUInt8)) ⟨rfl,rfl⟩
 try simp only[zB] at h2
 exfalso;omega
theorem aoU{a:ByteArray}(hr:0≤r∧r <128):du zT 294 [.string a,.int .i32 r] ro (.bool (decide (Rv a (IntKind.u8.wrap r).toNat.toUInt8≥0))):=by
 refine zE<|zD 8<|jp (vs:=[.string a,.int .i32 r]) [] [] (fun aG hs hZ=>avZ (by omega))<|zD 4<|zX (.bool (decide ((Rv a (IntKind.u8.wrap r).toNat.toUInt8)≥0))) ⟨rfl,rfl⟩
theorem aq6:du zT 260 [.int .i32 r] ro (zI (kindOf r)):=by
 refine zE<|zD 11<|jj 3 [(0,.int .i32 r),(2,zI 0),(9,.bool ((decide (r≥97))&&(decide (r≤122))))] (fun gI=>?_) (fun hj=>?_)
 rotate_left
 refine js 6 (decide (r≥97)) (fun h1=>?_) (fun h1=>?_)
 ·
  have fq:=h1
  replace fq:=of_decide_eq_true fq
  refine zD 3<|jw 9 (.bool ((decide (r≥97))&&(decide (r≤122)))) (w:= .bool (decide (r≤122))) (by rw[h1]<;>rfl) ?_
  exact zK hj
 ·
  have fq:=h1
  replace fq:=of_decide_eq_false fq
  refine zD 3<|jw 9 (.bool ((decide (r≥97))&&(decide (r≤122)))) (w:= .bool false) (by rw[h1]<;>rfl) ?_
  exact zK hj
 refine zD 2<|js 3 ((decide (r≥97))&&(decide (r≤122))) (fun h2=>?_) (fun h2=>?_)
 ·
  try simp only[zB] at h2
  refine zD 6<|zX (zI 1) ⟨by simp only[kindOf,hqw];congr 1;(try simp at*);(repeat' split)<;>omega,rfl⟩
 try simp only[zB] at h2
 refine zD 6<|jj 3 [(0,.int .i32 r),(2,zI 0),(16,.bool ((decide (r≥65))&&(decide (r≤90))))] (fun gI=>?_) (fun hj=>?_)
 rotate_left
 refine js 13 (decide (r≥65)) (fun h3=>?_) (fun h3=>?_)
 ·
  have wD:=h3
  replace wD:=of_decide_eq_true wD
  refine zD 3<|jw 16 (.bool ((decide (r≥65))&&(decide (r≤90)))) (w:= .bool (decide (r≤90))) (by rw[h3]<;>rfl) ?_
  exact zK hj
 ·
  have wD:=h3
  replace wD:=of_decide_eq_false wD
  refine zD 3<|jw 16 (.bool ((decide (r≥65))&&(decide (r≤90)))) (w:= .bool false) (by rw[h3]<;>rfl) ?_
  exact zK hj
 refine zD 1<|jj 4 [(2,zI 0),(21,.bool (((decide (r≥65))&&(decide (r≤90)))&&(!(decide (Rv (bs [72,81,87]) (IntKind.u8.wrap r).toNat.toUInt8≥0)))))] (fun gI=>?_) (fun hj=>?_)
 rotate_left
 refine js 17 ((decide (r≥65))&&(decide (r≤90))) (fun h4=>?_) (fun h4=>?_)
 ·
  have uW:=h4
  try simp only[zB] at uW
  refine zD 1<|jp (vs:=[.string (bs [72,81,87]),.int .i32 r]) [] [] (fun aG hs hZ=>aoU (by omega))<|zD 2<|jw 21 (.bool (((decide (r≥65))&&(decide (r≤90)))&&(!(decide (Rv (bs [72,81,87]) (IntKind.u8.wrap r).toNat.toUInt8≥0))))) (w:= .bool (!(decide (Rv (bs [72,81,87]) (IntKind.u8.wrap r).toNat.toUInt8≥0)))) (by rw[h4]<;>rfl) ?_
  exact zK hj
 ·
  have uW:=h4
  try simp only[zB] at uW
  refine zD 4<|jw 21 (.bool (((decide (r≥65))&&(decide (r≤90)))&&(!(decide (Rv (bs [72,81,87]) (IntKind.u8.wrap r).toNat.toUInt8≥0))))) (w:= .bool false) (by rw[h4]<;>rfl) ?_
  exact zK hj
 refine zD 2<|js 10 (((decide (r≥65))&&(decide (r≤90)))&&(!(decide (Rv (bs [72,81,87]) (IntKind.u8.wrap r).toNat.toUInt8≥0)))) (fun h5=>?_) (fun h5=>?_)
 ·
  try simp only[zB] at h5
  refine zD 6<|zX (zI 2) ⟨by simp only[kindOf,hqw];congr 1;(try simp at*);(repeat' split)<;>omega,rfl⟩
 try simp only[zB] at h5
 refine zD 7<|zX (zI 0) ⟨by simp only[kindOf,hqw];congr 1;(try simp at*);(repeat' split)<;>omega,rfl⟩
theorem agD:((List.range 256).all fun n=> !Hc (UInt8.ofNat n)||decide (kindOf (n:Int)=1))=true:=by kernel_rfl
theorem agC:((List.range 256).all fun n=> !GR (UInt8.ofNat n)||decide (kindOf (n:Int)=2))=true:=by kernel_rfl
def aam(w:ByteArray)(k:Int):Prop:=∀b∈w.data.toList,b.toNat <128∧kindOf (b.toNat:Int)=k
theorem Qi{w:ByteArray}(h:Script w):∃k:Int,(k=1∨k=2)∧aam w k:=by
 have hb:∀b:UInt8,UInt8.ofNat b.toNat=b:=fun b=>by simp
 rcases h with h|h
 ·refine⟨1,.inl rfl,fun b mv=>?_⟩
  have h1:=h b mv
  have h2:=List.all_eq_true.1 agD b.toNat (List.mem_range.2 b.toNat_lt)
  rw[hb,h1] at h2
  simp only[Hc,Bool.and_eq_true,Nat.ble_eq] at h1
  exact⟨by omega,by simpa using h2⟩
 refine⟨2,.inr rfl,fun b mv=>?_⟩
 have h1:=h b mv
 have h2:=List.all_eq_true.1 agC b.toNat (List.mem_range.2 b.toNat_lt)
 rw[hb,h1] at h2
 simp only[GR,Bool.and_eq_true,Nat.ble_eq] at h1
 exact⟨by omega,by simpa using h2⟩
theorem anu{w:ByteArray}{k:Int}(hs:1≤w.size∧w.size≤6)(hk:k=1∨k=2)(hK:aam w k):du zT 233 [.string w] ro (zI 0):=by
 refine zE<|zD 11<|zJ 9 ((w.size:Int)=0) (fun h1=>?_) fun h1=>?_
 ·
  exfalso;omega
 refine zD 9<|zJ 12 ((w.size:Int)>6) (fun h2=>?_) fun h2=>?_
 ·
  exfalso;omega
 refine zD 10<|jn fun r14=>zD 2<|dw [1,1,1,1,0,1,0,0] [] (fun(zz:Nat×Int)=>[(3,zI zz.2),(14,zP r14)]) (fun zz=>[.b r14 (.stringIter w zz.1)]) (fun zz=>zz.1≤w.data.toList.length∧(zz.2=0∨zz.2=k)) (fun zz=>w.data.toList.length-zz.1) (⟨0,0⟩) ⟨by omega,.inl rfl⟩ [0] ?_
 rintro⟨p,sc⟩ hI K1 bG rest
 dsimp only at hI
 refine zD 2 ?_
 cases RU:w.data.toList[p]? with
 |some ya=>
  refine jnA r14 0 RU (hK _ (zL RU)).1<|zD 7 ?_
  have Zk:=(hK _ (zL RU)).2
  refine zD 7<|jp (vs:=[.int .i32 (ya.toNat:Int)]) [] [] (fun aG hs hZ=>aq6)<|zD 8<|zJ 21 (sc=0) (fun h3=>?_) fun h3=>?_
  ·
   refine zD 10<|jj 4 [(3,zI (kindOf (ya.toNat:Int))),(14,zP r14),(29,.bool ((decide ((kindOf (ya.toNat:Int))=0))||(!decide ((kindOf (ya.toNat:Int))=(kindOf (ya.toNat:Int))))))] (fun gI=>?_) (fun hj=>?_)
   rotate_left
   refine js 25 (decide ((kindOf (ya.toNat:Int))=0)) (fun h4=>?_) (fun h4=>?_)
   ·
    have uW:=h4
    replace uW:=of_decide_eq_true uW
    refine zD 4<|jw 29 (.bool ((decide ((kindOf (ya.toNat:Int))=0))||(!decide ((kindOf (ya.toNat:Int))=(kindOf (ya.toNat:Int)))))) (w:= .bool true) (by rw[h4]<;>rfl) ?_
    exact zK hj
   ·
    have uW:=h4
    replace uW:=of_decide_eq_false uW
    refine zD 4<|jw 29 (.bool ((decide ((kindOf (ya.toNat:Int))=0))||(!decide ((kindOf (ya.toNat:Int))=(kindOf (ya.toNat:Int)))))) (w:= .bool (!decide ((kindOf (ya.toNat:Int))=(kindOf (ya.toNat:Int))))) (by rw[h4]<;>rfl) ?_
    exact zK hj
   refine zD 1<|js 29 ((decide ((kindOf (ya.toNat:Int))=0))||(!decide ((kindOf (ya.toNat:Int))=(kindOf (ya.toNat:Int))))) (fun h5=>?_) (fun h5=>?_)
   ·
    try simp only[zB] at h5
    exfalso;omega
   try simp only[zB] at h5
   refine zD 2<|bF bG (⟨p+1,(kindOf (ya.toNat:Int))⟩) ⟨by have:=(List.getElem?_eq_some_iff.1 RU).1;dsimp only;omega,by dsimp only;omega⟩ (by have:=(List.getElem?_eq_some_iff.1 RU).1;dsimp only;omega) [0] (Sub.refl _)
  refine zD 7<|jj 4 [(3,zI sc),(14,zP r14),(29,.bool ((decide ((kindOf (ya.toNat:Int))=0))||(!decide ((kindOf (ya.toNat:Int))=sc))))] (fun gI=>?_) (fun hj=>?_)
  rotate_left
  refine js 25 (decide ((kindOf (ya.toNat:Int))=0)) (fun h6=>?_) (fun h6=>?_)
  ·
   have h6g:=h6
   replace h6g:=of_decide_eq_true h6g
   refine zD 4<|jw 29 (.bool ((decide ((kindOf (ya.toNat:Int))=0))||(!decide ((kindOf (ya.toNat:Int))=sc)))) (w:= .bool true) (by rw[h6]<;>rfl) ?_
   exact zK hj
  ·
   have h6g:=h6
   replace h6g:=of_decide_eq_false h6g
   refine zD 4<|jw 29 (.bool ((decide ((kindOf (ya.toNat:Int))=0))||(!decide ((kindOf (ya.toNat:Int))=sc)))) (w:= .bool (!decide ((kindOf (ya.toNat:Int))=sc))) (by rw[h6]<;>rfl) ?_
   exact zK hj
  refine zD 1<|js 29 ((decide ((kindOf (ya.toNat:Int))=0))||(!decide ((kindOf (ya.toNat:Int))=sc))) (fun h7=>?_) (fun h7=>?_)
  ·
   try simp only[zB] at h7
   exfalso;omega
  try simp only[zB] at h7
  refine zD 2<|bF bG (⟨p+1,sc⟩) ⟨by have:=(List.getElem?_eq_some_iff.1 RU).1;dsimp only;omega,by dsimp only;omega⟩ (by have:=(List.getElem?_eq_some_iff.1 RU).1;dsimp only;omega) [0] (Sub.refl _)
 |none=>
  refine jnZ r14 0 RU<|zD 10<|zX (zI 0) ⟨rfl,rfl⟩
def mz:=(m9 Tryz.typeInfo3 Tryz.underlying3 rfl rfl rfl rfl rfl rfl:TF zT 3 _ 1 8 _ false)
theorem aj5(a b c d:Int)(dep:Nat):EqD zT (dep+2) 81 (.agg ⟨[zI a,zI b]⟩) (.agg ⟨[zI c,zI d]⟩) (a==c&&(b==d&&true)):=
 uA (m9 Tryz.typeInfo81 Tryz.underlying81 rfl rfl rfl rfl rfl rfl) Tryz.stoodInHeld81 (.cons (by decide) (j8 mz rfl) (j8 mz rfl) (n9 mz _ _) (.cons (by decide) (j8 mz rfl) (j8 mz rfl) (n9 mz _ _) .nil))
theorem wN(a b c d:Int):EqV zT 81 (.agg ⟨[zI a,zI b]⟩) (.agg ⟨[zI c,zI d]⟩) (a==c&&(b==d&&true)):=Ol (aj5 a b c d _)
theorem ayR(a b c d e f:Int):EqV zT 132 (.agg ⟨[zI a,zI b,zI c]⟩) (.agg ⟨[zI d,zI e,zI f]⟩) (a==d&&(b==e&&(c==f&&true)&&true)):=
 Ol (uA (m9 Tryz.typeInfo132 Tryz.underlying132 rfl rfl rfl rfl rfl rfl) Tryz.stoodInHeld132 (.cons (by decide) (j8 mz rfl) (j8 mz rfl) (n9 mz _ _) (.cons (by decide) (GO (m9 Tryz.typeInfo81 Tryz.underlying81 rfl rfl rfl rfl rfl rfl) rfl) (GO (m9 Tryz.typeInfo81 Tryz.underlying81 rfl rfl rfl rfl rfl rfl) rfl) (aj5 _ _ _ _ _) .nil)))
theorem GY:oe zT 81:=Tryz.eqGuardType81
theorem aD1:oe zT 132:=Tryz.eqGuardType132
def Ck(n l:Int)(y:ah):Bool:=n==y.n&&(l==y.l&&true)
theorem UZ{w:ByteArray}(hs:1≤w.size∧w.size≤6)(h:Script w):du zT 233 [.string w] ro (zI 0):=by
 obtain⟨k,h1,h2⟩:=Qi h
 exact anu hs h1 h2
theorem A4:du zT 91 [zI 0] ro (.tuple ⟨[]⟩):=by
 refine zE<|zD 7<|zX (.tuple ⟨[]⟩) ⟨rfl,rfl⟩
theorem YN:du zT 90 [.agg ⟨[.string x.name,zI x.st,zI x.no,zI x.head,.bool x.bold]⟩] ro (.agg ⟨[zI x.st,zI x.no,zI 0]⟩):=by
 refine zE<|zD 2<|jn fun b1=>jn fun b2=>jd 12 [1,1,0]<|zR (.agg ⟨[zI x.st,zI x.no,zI 0]⟩) [0] [] [] ⟨rfl,rfl⟩
theorem agW{v:Value}{ps:List ah}{l:Int}(hp:bB ro v 2 cK ps)(hn:ps.length≤1000):du zT 261 [v,.agg ⟨[zI n,zI l]⟩] ro (zI (bQ (Ck n l) ps 0)):=by
 obtain⟨TB,qpb,qpo,KE,rfl,qpk,qph,qpl⟩:=hp
 refine zE<|zD 2<|jn fun b3=>zD 10<|dw [1,0,1,0,0] [] (fun(zz:Nat)=>[(0,.slice TB ps.length KE),(3,zP b3),(7,zI (ps.length:Int)),(8,zI (zz:Int))]) (fun zz=>[.b b3 (.cells ⟨[zI n,zI l]⟩ 81 (0,0))]) (fun zz=>zz≤ps.length∧bQ (Ck n l) ps 0=bQ (Ck n l) (ps.drop zz) zz) (fun zz=>ps.length-zz) 0 ⟨by omega,rfl⟩ [0] ?_
 rintro k hI K1 bG rest
 refine zD 5<|zJ 9 ((k:Int) <(ps.length:Int)) (fun h1=>?_) fun h1=>?_
 ·
  refine jd 14 [0] ?_
  obtain⟨fI,eH⟩:=zG ps k
  refine gX KE 2 qph eH<|jl 0 (qpl _ _ eH)<|jeq GY (wN n l fI.n fI.l)<|zD 1<|js 16 (n==fI.n&&(l==fI.l&&true)) (fun h2=>?_) (fun h2=>?_)
  ·
   refine zD 7<|zX (zI (k:Int)) ⟨by rw[hI.2,jK eH,show Ck n l fI=true from (by assumption)];rfl,rfl⟩
  refine zD 3<|ja ((k:Int)+1) (by omega)<|zD 2<|bF bG (k+1) ⟨by omega,by rw[hI.2,jK eH,show Ck n l fI=false from (by assumption)];rfl⟩ (by omega) [0] (Sub.refl _)
 refine zD 7<|zX (zI (-1)) ⟨by rw[hI.2,qE (by omega)],rfl⟩
theorem Lr{v:Value}{ps:List ah}{l:Int}(hp:bB ro v 2 cK ps)(hn:ps.length≤1000):du zT 234 [v,.agg ⟨[zI n,zI l]⟩] ro (.bool (decide (bQ (Ck n l) ps 0≥0))):=by
 obtain⟨TB,qpb,qpo,KE,rfl,qpk,qph,qpl⟩:=hp
 refine zE<|zD 2<|jn fun b3=>jd 6 [0]<|jp (vs:=[.slice TB ps.length KE,.agg ⟨[zI n,zI l]⟩]) [] [] (fun aG hs hZ=>agW ((show bB _ _ _ _ _ from ⟨TB,qpb,qpo,KE,rfl,qpk,qph,qpl⟩).up hs) (by first|omega| (simp only[List.length_set,zM];omega))) ?_
 refine zD 4<|zX (.bool (decide ((bQ (Ck n l) ps 0)≥0))) ⟨rfl,rfl⟩
theorem Zp{i:Int}(h:nX hd i): -1≤i∧i <hd.length:=by
 rcases h with h| ⟨h0,x,h1,_⟩
 ·omega
 have:=(List.getElem?_eq_some_iff.1 h1).1
 omega
theorem Sf{hv:List bx}{i:Int}{x:bx}(h:de dq hv hd)(hi:nX hd i)(h0:i≥0)(hx:hv[i.toNat]?=some x):0≤x.cls:=by
 rcases hi with hi| ⟨_,y,h1,h2⟩
 ·omega
 obtain⟨z,h3,h4⟩:=h.get hx
 rw[h1] at h3;cases h3
 rw[h4.2.1];exact h2
theorem KM{S:List (List ah)}{l:List ah}(h:apY S hd x)(hl:S[x.st.toNat]?=some l):bQ (Ck x.no 0) l 0≥0:=by
 obtain⟨l',h1,h2⟩:=h.2
 rw[h1] at hl;cases hl
 have key:∀(l:List ah) (k:Nat),(⟨x.no,0⟩:ah)∈l→bQ (Ck x.no 0) l k≥0:=by
  intro l
  induction l with
  |nil=>intro k h;cases h
  |cons y l ih=>
   intro k h
   simp only[bQ]
   cases hx:Ck x.no 0 y with
   |true=>simp
   |false=>
    simp only[cond_false]
    rcases List.mem_cons.1 h with rfl|h
    ·simp[Ck] at hx
    exact ih _ h
 exact key _ 0 h2
theorem agN(hK:fx ro l K)(hO:jz K)(hx:apY K.str K.hd x):du zT 177 [.agg ⟨l⟩,.agg ⟨[.string x.name,zI x.st,zI x.no,zI x.head,.bool x.bold]⟩,.bool true] ro (zI 0):=by
 obtain⟨vS,vT,vc,vh,vr,vb,va,vf,fa,fc,hv,rfl,hS,hT,pY,nn,hr,hb,ha,hf⟩:=hK
 obtain⟨ig,hs,fg⟩:=id hS
 obtain⟨iO,ht,eX⟩:=id hT
 obtain⟨hc,hh,D5⟩:=id pY
 obtain⟨lv,Qs,Qq,kH,rfl,Qr,Jv,Ju⟩:=hs
 obtain⟨eR,AK,AI,dS,rfl,AJ,sG,sE⟩:=ht
 obtain⟨eo,AO,AN,dX,rfl,DK,yP,yO⟩:=hc
 obtain⟨dJ,u5,u4,dv,rfl,xq,qX,qW⟩:=hh
 obtain⟨kZ,I1,I0,kY,rfl,O4,GD,GC⟩:=hr
 obtain⟨mw,Qv,Qt,mo,rfl,Qu,O6,O5⟩:=hb
 obtain⟨lO,M9,M7,lH,rfl,M8,KH,KG⟩:=ha
 obtain⟨gP,vY,vX,fP,rfl,AM,qQ,qP⟩:=hf
 have C2:=hO.rules
 have qT:=hO.before.1
 have Ph:=hO.after.1
 have Pg:=hO.facts.1
 have Pf:=hO.ways.1
 have I9:=fg.len
 have EP:=eX.len
 have Zj:=hO.oT.two
 have hl9:=hO.c8.nh
 have O3:∀(i:Nat) (p:da),([]:List da)[i]?=some p→cD ⟨ro,[]⟩ 0 (0+i*6) 6 (mN p):=fun _ _ h=>oB h
 have hNm:=hx.1.1
 have hNs:=hNm.1
 have hHd:=hx.1.2.1
 have hHl:=Zp hHd
 have hSt:=hx.1.2.2.1
 have hBd:=hx.1.2.2.2
 have hlen:=nn.len
 refine zE<|zD 2<|jn fun b3=>jn fun b4=>jd 7 [0]<|jp (vs:=[.string x.name]) [] [] (fun aG hs hZ=>(UZ (by omega) hNm.2))<|jd 27 [1,0,1]<|ja ((hv.length:Int)-1) (by omega)<|jp (vs:=[zI x.head,zI (-1),zI ((hv.length:Int)-1)]) [] [] (fun aG hs hZ=>e9)<|zD 3<|js 19 (!(iI x.head (-1) ((hv.length:Int)-1))) (fun h1=>?_) (fun h1=>?_)
 ·
  try simp only[zB] at h1
  exfalso;simp only[iI,Bool.and_eq_false_iff,decide_eq_false_iff_not] at h1;omega
 try simp only[zB] at h1
 refine jd 7 [0]<|js 33 (decide (x.head≥0)) (fun h2=>?_) (fun h2=>?_)
 ·
  have k9:=h2
  replace k9:=of_decide_eq_true k9
  refine jd 5 [1,0] ?_
  obtain⟨BO,oC⟩:=zG hv (x.head.toNat)
  refine I4 x.head dv 4 qX oC (by omega)<|zD 1<|jl 1 (qW _ _ oC)<|zD 4<|zJ 29 (BO.cls=(-1)) (fun h3=>?_) fun h3=>?_
  ·
   exfalso;have:=Sf nn hHd (by omega) oC;omega
  refine jd 8 [0]<|ja ((ig.length:Int)-1) (by omega)<|jp (vs:=[zI x.st,zI 0,zI ((ig.length:Int)-1)]) [] [] (fun aG hs hZ=>e9)<|zD 3<|js 44 (!(iI x.st 0 ((ig.length:Int)-1))) (fun h4=>?_) (fun h4=>?_)
  ·
   try simp only[zB] at h4
   exfalso;simp only[iI,Bool.and_eq_false_iff,decide_eq_false_iff_not] at h4;omega
  try simp only[zB] at h4
  refine jd 7 [0] ?_
  obtain⟨x57,u7⟩:=zG ig (x.st.toNat)
  refine I4 x.st kH 1 Jv u7 (by omega) ?_
  obtain⟨l58,ah6,h58⟩:=fg.get u7
  obtain aRC:=hO.oT.len _ (zL ah6)
  obtain⟨afd,auC,auy,afc,rfl,auA,auB,auz⟩:=h58
  refine jl 0 (Ju _ _ u7)<|jd 1 [0]<|jp (vs:=[.agg ⟨[.string x.name,zI x.st,zI x.no,zI x.head,.bool x.bold]⟩]) [] [] (fun aG hs hZ=>(YN (x:=(⟨x.name,x.st,x.no,x.head,x.bold⟩:aB))))<|zD 1<|jp (vs:=[.slice afd l58.length afc,.agg ⟨[zI x.no,zI 0]⟩]) [] [] (fun aG hs hZ=>Lr ((show bB _ _ _ _ _ from ⟨afd,auC,auy,afc,rfl,auA,auB,auz⟩).up hs) (by first|omega| (simp only[List.length_set,zM];omega))) ?_
  refine zD 4<|js 44 (!(decide (bQ (Ck x.no 0) l58 0≥0))) (fun h5=>?_) (fun h5=>?_)
  ·
   try simp only[zB] at h5
   exfalso;have:=KM hx ah6;omega
  try simp only[zB] at h5
  refine jd 20 [0]<|js 74 x.bold (fun h6=>?_) (fun h6=>?_)
  ·
   exfalso;rw[hBd] at h6;cases h6
  refine zD 7<|zX (zI 0) ⟨rfl,rfl⟩
 have k9:=h2
 replace k9:=of_decide_eq_false k9
 refine jd 20 [0]<|ja ((ig.length:Int)-1) (by omega)<|jp (vs:=[zI x.st,zI 0,zI ((ig.length:Int)-1)]) [] [] (fun aG hs hZ=>e9)<|zD 3<|js 44 (!(iI x.st 0 ((ig.length:Int)-1))) (fun h7=>?_) (fun h7=>?_)
 ·
  try simp only[zB] at h7
  exfalso;simp only[iI,Bool.and_eq_false_iff,decide_eq_false_iff_not] at h7;omega
 try simp only[zB] at h7
 refine jd 7 [0] ?_
 obtain⟨x57,u7⟩:=zG ig (x.st.toNat)
 refine I4 x.st kH 1 Jv u7 (by omega) ?_
 obtain⟨l58,ah6,h58⟩:=fg.get u7
 obtain aRC:=hO.oT.len _ (zL ah6)
 obtain⟨afd,auC,auy,afc,rfl,auA,auB,auz⟩:=h58
 refine jl 0 (Ju _ _ u7)<|jd 1 [0]<|jp (vs:=[.agg ⟨[.string x.name,zI x.st,zI x.no,zI x.head,.bool x.bold]⟩]) [] [] (fun aG hs hZ=>(YN (x:=(⟨x.name,x.st,x.no,x.head,x.bold⟩:aB))))<|zD 1<|jp (vs:=[.slice afd l58.length afc,.agg ⟨[zI x.no,zI 0]⟩]) [] [] (fun aG hs hZ=>Lr ((show bB _ _ _ _ _ from ⟨afd,auC,auy,afc,rfl,auA,auB,auz⟩).up hs) (by first|omega| (simp only[List.length_set,zM];omega))) ?_
 refine zD 4<|js 44 (!(decide (bQ (Ck x.no 0) l58 0≥0))) (fun h8=>?_) (fun h8=>?_)
 ·
  try simp only[zB] at h8
  exfalso;have:=KM hx ah6;omega
 try simp only[zB] at h8
 refine jd 20 [0]<|js 74 x.bold (fun h9=>?_) (fun h9=>?_)
 ·
  exfalso;rw[hBd] at h9;cases h9
 refine zD 7<|zX (zI 0) ⟨rfl,rfl⟩
theorem agO(hK:fx ro l K)(hO:jz K)(hx:aJl K.hd x):du zT 177 [.agg ⟨l⟩,.agg ⟨[.string x.name,zI x.st,zI x.no,zI x.head,.bool x.bold]⟩,.bool false] ro (zI 0):=by
 obtain⟨vS,vT,vc,vh,vr,vb,va,vf,fa,fc,hv,rfl,hS,hT,pY,nn,hr,hb,ha,hf⟩:=hK
 obtain⟨ig,hs,fg⟩:=id hS
 obtain⟨iO,ht,eX⟩:=id hT
 obtain⟨hc,hh,D5⟩:=id pY
 obtain⟨lv,Qs,Qq,kH,rfl,Qr,Jv,Ju⟩:=hs
 obtain⟨eR,AK,AI,dS,rfl,AJ,sG,sE⟩:=ht
 obtain⟨eo,AO,AN,dX,rfl,DK,yP,yO⟩:=hc
 obtain⟨dJ,u5,u4,dv,rfl,xq,qX,qW⟩:=hh
 obtain⟨kZ,I1,I0,kY,rfl,O4,GD,GC⟩:=hr
 obtain⟨mw,Qv,Qt,mo,rfl,Qu,O6,O5⟩:=hb
 obtain⟨lO,M9,M7,lH,rfl,M8,KH,KG⟩:=ha
 obtain⟨gP,vY,vX,fP,rfl,AM,qQ,qP⟩:=hf
 have C2:=hO.rules
 have qT:=hO.before.1
 have Ph:=hO.after.1
 have Pg:=hO.facts.1
 have Pf:=hO.ways.1
 have I9:=fg.len
 have EP:=eX.len
 have Zj:=hO.oT.two
 have hl9:=hO.c8.nh
 have O3:∀(i:Nat) (p:da),([]:List da)[i]?=some p→cD ⟨ro,[]⟩ 0 (0+i*6) 6 (mN p):=fun _ _ h=>oB h
 have hNm:=hx.1.1
 have hNs:=hNm.1
 have hHd:=hx.1.2.1
 have hHl:=Zp hHd
 have hSt:=hx.1.2.2.1
 have hBd:=hx.1.2.2.2
 have hlen:=nn.len
 have hNo:=hx.2
 refine zE<|zD 2<|jn fun b3=>jn fun b4=>jd 7 [0]<|jp (vs:=[.string x.name]) [] [] (fun aG hs hZ=>(UZ (by omega) hNm.2))<|jd 27 [1,0,1]<|ja ((hv.length:Int)-1) (by omega)<|jp (vs:=[zI x.head,zI (-1),zI ((hv.length:Int)-1)]) [] [] (fun aG hs hZ=>e9)<|zD 3<|js 19 (!(iI x.head (-1) ((hv.length:Int)-1))) (fun h1=>?_) (fun h1=>?_)
 ·
  try simp only[zB] at h1
  exfalso;simp only[iI,Bool.and_eq_false_iff,decide_eq_false_iff_not] at h1;omega
 try simp only[zB] at h1
 refine jd 7 [0]<|js 33 (decide (x.head≥0)) (fun h2=>?_) (fun h2=>?_)
 ·
  have k9:=h2
  replace k9:=of_decide_eq_true k9
  refine jd 5 [1,0] ?_
  obtain⟨BO,oC⟩:=zG hv (x.head.toNat)
  refine I4 x.head dv 4 qX oC (by omega)<|zD 1<|jl 1 (qW _ _ oC)<|zD 4<|zJ 29 (BO.cls=(-1)) (fun h3=>?_) fun h3=>?_
  ·
   exfalso;have:=Sf nn hHd (by omega) oC;omega
  refine jd 8 [0]<|ja ((ig.length:Int)-1) (by omega)<|jp (vs:=[zI x.st,zI 0,zI ((ig.length:Int)-1)]) [] [] (fun aG hs hZ=>e9)<|zD 3<|js 44 (!(iI x.st 0 ((ig.length:Int)-1))) (fun h4=>?_) (fun h4=>?_)
  ·
   try simp only[zB] at h4
   exfalso;simp only[iI,Bool.and_eq_false_iff,decide_eq_false_iff_not] at h4;omega
  try simp only[zB] at h4
  refine jd 25 [0]<|jp (vs:=[zI x.no,zI 1,zI 40]) [] [] (fun aG hs hZ=>e9)<|zD 4<|js 65 (!(iI x.no 1 40)) (fun h5=>?_) (fun h5=>?_)
  ·
   try simp only[zB] at h5
   exfalso;simp only[iI,Bool.and_eq_false_iff,decide_eq_false_iff_not] at h5;omega
  try simp only[zB] at h5
  refine jd 7 [0]<|js 74 x.bold (fun h6=>?_) (fun h6=>?_)
  ·
   exfalso;rw[hBd] at h6;cases h6
  refine zD 7<|zX (zI 0) ⟨rfl,rfl⟩
 have k9:=h2
 replace k9:=of_decide_eq_false k9
 refine jd 20 [0]<|ja ((ig.length:Int)-1) (by omega)<|jp (vs:=[zI x.st,zI 0,zI ((ig.length:Int)-1)]) [] [] (fun aG hs hZ=>e9)<|zD 3<|js 44 (!(iI x.st 0 ((ig.length:Int)-1))) (fun h7=>?_) (fun h7=>?_)
 ·
  try simp only[zB] at h7
  exfalso;simp only[iI,Bool.and_eq_false_iff,decide_eq_false_iff_not] at h7;omega
 try simp only[zB] at h7
 refine jd 25 [0]<|jp (vs:=[zI x.no,zI 1,zI 40]) [] [] (fun aG hs hZ=>e9)<|zD 4<|js 65 (!(iI x.no 1 40)) (fun h8=>?_) (fun h8=>?_)
 ·
  try simp only[zB] at h8
  exfalso;simp only[iI,Bool.and_eq_false_iff,decide_eq_false_iff_not] at h8;omega
 try simp only[zB] at h8
 refine jd 7 [0]<|js 74 x.bold (fun h9=>?_) (fun h9=>?_)
 ·
  exfalso;rw[hBd] at h9;cases h9
 refine zD 7<|zX (zI 0) ⟨rfl,rfl⟩
theorem fx.up{aD:Nat→Option Obj}(h:fx ro l K)(hs:Sub ro aD):fx aD l K:=by
 obtain⟨vS,vT,vc,vh,vr,vb,va,vf,fa,fc,hv,rfl,h1,h2,h3,h4,h5,h6,h7,h8⟩:=h
 exact⟨_,_,_,_,_,_,_,_,_,_,_,rfl,h1.up hs,h2.up hs,h3.up hs,h4,h5.up hs,h6.up hs,h7.up hs,h8.up hs⟩
theorem agP(hK:fx ro l K)(hO:jz K)(hp:bB ro vp 5 eC K.before):du zT 129 [.agg ⟨l⟩,vp,.bool true] ro (zI 0):=by
 have Zw:=hK
 obtain⟨vS,vT,vc,vh,vr,vb,va,vf,fa,fc,hv,rfl,hS,hT,pY,nn,hr,hb,ha,hf⟩:=hK
 obtain⟨ig,hs,fg⟩:=id hS
 obtain⟨iO,ht,eX⟩:=id hT
 obtain⟨hc,hh,D5⟩:=id pY
 obtain⟨lv,Qs,Qq,kH,rfl,Qr,Jv,Ju⟩:=hs
 obtain⟨eR,AK,AI,dS,rfl,AJ,sG,sE⟩:=ht
 obtain⟨eo,AO,AN,dX,rfl,DK,yP,yO⟩:=hc
 obtain⟨dJ,u5,u4,dv,rfl,xq,qX,qW⟩:=hh
 obtain⟨kZ,I1,I0,kY,rfl,O4,GD,GC⟩:=hr
 obtain⟨mw,Qv,Qt,mo,rfl,Qu,O6,O5⟩:=hb
 obtain⟨lO,M9,M7,lH,rfl,M8,KH,KG⟩:=ha
 obtain⟨gP,vY,vX,fP,rfl,AM,qQ,qP⟩:=hf
 have C2:=hO.rules
 have qT:=hO.before.1
 have Ph:=hO.after.1
 have Pg:=hO.facts.1
 have Pf:=hO.ways.1
 have I9:=fg.len
 have EP:=eX.len
 have Zj:=hO.oT.two
 have hl9:=hO.c8.nh
 have O3:∀(i:Nat) (p:da),([]:List da)[i]?=some p→cD ⟨ro,[]⟩ 0 (0+i*6) 6 (mN p):=fun _ _ h=>oB h
 obtain⟨TB,qpb,qpo,KE,rfl,qpk,qph,qpl⟩:=hp
 refine zE<|zD 2<|jn fun b3=>zD 9<|zJ 12 ((K.before.length:Int)>4) (fun h1=>?_) fun h1=>?_
 ·
  exfalso;omega
 refine zD 10<|dw [1,1,0,1,0,0] [] (fun(zz:Nat)=>[(2,.bool true),(3,zP b3),(13,.slice TB K.before.length KE),(14,zI (K.before.length:Int)),(15,zI (zz:Int))]) (fun zz=>[.b b3 (.cells ⟨[.slice lv ig.length kH,.slice eR iO.length dS,.slice fa 0 fc,.slice eo K.cs.length dX,.slice dJ hv.length dv,.slice kZ K.rules.length kY,.slice mw K.before.length mo,.slice lO K.after.length lH,zI K.gone,zI K.new,zI K.af,.slice gP K.facts.length fP]⟩ 38 (0,0))]) (fun zz=>zz≤K.before.length) (fun zz=>K.before.length-zz) 0 (by omega) [0] ?_
 rintro k hI K1 bG rest
 refine zD 5<|zJ 16 ((k:Int) <(K.before.length:Int)) (fun h2=>?_) fun h2=>?_
 ·
  refine zD 6 ?_
  obtain⟨Xo,Hl⟩:=zG K.before k
  refine gX KE 5 qph Hl<|jl 0 (qpl _ _ Hl)<|jn fun b8=>jd 7 [0,1,0]<|jp (vs:=[.agg ⟨[.slice lv ig.length kH,.slice eR iO.length dS,.slice fa 0 fc,.slice eo K.cs.length dX,.slice dJ hv.length dv,.slice kZ K.rules.length kY,.slice mw K.before.length mo,.slice lO K.after.length lH,zI K.gone,zI K.new,zI K.af,.slice gP K.facts.length fP]⟩,.agg ⟨[.string Xo.name,zI Xo.st,zI Xo.no,zI Xo.head,.bool Xo.bold]⟩,.bool true]) [] [] (fun aG hs hZ=>(agN (x:=Xo) (Zw.up hs) hO (hO.before.2 _ (zL Hl))))<|zD 10<|ja ((k:Int)+1) (by omega)<|zD 2<|bF bG (k+1) (by omega) (by omega) [1] (Sub.refl _)
 refine zD 7<|zX (zI 0) ⟨rfl,rfl⟩
theorem agQ(hK:fx ro l K)(hO:jz K)(hp:bB ro vp 5 eC K.after):du zT 129 [.agg ⟨l⟩,vp,.bool false] ro (zI 0):=by
 have Zw:=hK
 obtain⟨vS,vT,vc,vh,vr,vb,va,vf,fa,fc,hv,rfl,hS,hT,pY,nn,hr,hb,ha,hf⟩:=hK
 obtain⟨ig,hs,fg⟩:=id hS
 obtain⟨iO,ht,eX⟩:=id hT
 obtain⟨hc,hh,D5⟩:=id pY
 obtain⟨lv,Qs,Qq,kH,rfl,Qr,Jv,Ju⟩:=hs
 obtain⟨eR,AK,AI,dS,rfl,AJ,sG,sE⟩:=ht
 obtain⟨eo,AO,AN,dX,rfl,DK,yP,yO⟩:=hc
 obtain⟨dJ,u5,u4,dv,rfl,xq,qX,qW⟩:=hh
 obtain⟨kZ,I1,I0,kY,rfl,O4,GD,GC⟩:=hr
 obtain⟨mw,Qv,Qt,mo,rfl,Qu,O6,O5⟩:=hb
 obtain⟨lO,M9,M7,lH,rfl,M8,KH,KG⟩:=ha
 obtain⟨gP,vY,vX,fP,rfl,AM,qQ,qP⟩:=hf
 have C2:=hO.rules
 have qT:=hO.before.1
 have Ph:=hO.after.1
 have Pg:=hO.facts.1
 have Pf:=hO.ways.1
 have I9:=fg.len
 have EP:=eX.len
 have Zj:=hO.oT.two
 have hl9:=hO.c8.nh
 have O3:∀(i:Nat) (p:da),([]:List da)[i]?=some p→cD ⟨ro,[]⟩ 0 (0+i*6) 6 (mN p):=fun _ _ h=>oB h
 obtain⟨TB,qpb,qpo,KE,rfl,qpk,qph,qpl⟩:=hp
 refine zE<|zD 2<|jn fun b3=>zD 9<|zJ 12 ((K.after.length:Int)>4) (fun h1=>?_) fun h1=>?_
 ·
  exfalso;omega
 refine zD 10<|dw [1,1,0,1,0,0] [] (fun(zz:Nat)=>[(2,.bool false),(3,zP b3),(13,.slice TB K.after.length KE),(14,zI (K.after.length:Int)),(15,zI (zz:Int))]) (fun zz=>[.b b3 (.cells ⟨[.slice lv ig.length kH,.slice eR iO.length dS,.slice fa 0 fc,.slice eo K.cs.length dX,.slice dJ hv.length dv,.slice kZ K.rules.length kY,.slice mw K.before.length mo,.slice lO K.after.length lH,zI K.gone,zI K.new,zI K.af,.slice gP K.facts.length fP]⟩ 38 (0,0))]) (fun zz=>zz≤K.after.length) (fun zz=>K.after.length-zz) 0 (by omega) [0] ?_
 rintro k hI K1 bG rest
 refine zD 5<|zJ 16 ((k:Int) <(K.after.length:Int)) (fun h2=>?_) fun h2=>?_
 ·
  refine zD 6 ?_
  obtain⟨Xo,Hl⟩:=zG K.after k
  refine gX KE 5 qph Hl<|jl 0 (qpl _ _ Hl)<|jn fun b8=>jd 7 [0,1,0]<|jp (vs:=[.agg ⟨[.slice lv ig.length kH,.slice eR iO.length dS,.slice fa 0 fc,.slice eo K.cs.length dX,.slice dJ hv.length dv,.slice kZ K.rules.length kY,.slice mw K.before.length mo,.slice lO K.after.length lH,zI K.gone,zI K.new,zI K.af,.slice gP K.facts.length fP]⟩,.agg ⟨[.string Xo.name,zI Xo.st,zI Xo.no,zI Xo.head,.bool Xo.bold]⟩,.bool false]) [] [] (fun aG hs hZ=>(agO (x:=Xo) (Zw.up hs) hO (hO.after.2 _ (zL Hl))))<|zD 10<|ja ((k:Int)+1) (by omega)<|zD 2<|bF bG (k+1) (by omega) (by omega) [1] (Sub.refl _)
 refine zD 7<|zX (zI 0) ⟨rfl,rfl⟩
theorem avx{x y:bM}(hb:ro b=some (.cells ⟨[zI y.a,zI y.b,.bool y.same]⟩ 100 (0,0))):du zT 179 [.agg ⟨[zI x.a,zI x.b,.bool x.same]⟩,zP b] ro (.bool (decide (x.a=y.a)&&decide (x.b=y.b))):=by
 refine zE<|zD 2<|jn fun b2=>jd 7 [0]<|jl (b:=b) (off:=0) (m:=3) (vs:=[zI y.a,zI y.b,.bool y.same]) 0 ⟨_,_,_,.inl hb,rfl⟩<|zD 2<|jj 6 [(3,.bool false),(15,.bool ((decide (x.a=y.a))&&(decide (x.b=y.b))))] (fun gI=>?_) (fun hj=>?_)
 rotate_left
 refine js 9 (decide (x.a=y.a)) (fun h1=>?_) (fun h1=>?_)
 ·
  have fq:=h1
  replace fq:=of_decide_eq_true fq
  refine jd 3 [0]<|jl (b:=b) (off:=0) (m:=3) (vs:=[zI y.a,zI y.b,.bool y.same]) 1 ⟨_,_,_,.inl hb,rfl⟩<|zD 2<|jw 15 (.bool ((decide (x.a=y.a))&&(decide (x.b=y.b)))) (w:= .bool (decide (x.b=y.b))) (by rw[h1]<;>rfl) ?_
  exact zK hj
 ·
  have fq:=h1
  replace fq:=of_decide_eq_false fq
  refine zD 6<|jw 15 (.bool ((decide (x.a=y.a))&&(decide (x.b=y.b)))) (w:= .bool false) (by rw[h1]<;>rfl) ?_
  exact zK hj
 refine zD 3<|zX (.bool ((decide (x.a=y.a))&&(decide (x.b=y.b)))) ⟨rfl,rfl⟩
def Es(x y:bM):Bool:=decide (y.a=x.a)&&decide (y.b=x.b)
theorem De{p:α→Bool}:∀ {l:List α} {k:Nat},(∀y∈l,p y=false)→bQ p l k= -1
 | [],_,_=>rfl
 |x::l,k,h=>by simp only[bQ,h x (List.mem_cons_self ..),cond_false];exact De fun y hy=>h y (List.mem_cons_of_mem _ hy)
theorem ajS{x:bM}(h:fs.Pairwise fun x y=>¬(x.a=y.a∧x.b=y.b))(hx:fs[i]?=some x):bQ (Es x) (fs.take i) 0 <0:=by
 rw[De]
 ·omega
 intro y hy
 obtain⟨j,hj⟩:=List.getElem?_of_mem hy
 rw[List.getElem?_take] at hj
 split at hj
 ·rename_i Aj
  have:=qj h Aj hj hx
  simp only[Es,Bool.and_eq_false_iff,decide_eq_false_iff_not]
  by_cases h1:y.a=x.a
  ·exact .inr fun h2=>this ⟨h1,h2⟩
  exact .inl h1
 cases hj
theorem avR{v:Value}{x:bM}(hf:bB ro v 3 mY fs)(hn:fs.length≤1000)(hb:ro b=some (.cells ⟨[zI x.a,zI x.b,.bool x.same]⟩ 100 (0,0))):du zT 235 [v,.func (.func 179) ⟨[]⟩ ⟨[zP b]⟩] ro (zI (bQ (Es x) fs 0)):=by
 obtain⟨gP,vY,vX,fP,rfl,AM,qQ,qP⟩:=hf
 refine zE<|zD 12<|dw [1,0,1,0,0] [] (fun(zz:Nat)=>[(0,.slice gP fs.length fP),(1,.func (.func 179) ⟨[]⟩ ⟨[zP b]⟩),(7,zI (fs.length:Int)),(8,zI (zz:Int))]) (fun zz=>[]) (fun zz=>zz≤fs.length∧bQ (Es x) fs 0=bQ (Es x) (fs.drop zz) zz) (fun zz=>fs.length-zz) 0 ⟨by omega,rfl⟩ [] ?_
 rintro k hI K1 bG rest
 refine zD 5<|zJ 9 ((k:Int) <(fs.length:Int)) (fun h1=>?_) fun h1=>?_
 ·
  refine zD 14 ?_
  obtain⟨fI,eH⟩:=zG fs k
  refine gX fP 3 qQ eH<|jl 0 (qP _ _ eH)<|jp (vs:=[.agg ⟨[zI fI.a,zI fI.b,.bool fI.same]⟩,zP b]) [] [] (fun aG hs hZ=>(avx (hs _ _ hb)))<|zD 1<|js 16 (Es x fI) (fun h2=>?_) (fun h2=>?_)
  ·
   refine zD 7<|zX (zI (k:Int)) ⟨by rw[hI.2,jK eH,show Es x fI=true from (by assumption)];rfl,rfl⟩
  refine zD 3<|ja ((k:Int)+1) (by omega)<|zD 2<|bF bG (k+1) ⟨by omega,by rw[hI.2,jK eH,show Es x fI=false from (by assumption)];rfl⟩ (by omega) [] (Sub.refl _)
 refine zD 7<|zX (zI (-1)) ⟨by rw[hI.2,qE (by omega)],rfl⟩
theorem an3{v:Value}{x:bM}(hf:bB ro v 3 mY fs)(hn:fs.length≤1000)(hb:ro b=some (.cells ⟨[zI x.a,zI x.b,.bool x.same]⟩ 100 (0,0))):du zT 178 [v,.func (.func 179) ⟨[]⟩ ⟨[zP b]⟩] ro (.bool (decide (bQ (Es x) fs 0≥0))):=by
 obtain⟨gP,vY,vX,fP,rfl,AM,qQ,qP⟩:=hf
 refine zE<|zD 8<|jp (vs:=[.slice gP fs.length fP,.func (.func 179) ⟨[]⟩ ⟨[zP b]⟩]) [] [] (fun aG hs hZ=>avR ((show bB _ _ _ _ _ from ⟨gP,vY,vX,fP,rfl,AM,qQ,qP⟩).up hs) (by first|omega| (simp only[List.length_set,zM];omega)) (hs _ _ hb)) ?_
 refine zD 4<|zX (.bool (decide ((bQ (Es x) fs 0)≥0))) ⟨rfl,rfl⟩
theorem aEy{x:bM}(hK:fx ro l K)(hO:jz K)(hp:bB ro vp 3 mY fs)(hn:fs.length≤1000)(hx:(0≤x.a∧x.a <K.before.length)∧(0≤x.b∧x.b <K.after.length))(hw:bQ (Es x) fs 0 <0):du zT 130 [.agg ⟨l⟩,vp,.agg ⟨[zI x.a,zI x.b,.bool x.same]⟩] ro (zI 0):=by
 obtain⟨vS,vT,vc,vh,vr,vb,va,vf,fa,fc,hv,rfl,hS,hT,pY,nn,hr,hb,ha,hf⟩:=hK
 obtain⟨ig,hs,fg⟩:=id hS
 obtain⟨iO,ht,eX⟩:=id hT
 obtain⟨hc,hh,D5⟩:=id pY
 obtain⟨lv,Qs,Qq,kH,rfl,Qr,Jv,Ju⟩:=hs
 obtain⟨eR,AK,AI,dS,rfl,AJ,sG,sE⟩:=ht
 obtain⟨eo,AO,AN,dX,rfl,DK,yP,yO⟩:=hc
 obtain⟨dJ,u5,u4,dv,rfl,xq,qX,qW⟩:=hh
 obtain⟨kZ,I1,I0,kY,rfl,O4,GD,GC⟩:=hr
 obtain⟨mw,Qv,Qt,mo,rfl,Qu,O6,O5⟩:=hb
 obtain⟨lO,M9,M7,lH,rfl,M8,KH,KG⟩:=ha
 obtain⟨gP,vY,vX,fP,rfl,AM,qQ,qP⟩:=hf
 have C2:=hO.rules
 have qT:=hO.before.1
 have Ph:=hO.after.1
 have Pg:=hO.facts.1
 have Pf:=hO.ways.1
 have I9:=fg.len
 have EP:=eX.len
 have Zj:=hO.oT.two
 have hl9:=hO.c8.nh
 have O3:∀(i:Nat) (p:da),([]:List da)[i]?=some p→cD ⟨ro,[]⟩ 0 (0+i*6) 6 (mN p):=fun _ _ h=>oB h
 obtain⟨TB,qpb,qpo,KE,rfl,qpk,qph,qpl⟩:=hp
 refine zE<|zD 2<|jn fun b3=>jn fun b5=>jd 12 [0,1]<|ja ((K.before.length:Int)-1) (by omega)<|jp (vs:=[zI x.a,zI 0,zI ((K.before.length:Int)-1)]) [] [] (fun aG hs hZ=>e9)<|zD 3<|js 7 (!(iI x.a 0 ((K.before.length:Int)-1))) (fun h1=>?_) (fun h1=>?_)
 ·
  try simp only[zB] at h1
  exfalso;simp only[iI,Bool.and_eq_false_iff,decide_eq_false_iff_not] at h1;omega
 try simp only[zB] at h1
 refine jd 7 [0,1]<|ja ((K.after.length:Int)-1) (by omega)<|jp (vs:=[zI x.b,zI 0,zI ((K.after.length:Int)-1)]) [] [] (fun aG hs hZ=>e9)<|zD 3<|js 7 (!(iI x.b 0 ((K.after.length:Int)-1))) (fun h2=>?_) (fun h2=>?_)
 ·
  try simp only[zB] at h2
  exfalso;simp only[iI,Bool.and_eq_false_iff,decide_eq_false_iff_not] at h2;omega
 try simp only[zB] at h2
 refine zD 5<|jp (vs:=[.slice TB fs.length KE,.func (.func 179) ⟨[]⟩ ⟨[zP b5]⟩]) [0] [(b5,.cells ⟨[zI x.a,zI x.b,.bool x.same]⟩ 100 (0,0))] (fun aG hs hZ=>an3 ((show bB _ _ _ _ _ from ⟨TB,qpb,qpo,KE,rfl,qpk,qph,qpl⟩).up hs) (by first|omega| (simp only[List.length_set,zM];omega)) hZ.head) ?_
 refine zD 2<|js 24 (decide (bQ (Es x) fs 0≥0)) (fun h3=>?_) (fun h3=>?_)
 ·
  exfalso;have:=of_decide_eq_true h3;omega
 refine zD 7<|zX (zI 0) ⟨rfl,rfl⟩
theorem aBW{w:ByteArray}(hs:1≤w.size∧w.size≤12)(hc:cS w (bs [99,108,97,115,115])=false)(hf:cS w (bs [102,105,110,105,115])=false)(hK:∀b∈w.data.toList,97≤b.toNat∧b.toNat≤122):du zT 255 [.string w] ro (.bool true):=by
 refine zE<|zD 11<|jj 4 [(0,.string w),(2,.bool false),(12,.bool ((decide ((w.size:Int)=0))||(decide ((w.size:Int)>12))))] (fun gI=>?_) (fun hj=>?_)
 rotate_left
 refine js 8 (decide ((w.size:Int)=0)) (fun h1=>?_) (fun h1=>?_)
 ·
  have fq:=h1
  replace fq:=of_decide_eq_true fq
  refine zD 4<|jw 12 (.bool ((decide ((w.size:Int)=0))||(decide ((w.size:Int)>12)))) (w:= .bool true) (by rw[h1]<;>rfl) ?_
  exact zK hj
 ·
  have fq:=h1
  replace fq:=of_decide_eq_false fq
  refine zD 4<|jw 12 (.bool ((decide ((w.size:Int)=0))||(decide ((w.size:Int)>12)))) (w:= .bool (decide ((w.size:Int)>12))) (by rw[h1]<;>rfl) ?_
  exact zK hj
 refine zD 1<|jj 3 [(0,.string w),(2,.bool false),(16,.bool (((decide ((w.size:Int)=0))||(decide ((w.size:Int)>12)))||(cS w (bs [99,108,97,115,115]))))] (fun gI=>?_) (fun hj=>?_)
 rotate_left
 refine js 13 ((decide ((w.size:Int)=0))||(decide ((w.size:Int)>12))) (fun h2=>?_) (fun h2=>?_)
 ·
  have k9:=h2
  try simp only[zB] at k9
  refine zD 3<|jw 16 (.bool (((decide ((w.size:Int)=0))||(decide ((w.size:Int)>12)))||(cS w (bs [99,108,97,115,115])))) (w:= .bool true) (by rw[h2]<;>rfl) ?_
  exact zK hj
 ·
  have k9:=h2
  try simp only[zB] at k9
  refine zD 3<|jw 16 (.bool (((decide ((w.size:Int)=0))||(decide ((w.size:Int)>12)))||(cS w (bs [99,108,97,115,115])))) (w:= .bool (cS w (bs [99,108,97,115,115]))) (by rw[h2]<;>rfl) ?_
  exact zK hj
 refine zD 1<|jj 3 [(0,.string w),(2,.bool false),(20,.bool ((((decide ((w.size:Int)=0))||(decide ((w.size:Int)>12)))||(cS w (bs [99,108,97,115,115])))||(cS w (bs [102,105,110,105,115]))))] (fun gI=>?_) (fun hj=>?_)
 rotate_left
 refine js 17 (((decide ((w.size:Int)=0))||(decide ((w.size:Int)>12)))||(cS w (bs [99,108,97,115,115]))) (fun h3=>?_) (fun h3=>?_)
 ·
  have wD:=h3
  try simp only[zB] at wD
  refine zD 3<|jw 20 (.bool ((((decide ((w.size:Int)=0))||(decide ((w.size:Int)>12)))||(cS w (bs [99,108,97,115,115])))||(cS w (bs [102,105,110,105,115])))) (w:= .bool true) (by rw[h3]<;>rfl) ?_
  exact zK hj
 ·
  have wD:=h3
  try simp only[zB] at wD
  refine zD 3<|jw 20 (.bool ((((decide ((w.size:Int)=0))||(decide ((w.size:Int)>12)))||(cS w (bs [99,108,97,115,115])))||(cS w (bs [102,105,110,105,115])))) (w:= .bool (cS w (bs [102,105,110,105,115]))) (by rw[h3]<;>rfl) ?_
  exact zK hj
 refine zD 1<|js 20 ((((decide ((w.size:Int)=0))||(decide ((w.size:Int)>12)))||(cS w (bs [99,108,97,115,115])))||(cS w (bs [102,105,110,105,115]))) (fun h4=>?_) (fun h4=>?_)
 ·
  try simp only[zB] at h4
  exfalso;simp only[hc,hf,Bool.or_false,Bool.or_eq_true,decide_eq_true_eq,Bool.false_eq_true,or_false] at h4;omega
 try simp only[zB] at h4
 refine zD 6<|jn fun r22=>zD 2<|dw [1,1,0,1,0,0] [] (fun(zz:Nat)=>[(22,zP r22)]) (fun zz=>[.b r22 (.stringIter w zz)]) (fun zz=>zz≤w.data.toList.length) (fun zz=>w.data.toList.length-zz) 0 (by omega) [0] ?_
 rintro p hI K1 bG rest
 refine zD 2 ?_
 cases abY:w.data.toList[p]? with
 |some vo=>
  refine jnA r22 0 abY (by have:=hK _ (zL abY);omega) ?_
  refine zD 7 ?_
  have Zk:=hK _ (zL abY)
  refine zD 9<|jj 3 [(22,zP r22),(31,.bool ((decide ((vo.toNat:Int) <97))||(decide ((vo.toNat:Int)>122))))] (fun gI=>?_) (fun hj=>?_)
  rotate_left
  refine js 28 (decide ((vo.toNat:Int) <97)) (fun h5=>?_) (fun h5=>?_)
  ·
   have N7:=h5
   replace N7:=of_decide_eq_true N7
   refine zD 3<|jw 31 (.bool ((decide ((vo.toNat:Int) <97))||(decide ((vo.toNat:Int)>122)))) (w:= .bool true) (by rw[h5]<;>rfl) ?_
   exact zK hj
  ·
   have N7:=h5
   replace N7:=of_decide_eq_false N7
   refine zD 3<|jw 31 (.bool ((decide ((vo.toNat:Int) <97))||(decide ((vo.toNat:Int)>122)))) (w:= .bool (decide ((vo.toNat:Int)>122))) (by rw[h5]<;>rfl) ?_
   exact zK hj
  refine zD 1<|js 31 ((decide ((vo.toNat:Int) <97))||(decide ((vo.toNat:Int)>122))) (fun h6=>?_) (fun h6=>?_)
  ·
   try simp only[zB] at h6
   exfalso;omega
  try simp only[zB] at h6
  refine zD 2<|bF bG (p+1) (by have:=(List.getElem?_eq_some_iff.1 abY).1;omega) (by have:=(List.getElem?_eq_some_iff.1 abY).1;omega) [0] (Sub.refl _)
 |none=>
  refine jnZ r22 0 abY<|zD 10<|zX (.bool true) ⟨rfl,rfl⟩
def E0(x y:bN):Bool:=cS y.name x.name
theorem atK{x y:bN}(hb:ro b=some (.cells ⟨[.string x.name,zI x.under]⟩ 170 (0,0))):du zT 257 [.agg ⟨[.string y.name,zI y.under]⟩,zP b] ro (.bool (cS y.name x.name)):=by
 refine zE<|zD 2<|jn fun b2=>jd 7 [0]<|jl (b:=b) (off:=0) (m:=2) (vs:=[.string x.name,zI x.under]) 0 ⟨_,_,_,.inl hb,rfl⟩<|zD 4<|zX (.bool (cS y.name x.name)) ⟨rfl,rfl⟩
theorem atJ{v:Value}{fs:List bN}{x:bN}(hf:bB ro v 2 pe fs)(hn:fs.length≤1000)(hb:ro b=some (.cells ⟨[.string x.name,zI x.under]⟩ 170 (0,0))):du zT 292 [v,.func (.func 257) ⟨[]⟩ ⟨[zP b]⟩] ro (zI (bQ (E0 x) fs 0)):=by
 obtain⟨gP,vY,vX,fP,rfl,AM,qQ,qP⟩:=hf
 refine zE<|zD 12<|dw [1,0,1,0,0] [] (fun(zz:Nat)=>[(0,.slice gP fs.length fP),(1,.func (.func 257) ⟨[]⟩ ⟨[zP b]⟩),(7,zI (fs.length:Int)),(8,zI (zz:Int))]) (fun zz=>[]) (fun zz=>zz≤fs.length∧bQ (E0 x) fs 0=bQ (E0 x) (fs.drop zz) zz) (fun zz=>fs.length-zz) 0 ⟨by omega,rfl⟩ [] ?_
 rintro k hI K1 bG rest
 refine zD 5<|zJ 9 ((k:Int) <(fs.length:Int)) (fun h1=>?_) fun h1=>?_
 ·
  refine zD 14 ?_
  obtain⟨fI,eH⟩:=zG fs k
  refine gX fP 2 qQ eH<|jl 0 (qP _ _ eH)<|jp (vs:=[.agg ⟨[.string fI.name,zI fI.under]⟩,zP b]) [] [] (fun aG hs hZ=>(atK (y:=fI) (hs _ _ hb)))<|zD 1<|js 16 (E0 x fI) (fun h2=>?_) (fun h2=>?_)
  ·
   refine zD 7<|zX (zI (k:Int)) ⟨by rw[hI.2,jK eH,show E0 x fI=true from (by assumption)];rfl,rfl⟩
  refine zD 3<|ja ((k:Int)+1) (by omega)<|zD 2<|bF bG (k+1) ⟨by omega,by rw[hI.2,jK eH,show E0 x fI=false from (by assumption)];rfl⟩ (by omega) [] (Sub.refl _)
 refine zD 7<|zX (zI (-1)) ⟨by rw[hI.2,qE (by omega)],rfl⟩
theorem amy{v:Value}{fs:List bN}{x:bN}(hf:bB ro v 2 pe fs)(hn:fs.length≤1000)(hb:ro b=some (.cells ⟨[.string x.name,zI x.under]⟩ 170 (0,0))):du zT 256 [v,.func (.func 257) ⟨[]⟩ ⟨[zP b]⟩] ro (.bool (decide (bQ (E0 x) fs 0≥0))):=by
 obtain⟨gP,vY,vX,fP,rfl,AM,qQ,qP⟩:=hf
 refine zE<|zD 8<|jp (vs:=[.slice gP fs.length fP,.func (.func 257) ⟨[]⟩ ⟨[zP b]⟩]) [] [] (fun aG hs hZ=>atJ ((show bB _ _ _ _ _ from ⟨gP,vY,vX,fP,rfl,AM,qQ,qP⟩).up hs) (by first|omega| (simp only[List.length_set,zM];omega)) (hs _ _ hb)) ?_
 refine zD 4<|zX (.bool (decide ((bQ (E0 x) fs 0)≥0))) ⟨rfl,rfl⟩
def hdP(x y:bx):Bool:=cS y.word x.word
theorem aB4{x y:bx}(hb:ro b=some (.cells ⟨[.string x.word,zI x.cls,zI x.ou,x.dV]⟩ 173 (0,0))):du zT 259 [.agg ⟨[.string y.word,zI y.cls,zI y.ou,y.dV]⟩,zP b] ro (.bool (cS y.word x.word)):=by
 refine zE<|zD 2<|jn fun b2=>jd 7 [0]<|jl (b:=b) (off:=0) (m:=4) (vs:=[.string x.word,zI x.cls,zI x.ou,x.dV]) 0 ⟨_,_,_,.inl hb,rfl⟩<|zD 4<|zX (.bool (cS y.word x.word)) ⟨rfl,rfl⟩
theorem aB3{v:Value}{fs:List bx}{x:bx}(hf:bB ro v 4 mf fs)(hn:fs.length≤1000)(hb:ro b=some (.cells ⟨[.string x.word,zI x.cls,zI x.ou,x.dV]⟩ 173 (0,0))):du zT 293 [v,.func (.func 259) ⟨[]⟩ ⟨[zP b]⟩] ro (zI (bQ (hdP x) fs 0)):=by
 obtain⟨gP,vY,vX,fP,rfl,AM,qQ,qP⟩:=hf
 refine zE<|zD 12<|dw [1,0,1,0,0] [] (fun(zz:Nat)=>[(0,.slice gP fs.length fP),(1,.func (.func 259) ⟨[]⟩ ⟨[zP b]⟩),(7,zI (fs.length:Int)),(8,zI (zz:Int))]) (fun zz=>[]) (fun zz=>zz≤fs.length∧bQ (hdP x) fs 0=bQ (hdP x) (fs.drop zz) zz) (fun zz=>fs.length-zz) 0 ⟨by omega,rfl⟩ [] ?_
 rintro k hI K1 bG rest
 refine zD 5<|zJ 9 ((k:Int) <(fs.length:Int)) (fun h1=>?_) fun h1=>?_
 ·
  refine zD 14 ?_
  obtain⟨fI,eH⟩:=zG fs k
  refine gX fP 4 qQ eH<|jl 0 (qP _ _ eH)<|jp (vs:=[.agg ⟨[.string fI.word,zI fI.cls,zI fI.ou,fI.dV]⟩,zP b]) [] [] (fun aG hs hZ=>(aB4 (y:=fI) (hs _ _ hb)))<|zD 1<|js 16 (hdP x fI) (fun h2=>?_) (fun h2=>?_)
  ·
   refine zD 7<|zX (zI (k:Int)) ⟨by rw[hI.2,jK eH,show hdP x fI=true from (by assumption)];rfl,rfl⟩
  refine zD 3<|ja ((k:Int)+1) (by omega)<|zD 2<|bF bG (k+1) ⟨by omega,by rw[hI.2,jK eH,show hdP x fI=false from (by assumption)];rfl⟩ (by omega) [] (Sub.refl _)
 refine zD 7<|zX (zI (-1)) ⟨by rw[hI.2,qE (by omega)],rfl⟩
theorem atG{v:Value}{fs:List bx}{x:bx}(hf:bB ro v 4 mf fs)(hn:fs.length≤1000)(hb:ro b=some (.cells ⟨[.string x.word,zI x.cls,zI x.ou,x.dV]⟩ 173 (0,0))):du zT 258 [v,.func (.func 259) ⟨[]⟩ ⟨[zP b]⟩] ro (.bool (decide (bQ (hdP x) fs 0≥0))):=by
 obtain⟨gP,vY,vX,fP,rfl,AM,qQ,qP⟩:=hf
 refine zE<|zD 8<|jp (vs:=[.slice gP fs.length fP,.func (.func 259) ⟨[]⟩ ⟨[zP b]⟩]) [] [] (fun aG hs hZ=>aB3 ((show bB _ _ _ _ _ from ⟨gP,vY,vX,fP,rfl,AM,qQ,qP⟩).up hs) (by first|omega| (simp only[List.length_set,zM];omega)) (hs _ _ hb)) ?_
 refine zD 4<|zX (.bool (decide ((bQ (hdP x) fs 0)≥0))) ⟨rfl,rfl⟩
def Aw(w:ByteArray):Bool:=Nat.ble 1 w.size&&(Nat.ble w.size 12&&(!cS w (bs [99,108,97,115,115])&&(!cS w (bs [102,105,110,105,115])&&w.data.toList.all fun b=>Nat.ble 97 b.toNat&&Nat.ble b.toNat 122)))
theorem aaJ:∀w∈nB,Aw w=true:=List.all_eq_true.1 (by kernel_rfl)
theorem acJ:∀w∈pz,Aw w=true:=List.all_eq_true.1 (by kernel_rfl)
theorem aes{w:ByteArray}(h:Aw w=true):du zT 255 [.string w] ro (.bool true):=by
 simp only[Aw,Bool.and_eq_true,Nat.ble_eq,Bool.not_eq_true',List.all_eq_true] at h
 exact aBW ⟨h.1,h.2.1⟩ h.2.2.1 h.2.2.2.1 h.2.2.2.2
structure lK(cs:List bN)(hd:List cA):Prop where
 nc:0 <cs.length∧cs.length≤6
 nh:hd.length≤6
 cls:∀(i:Nat) (c:bN),cs[i]?=some c→Aw c.name=true∧ -1≤c.under∧c.under <i
 names:(cs.map (·.name)).Pairwise fun a b=>cS a b=false
 Bc:∀(i:Nat) (x:cA),hd[i]?=some x→Aw x.word=true∧gH cs.length hd.length i x
 words:(hd.map (·.word)).Pairwise fun a b=>cS a b=false∧strLt b a=false
theorem xb.v(h:xb cs hd):lK cs hd:=
 ⟨⟨h.nc.1,by have:=h.nc.2;omega⟩,by have:=h.nh;omega,fun i c hc=>⟨aaJ _ (h.cls i c hc).1,(h.cls i c hc).2⟩,h.names,fun i x hx=>⟨acJ _ (h.Bc i x hx).1,(h.Bc i x hx).2⟩,h.words⟩
theorem SN{p:α→α→Bool}{l:List α}{x:α}(h:l.Pairwise fun y x=>p x y=false)(hx:l[i]?=some x):bQ (p x) (l.take i) 0 <0:=by
 rw[De]
 ·omega
 intro y hy
 obtain⟨j,hj⟩:=List.getElem?_of_mem hy
 rw[List.getElem?_take] at hj
 split at hj
 ·rename_i Aj
  exact qj h Aj hj hx
 cases hj
theorem apD{x:bN}(h:lK cs hd)(hx:cs[i]?=some x):bQ (E0 x) (cs.take i) 0 <0:=
 SN (p:=E0) (List.pairwise_map.1 h.names) hx
theorem PC{hv:List bx}(h:de dq hv hd):hv.map (·.word)=hd.map (·.word):=by
 induction h with
 |nil=>rfl
 |cons h1 _ ih=>simp only[List.map_cons,h1.1,ih]
theorem axM{hv:List bx}{x:bx}(h:lK cs hd)(hs:de dq hv hd)(hx:hv[i]?=some x):bQ (hdP x) (hv.take i) 0 <0:=
 SN (p:=hdP) ((List.pairwise_map.1 (PC hs▸h.words)).imp fun h=>h.1) hx
theorem aGI{hv:List bx}{j:Nat}{x y:bx}(h:lK cs hd)(hs:de dq hv hd)(Jb:j <i)(hx:hv[i]?=some x) (hy:hv[j]?=some y):strLt x.word y.word=false:=
 (qj (List.pairwise_map.1 (PC hs▸h.words)) Jb hy hx).2
theorem aeJ{nc nh:Nat}{x:bx}{y:cA}(h:gH nc nh i y)(hr:rM ro x y):
 (-1≤x.cls∧x.cls <nc)∧(-1≤x.ou∧x.ou <nh∧x.ou≠i)∧(y.dV.length≤nh∧y.dV.Pairwise (· < ·)∧∀z∈y.dV,0≤z∧z <nh∧z≠i)∧(x.ou≠ -1→x.cls= -1∧y.dV.length=0)∧(x.ou= -1→x.cls= -1→y.dV.length≠0):=by
 rw[hr.2.1,hr.2.2.1]
 exact⟨h.1,h.2.1,h.2.2.1,fun a=>⟨(h.2.2.2.1 a).1,by rw[(h.2.2.2.1 a).2];rfl⟩,fun a b c=>h.2.2.2.2 a b (List.eq_nil_of_length_eq_zero c)⟩
theorem atM{v:Value}(hc:bB ro v 2 pe cs)(hT:lK cs hd)(hi:i <cs.length):du zT 231 [v,zI (i:Int)] ro (zI 0):=by
 obtain⟨eo,AO,AN,dX,rfl,DK,yP,yO⟩:=hc
 have DX:=hT.nc
 refine zE<|zD 8 ?_
 obtain⟨x8,hx8⟩:=zG cs i
 refine gX dX 2 yP hx8<|jl 0 (yO _ _ hx8)<|jn fun b5=>jd 5 [0] ?_
 have iM:=hT.cls _ _ hx8
 have hcn:bQ (E0 x8) (cs.take (i:Int).toNat) 0 <0:=apD hT hx8
 have htk:(cs.take (i:Int).toNat).length≤cs.length:=by rw[List.length_take];omega
 refine jd 3 [0]<|jp (vs:=[.string x8.name]) [] [] (fun aG hs hZ=>(aes iM.1))<|zD 8<|jcH (hi:=(i:Int)) (show bB _ _ _ _ _ from ⟨eo,AO,AN,dX,rfl,DK,yP,yO⟩) (by omega) (fun v18 awt=>?_)
 obtain⟨aq0,aC5,aC1,aqZ,rfl,aC3,aC4,aC2⟩:=awt
 refine zD 1<|jp (vs:=[.slice aq0 ((((cs).take (i:Int).toNat)).length) aqZ,.func (.func 257) ⟨[]⟩ ⟨[zP b5]⟩]) [0] [(b5,.cells ⟨[.string x8.name,zI x8.under]⟩ 170 (0,0))] (fun aG hs hZ=>amy (x:=x8) ((show bB _ _ _ _ _ from ⟨aq0,aC5,aC1,aqZ,rfl,aC3,aC4,aC2⟩).up hs) (by first|omega| (simp only[List.length_set,zM];omega)) hZ.head) ?_
 refine zD 2<|js 15 (decide (bQ (E0 x8) ((cs).take (i:Int).toNat) 0≥0)) (fun h1=>?_) (fun h1=>?_)
 ·
  exfalso;have:=of_decide_eq_true h1;omega
 refine jd 7 [0]<|ja ((cs.length:Int)-1) (by omega)<|jp (vs:=[zI x8.under,zI (-1),zI ((cs.length:Int)-1)]) [] [] (fun aG hs hZ=>jb)<|zD 3<|js 21 (!(iI x8.under (-1) ((cs.length:Int)-1))) (fun h2=>?_) (fun h2=>?_)
 ·
  try simp only[zB] at h2
  exfalso;simp only[iI,Bool.and_eq_false_iff,decide_eq_false_iff_not] at h2;omega
 try simp only[zB] at h2
 refine jd 9 [0]<|zJ 29 (x8.under≥(i:Int)) (fun h3=>?_) fun h3=>?_
 ·
  exfalso;omega
 refine zD 7<|zX (zI 0) ⟨rfl,rfl⟩
theorem aB2{hv:List bx}(hR:jh ro vc vh cs hv hd)(nn:de dq hv hd)(hT:lK cs hd)(hi:i <hv.length):du zT 232 [.agg ⟨[vc,vh]⟩,zI (i:Int)] ro (zI 0):=by
 obtain⟨hc,hh,di⟩:=id hR
 obtain⟨eo,AO,AN,dX,rfl,DK,yP,yO⟩:=hc
 obtain⟨dJ,u5,u4,dv,rfl,xq,qX,qW⟩:=hh
 have DX:=hT.nc
 have hnh:=hT.nh
 have hlen:=nn.len
 refine zE<|zD 2<|jn fun b2=>jd 9 [0,0] ?_
 obtain⟨fI,eH⟩:=zG hv i
 refine gX dv 4 qX eH<|jl 0 (qW _ _ eH)<|aS 7 fun BX B6 An=>jn fun b6=>eG An [1]<|zD 1<|aS 9 fun As AA zi=>jsx 0 b6 0 [.string ByteArray.empty,zI 0,zI 0,zS] [.string fI.word,zI fI.cls,zI fI.ou,fI.dV] 173 (mH di _ (zL eH)) rfl<|fW zi<|zD 4 ?_
 obtain⟨Fa,aER,awz⟩:=di.get eH
 obtain⟨fy,rX,rV,eO,hqe,tT,lN,mC⟩:=awz.2.2.2
 have aQs:=(hT.Bc _ _ aER).1
 have hsh:=aeJ (hT.Bc _ _ aER).2 awz
 obtain⟨bZ,oO,BR,kA,hs5⟩:=hsh
 have hwb:Aw fI.word=true:=by rw[awz.1];exact aQs
 have hcn:bQ (hdP fI) (hv.take (i:Int).toNat) 0 <0:=axM hT nn eH
 have htk:(hv.take (i:Int).toNat).length≤hv.length:=by rw[List.length_take];omega
 refine jmw 0 [.b b6 (.cells ⟨[.string fI.word,zI fI.cls,zI fI.ou,.slice fy Fa.dV.length eO]⟩ 173 (0,0))] (L:=[(b6,.cells ⟨[.string fI.word,zI fI.cls,zI fI.ou,fI.dV]⟩ 173 (0,0))]) (by rw[hqe];rfl) ?_
 refine jd 3 [0]<|jp (vs:=[.string fI.word]) [] [] (fun aG hs hZ=>(aes hwb))<|zD 8<|jcH (hi:=(i:Int)) (show bB _ _ _ _ _ from ⟨dJ,u5,u4,dv,rfl,xq,qX,qW⟩) (by omega) (fun v24 aQQ=>?_)
 obtain⟨aqY,aC0,aCW,aqX,rfl,aCY,aCZ,aCX⟩:=aQQ
 refine zD 1<|jp (vs:=[.slice aqY ((((hv).take (i:Int).toNat)).length) aqX,.func (.func 259) ⟨[]⟩ ⟨[zP b6]⟩]) [0] [(b6,.cells ⟨[.string fI.word,zI fI.cls,zI fI.ou,.slice fy Fa.dV.length eO]⟩ 173 (0,0))] (fun aG hs hZ=>atG (x:=fI) ((show bB _ _ _ _ _ from ⟨aqY,aC0,aCW,aqX,rfl,aCY,aCZ,aCX⟩).up hs) (by first|omega| (simp only[List.length_set,zM];omega)) (by rw[hqe];exact hZ.head)) ?_
 refine zD 2<|js 21 (decide (bQ (hdP fI) ((hv).take (i:Int).toNat) 0≥0)) (fun h3=>?_) (fun h3=>?_)
 ·
  exfalso;have:=of_decide_eq_true h3;omega
 refine zD 6<|js 2 (decide ((i:Int)>0)) (fun h4=>?_) (fun h4=>?_)
 ·
  have uW:=h4
  replace uW:=of_decide_eq_true uW
  refine jd 4 [0]<|ja ((i:Int)-1) (by omega) ?_
  obtain⟨x36,y5⟩:=zG hv (((i:Int)-1).toNat)
  refine I4 ((i:Int)-1) dv 4 qX y5 (by omega)<|zD 1<|jl 0 (qW _ _ y5)<|zD 4<|js 27 (strLt fI.word x36.word) (fun h5=>?_) (fun h5=>?_)
  ·
   exfalso;rw[aGI hT nn (by omega) eH y5] at h5;cases h5
  refine jd 9 [0,1]<|ja ((cs.length:Int)-1) (by omega)<|jp (vs:=[zI fI.cls,zI (-1),zI ((cs.length:Int)-1)]) [] [] (fun aG hs hZ=>jb)<|zD 3<|js 41 (!(iI fI.cls (-1) ((cs.length:Int)-1))) (fun h6=>?_) (fun h6=>?_)
  ·
   try simp only[zB] at h6
   exfalso;simp only[iI,Bool.and_eq_false_iff,decide_eq_false_iff_not] at h6;omega
  try simp only[zB] at h6
  refine jd 6 [0]<|ja ((hv.length:Int)-1) (by omega)<|jp (vs:=[zI fI.ou,zI (-1),zI ((hv.length:Int)-1)]) [] [] (fun aG hs hZ=>jb)<|zD 3<|js 41 (!(iI fI.ou (-1) ((hv.length:Int)-1))) (fun h7=>?_) (fun h7=>?_)
  ·
   try simp only[zB] at h7
   exfalso;simp only[iI,Bool.and_eq_false_iff,decide_eq_false_iff_not] at h7;omega
  try simp only[zB] at h7
  refine jd 9 [0]<|zJ 57 (fI.ou=(i:Int)) (fun h8=>?_) fun h8=>?_
  ·
   exfalso;omega
  refine jd 11 [0]<|dw [1,1,1,0,1,0,0] [] (fun(zz:Nat)=>[(1,zI (i:Int)),(5,.slice dJ hv.length dv),(6,zP b6),(63,.slice fy Fa.dV.length eO),(64,zI (Fa.dV.length:Int)),(65,zI (zz:Int))]) (fun zz=>[.b b6 (.cells ⟨[.string fI.word,zI fI.cls,zI fI.ou,.slice fy Fa.dV.length eO]⟩ 173 (0,0))]) (fun zz=>zz≤Fa.dV.length) (fun zz=>Fa.dV.length-zz) 0 (by omega) [0] ?_
  rintro k hI K3 hK3 rest
  refine zD 5<|zJ 66 ((k:Int) <(Fa.dV.length:Int)) (fun h9=>?_) fun h9=>?_
  ·
   refine zD 7 ?_
   obtain⟨x68,NH⟩:=zG Fa.dV k
   refine gX eO 1 lN NH<|jl 0 (mC _ _ NH)<|zD 5 ?_
   have aTs:=BR.2.2 _ (zL NH)
   refine zD 4<|ja ((hv.length:Int)-1) (by omega)<|jp (vs:=[zI x68,zI 0,zI ((hv.length:Int)-1)]) [] [] (fun aG hs hZ=>jb)<|zD 3<|js 70 (!(iI x68 0 ((hv.length:Int)-1))) (fun EV=>?_) (fun EV=>?_)
   ·
    try simp only[zB] at EV
    exfalso;simp only[iI,Bool.and_eq_false_iff,decide_eq_false_iff_not] at EV;omega
   try simp only[zB] at EV
   refine zD 8<|zJ 77 (x68=(i:Int)) (fun h11=>?_) fun h11=>?_
   ·
    exfalso;omega
   refine zD 6<|js 84 (decide ((k:Int)>0)) (fun C8=>?_) (fun C8=>?_)
   ·
    have ajw:=C8
    replace ajw:=of_decide_eq_true ajw
    refine jd 4 [0]<|ja ((k:Int)-1) (by omega) ?_
    obtain⟨x90,Vi⟩:=zG Fa.dV (((k:Int)-1).toNat)
    refine I4 ((k:Int)-1) eO 1 lN Vi (by omega)<|jl 0 (mC _ _ Vi)<|zD 4<|zJ 81 (x68≤x90) (fun xE=>?_) fun xE=>?_
    ·
     exfalso;have:=qj BR.2.1 (show ((k:Int)-1).toNat <k by omega) Vi NH;omega
    refine zD 3<|ja ((k:Int)+1) (by omega)<|zD 2<|bF hK3 (k+1) (by omega) (by omega) [0] (Sub.refl _)
   have ajw:=C8
   replace ajw:=of_decide_eq_false ajw
   refine zD 14<|ja ((k:Int)+1) (by omega)<|zD 2<|bF hK3 (k+1) (by omega) (by omega) [0] (Sub.refl _)
  refine jd 9 [0]<|js 98 (!decide (fI.ou=(-1))) (fun h14=>?_) (fun h14=>?_)
  ·
   have aju:=h14
   replace aju:=of_decide_eq_false (by simpa using aju)
   refine jd 4 [0]<|js 102 (!decide (fI.cls=(-1))) (fun N8=>?_) (fun N8=>?_)
   ·
    have HX:=N8
    replace HX:=of_decide_eq_false (by simpa using HX)
    refine zD 29 ?_
    exfalso;omega
   have HX:=N8
   replace HX:=of_decide_eq_true (by simpa using HX)
   refine jd 7 [0]<|js 109 (decide ((Fa.dV.length:Int)>0)) (fun JY=>?_) (fun JY=>?_)
   ·
    have ajt:=JY
    replace ajt:=of_decide_eq_true ajt
    refine zD 22 ?_
    exfalso;omega
   have ajt:=JY
   replace ajt:=of_decide_eq_false ajt
   refine jd 4 [0]<|js 113 (decide (fI.ou=(-1))) (fun h17=>?_) (fun h17=>?_)
   ·
    have wE:=h17
    replace wE:=of_decide_eq_true wE
    refine jd 5 [0]<|js 118 (decide (fI.cls=(-1))) (fun h18=>?_) (fun h18=>?_)
    ·
     have ajr:=h18
     replace ajr:=of_decide_eq_true ajr
     refine jd 7 [0]<|zJ 124 ((Fa.dV.length:Int)=0) (fun ZA=>?_) fun ZA=>?_
     ·
      exfalso;(try simp only[Bool.or_eq_true,Bool.and_eq_true,decide_eq_true_eq,Bool.not_eq_true',decide_eq_false_iff_not] at ZA);omega
     refine zD 7<|zX (zI 0) ⟨rfl,rfl⟩
    have ajr:=h18
    replace ajr:=of_decide_eq_false ajr
    refine zD 14<|zX (zI 0) ⟨rfl,rfl⟩
   have wE:=h17
   replace wE:=of_decide_eq_false wE
   refine zD 19<|zX (zI 0) ⟨rfl,rfl⟩
  have aju:=h14
  replace aju:=of_decide_eq_true (by simpa using aju)
  refine jd 15 [0]<|js 113 (decide (fI.ou=(-1))) (fun h20=>?_) (fun h20=>?_)
  ·
   have HW:=h20
   replace HW:=of_decide_eq_true HW
   refine jd 5 [0]<|js 118 (decide (fI.cls=(-1))) (fun h21=>?_) (fun h21=>?_)
   ·
    have ajo:=h21
    replace ajo:=of_decide_eq_true ajo
    refine jd 7 [0]<|zJ 124 ((Fa.dV.length:Int)=0) (fun LW=>?_) fun LW=>?_
    ·
     exfalso;(try simp only[Bool.or_eq_true,Bool.and_eq_true,decide_eq_true_eq,Bool.not_eq_true',decide_eq_false_iff_not] at LW);omega
    refine zD 7<|zX (zI 0) ⟨rfl,rfl⟩
   have ajo:=h21
   replace ajo:=of_decide_eq_false ajo
   refine zD 14<|zX (zI 0) ⟨rfl,rfl⟩
  have HW:=h20
  replace HW:=of_decide_eq_false HW
  refine zD 19<|zX (zI 0) ⟨rfl,rfl⟩
 have uW:=h4
 replace uW:=of_decide_eq_false uW
 refine jd 21 [0,1]<|ja ((cs.length:Int)-1) (by omega)<|jp (vs:=[zI fI.cls,zI (-1),zI ((cs.length:Int)-1)]) [] [] (fun aG hs hZ=>jb)<|zD 3<|js 41 (!(iI fI.cls (-1) ((cs.length:Int)-1))) (fun Fz=>?_) (fun Fz=>?_)
 ·
  try simp only[zB] at Fz
  exfalso;simp only[iI,Bool.and_eq_false_iff,decide_eq_false_iff_not] at Fz;omega
 try simp only[zB] at Fz
 refine jd 6 [0]<|ja ((hv.length:Int)-1) (by omega)<|jp (vs:=[zI fI.ou,zI (-1),zI ((hv.length:Int)-1)]) [] [] (fun aG hs hZ=>jb)<|zD 3<|js 41 (!(iI fI.ou (-1) ((hv.length:Int)-1))) (fun h24=>?_) (fun h24=>?_)
 ·
  try simp only[zB] at h24
  exfalso;simp only[iI,Bool.and_eq_false_iff,decide_eq_false_iff_not] at h24;omega
 try simp only[zB] at h24
 refine jd 9 [0]<|zJ 57 (fI.ou=(i:Int)) (fun h25=>?_) fun h25=>?_
 ·
  exfalso;omega
 refine jd 11 [0]<|dw [1,1,1,0,1,0,0] [] (fun(zz:Nat)=>[(1,zI (i:Int)),(5,.slice dJ hv.length dv),(6,zP b6),(63,.slice fy Fa.dV.length eO),(64,zI (Fa.dV.length:Int)),(65,zI (zz:Int))]) (fun zz=>[.b b6 (.cells ⟨[.string fI.word,zI fI.cls,zI fI.ou,.slice fy Fa.dV.length eO]⟩ 173 (0,0))]) (fun zz=>zz≤Fa.dV.length) (fun zz=>Fa.dV.length-zz) 0 (by omega) [0] ?_
 rintro k hI K4 hK4 rest
 refine zD 5<|zJ 66 ((k:Int) <(Fa.dV.length:Int)) (fun h26=>?_) fun h26=>?_
 ·
  refine zD 7 ?_
  obtain⟨x68,NH⟩:=zG Fa.dV k
  refine gX eO 1 lN NH<|jl 0 (mC _ _ NH)<|zD 5 ?_
  have aTs:=BR.2.2 _ (zL NH)
  refine zD 4<|ja ((hv.length:Int)-1) (by omega)<|jp (vs:=[zI x68,zI 0,zI ((hv.length:Int)-1)]) [] [] (fun aG hs hZ=>jb)<|zD 3<|js 70 (!(iI x68 0 ((hv.length:Int)-1))) (fun h27=>?_) (fun h27=>?_)
  ·
   try simp only[zB] at h27
   exfalso;simp only[iI,Bool.and_eq_false_iff,decide_eq_false_iff_not] at h27;omega
  try simp only[zB] at h27
  refine zD 8<|zJ 77 (x68=(i:Int)) (fun h28=>?_) fun h28=>?_
  ·
   exfalso;omega
  refine zD 6<|js 84 (decide ((k:Int)>0)) (fun h29=>?_) (fun h29=>?_)
  ·
   have ajj:=h29
   replace ajj:=of_decide_eq_true ajj
   refine jd 4 [0]<|ja ((k:Int)-1) (by omega) ?_
   obtain⟨x90,Vi⟩:=zG Fa.dV (((k:Int)-1).toNat)
   refine I4 ((k:Int)-1) eO 1 lN Vi (by omega)<|jl 0 (mC _ _ Vi)<|zD 4<|zJ 81 (x68≤x90) (fun h30=>?_) fun h30=>?_
   ·
    exfalso;have:=qj BR.2.1 (show ((k:Int)-1).toNat <k by omega) Vi NH;omega
   refine zD 3<|ja ((k:Int)+1) (by omega)<|zD 2<|bF hK4 (k+1) (by omega) (by omega) [0] (Sub.refl _)
  have ajj:=h29
  replace ajj:=of_decide_eq_false ajj
  refine zD 14<|ja ((k:Int)+1) (by omega)<|zD 2<|bF hK4 (k+1) (by omega) (by omega) [0] (Sub.refl _)
 refine jd 9 [0]<|js 98 (!decide (fI.ou=(-1))) (fun h31=>?_) (fun h31=>?_)
 ·
  have aji:=h31
  replace aji:=of_decide_eq_false (by simpa using aji)
  refine jd 4 [0]<|js 102 (!decide (fI.cls=(-1))) (fun h32=>?_) (fun h32=>?_)
  ·
   have ajg:=h32
   replace ajg:=of_decide_eq_false (by simpa using ajg)
   refine zD 29 ?_
   exfalso;omega
  have ajg:=h32
  replace ajg:=of_decide_eq_true (by simpa using ajg)
  refine jd 7 [0]<|js 109 (decide ((Fa.dV.length:Int)>0)) (fun h33=>?_) (fun h33=>?_)
  ·
   have ajf:=h33
   replace ajf:=of_decide_eq_true ajf
   refine zD 22 ?_
   exfalso;omega
  have ajf:=h33
  replace ajf:=of_decide_eq_false ajf
  refine jd 4 [0]<|js 113 (decide (fI.ou=(-1))) (fun h34=>?_) (fun h34=>?_)
  ·
   have aje:=h34
   replace aje:=of_decide_eq_true aje
   refine jd 5 [0]<|js 118 (decide (fI.cls=(-1))) (fun h35=>?_) (fun h35=>?_)
   ·
    have ajd:=h35
    replace ajd:=of_decide_eq_true ajd
    refine jd 7 [0]<|zJ 124 ((Fa.dV.length:Int)=0) (fun h36=>?_) fun h36=>?_
    ·
     exfalso;(try simp only[Bool.or_eq_true,Bool.and_eq_true,decide_eq_true_eq,Bool.not_eq_true',decide_eq_false_iff_not] at h36);omega
    refine zD 7<|zX (zI 0) ⟨rfl,rfl⟩
   have ajd:=h35
   replace ajd:=of_decide_eq_false ajd
   refine zD 14<|zX (zI 0) ⟨rfl,rfl⟩
  have aje:=h34
  replace aje:=of_decide_eq_false aje
  refine zD 19<|zX (zI 0) ⟨rfl,rfl⟩
 have aji:=h31
 replace aji:=of_decide_eq_true (by simpa using aji)
 refine jd 15 [0]<|js 113 (decide (fI.ou=(-1))) (fun h37=>?_) (fun h37=>?_)
 ·
  have ajc:=h37
  replace ajc:=of_decide_eq_true ajc
  refine jd 5 [0]<|js 118 (decide (fI.cls=(-1))) (fun h38=>?_) (fun h38=>?_)
  ·
   have ajb:=h38
   replace ajb:=of_decide_eq_true ajb
   refine jd 7 [0]<|zJ 124 ((Fa.dV.length:Int)=0) (fun h39=>?_) fun h39=>?_
   ·
    exfalso;(try simp only[Bool.or_eq_true,Bool.and_eq_true,decide_eq_true_eq,Bool.not_eq_true',decide_eq_false_iff_not] at h39);omega
   refine zD 7<|zX (zI 0) ⟨rfl,rfl⟩
  have ajb:=h38
  replace ajb:=of_decide_eq_false ajb
  refine zD 14<|zX (zI 0) ⟨rfl,rfl⟩
 have ajc:=h37
 replace ajc:=of_decide_eq_false ajc
 refine zD 19<|zX (zI 0) ⟨rfl,rfl⟩
theorem XF{hv:List bx}(hR:jh ro vc vh cs hv hd)(nn:de dq hv hd)(hT:lK cs hd):du zT 176 [.agg ⟨[vc,vh]⟩] ro (zI 0):=by
 obtain⟨hc,hh,di⟩:=id hR
 obtain⟨eo,AO,AN,dX,rfl,DK,yP,yO⟩:=hc
 obtain⟨dJ,u5,u4,dv,rfl,xq,qX,qW⟩:=hh
 have DX:=hT.nc
 have hnh:=hT.nh
 have hlen:=nn.len
 refine zE<|zD 2<|jn fun b1=>jd 10 [0]<|jj 5 [(1,zP b1),(2,zI 0),(16,.bool ((decide ((cs.length:Int)>6))||(decide ((hv.length:Int)>6))))] (fun gI=>?_) (fun hj=>?_)
 rotate_left
 refine js 11 (decide ((cs.length:Int)>6)) (fun h1=>?_) (fun h1=>?_)
 ·
  have fq:=h1
  replace fq:=of_decide_eq_true fq
  refine zD 5<|jw 16 (.bool ((decide ((cs.length:Int)>6))||(decide ((hv.length:Int)>6)))) (w:= .bool true) (by rw[h1]<;>rfl) ?_
  exact zK hj
 ·
  have fq:=h1
  replace fq:=of_decide_eq_false fq
  refine jd 5 [0]<|jw 16 (.bool ((decide ((cs.length:Int)>6))||(decide ((hv.length:Int)>6)))) (w:= .bool (decide ((hv.length:Int)>6))) (by rw[h1]<;>rfl) ?_
  exact zK hj
 refine zD 1<|js 16 ((decide ((cs.length:Int)>6))||(decide ((hv.length:Int)>6))) (fun h2=>?_) (fun h2=>?_)
 ·
  try simp only[zB] at h2
  exfalso;omega
 try simp only[zB] at h2
 refine jd 11 [0]<|dw [1,1,0,1,0,0] [] (fun(zz:Nat)=>[(1,zP b1),(19,zI (cs.length:Int)),(20,zI (zz:Int))]) (fun zz=>[.b b1 (.cells ⟨[.slice eo cs.length dX,.slice dJ hv.length dv]⟩ 33 (0,0))]) (fun zz=>zz≤cs.length) (fun zz=>cs.length-zz) 0 (by omega) [0] ?_
 rintro k hI K1 bG rest
 refine zD 5<|zJ 21 ((k:Int) <(cs.length:Int)) (fun h3=>?_) fun h3=>?_
 ·
  refine jd 14 [0]<|jp (vs:=[.slice eo cs.length dX,zI (k:Int)]) [] [] (fun aG hs hZ=>atM ((show bB _ _ _ _ _ from ⟨eo,AO,AN,dX,rfl,DK,yP,yO⟩).up hs) hT (by omega))<|zD 10<|ja ((k:Int)+1) (by omega)<|zD 2<|bF bG (k+1) (by omega) (by omega) [0] (Sub.refl _)
 refine jd 11 [0]<|dw [1,1,1,0,1,0,0] [] (fun(zz:Nat)=>[(1,zP b1),(33,zI (hv.length:Int)),(34,zI (zz:Int))]) (fun zz=>[.b b1 (.cells ⟨[.slice eo cs.length dX,.slice dJ hv.length dv]⟩ 33 (0,0))]) (fun zz=>zz≤hv.length) (fun zz=>hv.length-zz) 0 (by omega) [0] ?_
 rintro j hJ K2 jV rest
 refine zD 5<|zJ 35 ((j:Int) <(hv.length:Int)) (fun h4=>?_) fun h4=>?_
 ·
  refine jd 13 [0]<|jp (vs:=[.agg ⟨[.slice eo cs.length dX,.slice dJ hv.length dv]⟩,zI (j:Int)]) [] [] (fun aG hs hZ=>(aB2 (hR.up hs) nn hT (by omega)))<|zD 10<|ja ((j:Int)+1) (by omega)<|zD 2<|bF jV (j+1) (by omega) (by omega) [0] (Sub.refl _)
 refine zD 7<|zX (zI 0) ⟨rfl,rfl⟩
theorem atN{hv:List bx}(hR:jh ro vc vh cs hv hd)(nn:de dq hv hd)(hT:lK cs hd):du zT 128 [.agg ⟨[vc,vh]⟩] ro (zI 0):=by
 obtain⟨hc,hh,di⟩:=id hR
 obtain⟨eo,AO,AN,dX,rfl,DK,yP,yO⟩:=hc
 obtain⟨dJ,u5,u4,dv,rfl,xq,qX,qW⟩:=hh
 have DX:=hT.nc
 have hnh:=hT.nh
 have hlen:=nn.len
 refine zE<|zD 2<|jn fun b1=>jd 5 [0]<|jp (vs:=[.agg ⟨[.slice eo cs.length dX,.slice dJ hv.length dv]⟩]) [] [] (fun aG hs hZ=>(XF (hR.up hs) nn hT))<|zD 3<|zX (zI 0) ⟨rfl,rfl⟩
def J2(a b:ByteArray):Int:=bif strLt a b then-1 else bif !(strLt a b||cS a b) then 1 else 0
def Ov:List ByteArray→List ByteArray→Int
 | [],[]=>0
 | [],_::_=> -1
 |_::_,[]=>1
 |x::xs,y::ys=>if J2 x y=0 then Ov xs ys else J2 x y
theorem ZQ{x y:ByteArray}(hx:xs[k]?=some x) (hy:ys[k]?=some y):Ov (xs.drop k) (ys.drop k)=if J2 x y=0 then Ov (xs.drop (k+1)) (ys.drop (k+1)) else J2 x y:=by rw[eE hx,eE hy];rfl
theorem akq{x:ByteArray}(hx:xs[k]?=some x) (hy:¬k <ys.length):Ov (xs.drop k) (ys.drop k)=1:=by rw[eE hx,eA hy];rfl
theorem S4(hx:¬k <xs.length):Ov (xs.drop k) (ys.drop k)=if k <ys.length then-1 else 0:=by
 rw[eA hx]
 split
 ·rename_i h
  rw[List.drop_eq_getElem_cons h];rfl
 rename_i h
 rw[eA h];rfl
def sY(s p:ByteArray):Bool:=decide (s.size≥p.size)&&cS (s.extract 0 p.size) p
structure an where
 h:Int
 n:Int
 l:Int
abbrev cL(x:an):List Value:=[zI x.h,zI x.n,zI x.l]
def pq(h n l:Int)(y:an):Bool:=h==y.h&&(n==y.n&&(l==y.l&&true)&&true)
theorem aIA{a:ByteArray}:du zT 324 [.string a] ro (.bool false):=by
 refine zE<|zD 12<|zX (.bool (!(cS a a))) ⟨by rw[B7.2 rfl];rfl,rfl⟩
theorem aU5{a b:ByteArray}:du zT 309 [.string a,.string b] ro (zI (J2 a b)):=by
 refine zE<|zD 7<|jp (vs:=[.string a]) [] [] (fun aG hs hZ=>aIA)<|zD 5<|jp (vs:=[.string b]) [] [] (fun aG hs hZ=>aIA)<|zD 23<|js 16 (strLt a b) (fun h1=>?_) (fun h1=>?_)
 ·
  refine zD 6<|zX (zI (-1)) ⟨by simp_all[J2],rfl⟩
 refine zD 9<|js 19 (!(strLt a b||cS a b)) (fun h2=>?_) (fun h2=>?_)
 ·
  try simp only[zB] at h2
  refine zD 6<|zX (zI 1) ⟨by simp_all[J2],rfl⟩
 try simp only[zB] at h2
 refine zD 7<|zX (zI 0) ⟨by simp_all[J2],rfl⟩
theorem aM4{v w:Value}(hv:bB ro v 1 pQ xs)(hw:bB ro w 1 pQ ys)(hx:xs.length≤1000)(hy:ys.length≤1000):du zT 282 [v,w] ro (zI (Ov xs ys)):=by
 obtain⟨Qo,qvb,qvo,Eu,rfl,qvk,UK,UJ⟩:=hv
 obtain⟨UI,qwb,qwo,M1,rfl,qwk,qwh,qwl⟩:=hw
 refine zE<|zD 12<|dw [1,0,1,0,0] [] (fun(zz:Nat)=>[(0,.slice Qo xs.length Eu),(1,.slice UI ys.length M1),(9,.slice Qo xs.length Eu),(10,zI (xs.length:Int)),(11,zI (zz:Int))]) (fun zz=>[]) (fun zz=>(zz≤xs.length∧zz≤ys.length)∧Ov xs ys=Ov (xs.drop zz) (ys.drop zz)) (fun zz=>xs.length-zz) 0 ⟨by omega,rfl⟩ [] ?_
 rintro k hI K1 bG rest
 refine zD 5<|zJ 12 ((k:Int) <(xs.length:Int)) (fun h1=>?_) fun h1=>?_
 ·
  refine zD 7 ?_
  obtain⟨fI,eH⟩:=zG xs k
  refine gX Eu 1 UK eH<|jl 0 (UJ _ _ eH)<|zD 11<|zJ 19 ((k:Int)≥(ys.length:Int)) (fun h2=>?_) fun h2=>?_
  ·
   refine zD 6<|zX (zI 1) ⟨by rw[hI.2,akq eH (by omega)],rfl⟩
  refine zD 6 ?_
  obtain⟨sD,uk⟩:=zG ys k
  refine gX M1 1 qwh uk<|jl 0 (qwl _ _ uk)<|zD 6<|jp (vs:=[.string fI,.string sD]) [] [] (fun aG hs hZ=>aU5)<|zD 7<|js 28 (!decide ((J2 fI sD)=0)) (fun h3=>?_) (fun h3=>?_)
  ·
   replace h3:=of_decide_eq_false (by simpa using h3)
   refine zD 7<|zX (zI (J2 fI sD)) ⟨by rw[hI.2,ZQ eH uk,if_neg (by omega)],rfl⟩
  replace h3:=of_decide_eq_true (by simpa using h3)
  refine zD 3<|ja ((k:Int)+1) (by omega)<|zD 2<|bF bG (k+1) ⟨by omega,by rw[hI.2,ZQ eH uk,if_pos (by omega)]⟩ (by omega) [] (Sub.refl _)
 refine zD 11<|zJ 35 ((xs.length:Int) <(ys.length:Int)) (fun h4=>?_) fun h4=>?_
 ·
  refine zD 6<|zX (zI (-1)) ⟨by rw[hI.2,S4 (by omega),if_pos (by omega)],rfl⟩
 refine zD 7<|zX (zI 0) ⟨by rw[hI.2,S4 (by omega),if_neg (by omega)],rfl⟩
theorem ab6{a b:ByteArray}(hn:a.size≤1000∧b.size≤1000):du zT 346 [.string a,.string b] ro (.bool (sY a b)):=by
 refine zE<|zD 12<|js 10 (decide ((a.size:Int)≥(b.size:Int))) (fun h1=>?_) (fun h1=>?_)
 ·
  have fq:=h1
  replace fq:=of_decide_eq_true fq
  refine zD 3<|jtH (b:=a) (hi:=(b.size:Int)) (by omega)<|zD 6<|zX (.bool (cS (a.extract 0 (b.size:Int).toNat) b)) ⟨by simp_all[sY]<;>(intro;omega),rfl⟩
 have fq:=h1
 replace fq:=of_decide_eq_false fq
 refine zD 10<|zX (.bool false) ⟨by simp_all[sY]<;>(intro;omega),rfl⟩
theorem ab7{a b:ByteArray}(hn:a.size≤1000∧b.size≤1000):du zT 339 [.string a,.string b] ro (.bool (sY a b)):=by
 refine zE<|zD 8<|jp (vs:=[.string a,.string b]) [] [] (fun aG hs hZ=>(ab6 (by omega)))<|zD 3<|zX (.bool (sY a b)) ⟨rfl,rfl⟩
theorem agX{v:Value}{ps:List an}{h l:Int}(hp:bB ro v 3 cL ps)(hn:ps.length≤1000):du zT 132 [v,.agg ⟨[zI h,zI n,zI l]⟩] ro (zI (bQ (pq h n l) ps 0)):=by
 obtain⟨TB,qpb,qpo,KE,rfl,qpk,qph,qpl⟩:=hp
 refine zE<|zD 2<|jn fun b3=>zD 10<|dw [1,0,1,0,0] [] (fun(zz:Nat)=>[(0,.slice TB ps.length KE),(3,zP b3),(7,zI (ps.length:Int)),(8,zI (zz:Int))]) (fun zz=>[.b b3 (.cells ⟨[zI h,zI n,zI l]⟩ 132 (0,0))]) (fun zz=>zz≤ps.length∧bQ (pq h n l) ps 0=bQ (pq h n l) (ps.drop zz) zz) (fun zz=>ps.length-zz) 0 ⟨by omega,rfl⟩ [0] ?_
 rintro k hI K1 bG rest
 refine zD 5<|zJ 9 ((k:Int) <(ps.length:Int)) (fun h1=>?_) fun h1=>?_
 ·
  refine jd 14 [0] ?_
  obtain⟨fI,eH⟩:=zG ps k
  refine gX KE 3 qph eH<|jl 0 (qpl _ _ eH)<|jeq aD1 (ayR h n l fI.h fI.n fI.l)<|zD 1<|js 16 (h==fI.h&&(n==fI.n&&(l==fI.l&&true)&&true)) (fun h2=>?_) (fun h2=>?_)
  ·
   refine zD 7<|zX (zI (k:Int)) ⟨by rw[hI.2,jK eH,show pq h n l fI=true from (by assumption)];rfl,rfl⟩
  refine zD 3<|ja ((k:Int)+1) (by omega)<|zD 2<|bF bG (k+1) ⟨by omega,by rw[hI.2,jK eH,show pq h n l fI=false from (by assumption)];rfl⟩ (by omega) [0] (Sub.refl _)
 refine zD 7<|zX (zI (-1)) ⟨by rw[hI.2,qE (by omega)],rfl⟩
theorem Ls{v:Value}{ps:List an}{h l:Int}(hp:bB ro v 3 cL ps)(hn:ps.length≤1000):du zT 92 [v,.agg ⟨[zI h,zI n,zI l]⟩] ro (.bool (decide (bQ (pq h n l) ps 0≥0))):=by
 obtain⟨TB,qpb,qpo,KE,rfl,qpk,qph,qpl⟩:=hp
 refine zE<|zD 2<|jn fun b3=>jd 6 [0]<|jp (vs:=[.slice TB ps.length KE,.agg ⟨[zI h,zI n,zI l]⟩]) [] [] (fun aG hs hZ=>agX ((show bB _ _ _ _ _ from ⟨TB,qpb,qpo,KE,rfl,qpk,qph,qpl⟩).up hs) (by first|omega| (simp only[List.length_set,zM];omega))) ?_
 refine zD 4<|zX (.bool (decide ((bQ (pq h n l) ps 0)≥0))) ⟨rfl,rfl⟩
theorem af6{v:Value}{ws:List ByteArray}(hv:bB ro v 1 pQ ws)(hn:ws.length≤1000)(hW:∀w∈ws,(1≤w.size∧w.size≤6)∧Script w):du zT 246 [v] ro (zI 0):=by
 obtain⟨Qo,qvb,qvo,Eu,rfl,qvk,UK,UJ⟩:=hv
 refine zE<|zD 12<|dw [1,0,1,0,0] [] (fun(zz:Nat)=>[(6,.slice Qo ws.length Eu),(7,zI (ws.length:Int)),(8,zI (zz:Int))]) (fun zz=>[]) (fun zz=>zz≤ws.length) (fun zz=>ws.length-zz) 0 (by omega) [] ?_
 rintro k hI K1 bG rest
 refine zD 5<|zJ 9 ((k:Int) <(ws.length:Int)) (fun h1=>?_) fun h1=>?_
 ·
  refine zD 6 ?_
  obtain⟨x10,sg⟩:=zG ws k
  refine gX Eu 1 UK sg<|jl 0 (UJ _ _ sg)<|zD 5<|jp (vs:=[.string x10]) [] [] (fun aG hs hZ=>(UZ (hW _ (zL sg)).1 (hW _ (zL sg)).2))<|zD 10<|ja ((k:Int)+1) (by omega)<|zD 2<|bF bG (k+1) (by omega) (by omega) [] (Sub.refl _)
 refine zD 7<|zX (zI 0) ⟨rfl,rfl⟩
def xR(w:ByteArray):Prop:=∀b∈w.data.toList,b.toNat <128∧kindOf (b.toNat:Int)=1
def anI(w:ByteArray):Bool:=w.data.toList.all fun b=>Nat.blt b.toNat 128&&decide (kindOf (b.toNat:Int)=1)
theorem G7{w:ByteArray}(h:anI w=true):xR w:=fun b hb=>by
 have:=List.all_eq_true.1 h b hb
 simp only[Bool.and_eq_true,Nat.blt_eq,decide_eq_true_eq] at this
 exact this
def XO(r:bP):Bool:=(Nat.ble 1 r.f.size&&Nat.ble r.f.size 2)&&(Nat.ble r.t.size 2&&(anI r.f&&(anI r.t&& !cS r.f r.t)))
theorem aaU:(asg.all fun f=>toW.all fun t=>XO ⟨f,t⟩)=true:=by kernel_rfl
structure rJ(r:bP):Prop where
 f1:1≤r.f.size∧r.f.size≤2
 t1:r.t.size≤2
 fl:xR r.f
 tl:xR r.t
 ne:cS r.f r.t=false
theorem at7{r:bP}(h:IU r):rJ r:=by
 have:=List.all_eq_true.1 (List.all_eq_true.1 aaU r.f h.1) r.t h.2
 simp only[XO,Bool.and_eq_true,Nat.ble_eq,Bool.not_eq_true'] at this
 exact⟨this.1,this.2.1,G7 this.2.2.1,G7 this.2.2.2.1,this.2.2.2.2⟩
theorem aD5:du zT 303 [.int .i32 r] ro (.bool (!decide (kindOf r=1))):=by
 refine zE<|zD 7<|jp (vs:=[.int .i32 r]) [] [] (fun aG hs hZ=>aq6)<|zD 4<|zX (.bool (!decide ((kindOf r)=1))) ⟨rfl,rfl⟩
theorem aM3{w:ByteArray}(hK:xR w):du zT 330 [.string w,.func (.func 303) ⟨[]⟩ ⟨[]⟩,.bool true] ro (zI (-1)):=by
 refine zE<|zD 8<|jn fun r10=>zD 2<|dw [1,0,1,0,0] [] (fun(zz:Nat)=>[(1,.func (.func 303) ⟨[]⟩ ⟨[]⟩),(2,.bool true),(10,zP r10)]) (fun zz=>[.b r10 (.stringIter w zz)]) (fun zz=>zz≤w.data.toList.length) (fun zz=>w.data.toList.length-zz) 0 (by omega) [0] ?_
 rintro p hI K1 bG rest
 refine zD 2 ?_
 cases abZ:w.data.toList[p]? with
 |some x11=>
  refine jnA r10 0 abZ (hK _ (zL abZ)).1<|zD 14 ?_
  have Zk:=(hK _ (zL abZ)).2
  refine zD 3<|jp (vs:=[.int .i32 (x11.toNat:Int)]) [] [] (fun aG hs hZ=>aD5)<|zD 1<|je (.bool ((!decide (kindOf (x11.toNat:Int)=1))==true)) rfl<|zD 1<|js 19 ((!decide (kindOf (x11.toNat:Int)=1))==true) (fun h1=>?_) (fun h1=>?_)
  ·
   exfalso;rw[Zk] at h1;cases h1
  refine zD 2<|bF bG (p+1) (by have:=(List.getElem?_eq_some_iff.1 abZ).1;omega) (by have:=(List.getElem?_eq_some_iff.1 abZ).1;omega) [0] (Sub.refl _)
 |none=>
  refine jnZ r10 0 abZ<|zD 10<|zX (zI (-1)) ⟨rfl,rfl⟩
theorem aCi{w:ByteArray}(hK:xR w):du zT 315 [.string w,.func (.func 303) ⟨[]⟩ ⟨[]⟩] ro (zI (-1)):=by
 refine zE<|zD 8<|jp (vs:=[.string w,.func (.func 303) ⟨[]⟩ ⟨[]⟩,.bool true]) [] [] (fun aG hs hZ=>(aM3 hK))<|zD 3<|zX (zI (-1)) ⟨rfl,rfl⟩
theorem aCk{w:ByteArray}(hK:xR w):du zT 302 [.string w,.func (.func 303) ⟨[]⟩ ⟨[]⟩] ro (.bool false):=by
 refine zE<|zD 8<|jp (vs:=[.string w,.func (.func 303) ⟨[]⟩ ⟨[]⟩]) [] [] (fun aG hs hZ=>(aCi hK))<|zD 4<|zX (.bool false) ⟨rfl,rfl⟩
theorem Q6{w:ByteArray}(hK:xR w)(hn:w.size≤1000):du zT 278 [.string w,zI lo,zI hi] ro (.bool (decide (lo≤w.size)&&decide ((w.size:Int)≤hi))):=by
 refine zE<|zD 11<|jj 5 [(0,.string w),(6,.bool false),(16,.bool ((decide (lo≤(w.size:Int)))&&(decide ((w.size:Int)≤hi))))] (fun gI=>?_) (fun hj=>?_)
 rotate_left
 refine js 11 (decide (lo≤(w.size:Int))) (fun h1=>?_) (fun h1=>?_)
 ·
  have fq:=h1
  replace fq:=of_decide_eq_true fq
  refine zD 5<|jw 16 (.bool ((decide (lo≤(w.size:Int)))&&(decide ((w.size:Int)≤hi)))) (w:= .bool (decide ((w.size:Int)≤hi))) (by rw[h1]<;>rfl) ?_
  exact zK hj
 ·
  have fq:=h1
  replace fq:=of_decide_eq_false fq
  refine zD 5<|jw 16 (.bool ((decide (lo≤(w.size:Int)))&&(decide ((w.size:Int)≤hi)))) (w:= .bool false) (by rw[h1]<;>rfl) ?_
  exact zK hj
 refine zD 1<|jj 4 [(6,.bool false),(21,.bool (((decide (lo≤(w.size:Int)))&&(decide ((w.size:Int)≤hi)))&&true))] (fun gI=>?_) (fun hj=>?_)
 rotate_left
 refine js 17 ((decide (lo≤(w.size:Int)))&&(decide ((w.size:Int)≤hi))) (fun h2=>?_) (fun h2=>?_)
 ·
  have k9:=h2
  try simp only[zB] at k9
  refine zD 1<|jp (vs:=[.string w,.func (.func 303) ⟨[]⟩ ⟨[]⟩]) [] [] (fun aG hs hZ=>(aCk hK))<|zD 2<|jw 21 (.bool (((decide (lo≤(w.size:Int)))&&(decide ((w.size:Int)≤hi)))&&true)) (w:= .bool true) (by rw[h2]<;>rfl) ?_
  exact zK hj
 ·
  have k9:=h2
  try simp only[zB] at k9
  refine zD 4<|jw 21 (.bool (((decide (lo≤(w.size:Int)))&&(decide ((w.size:Int)≤hi)))&&true)) (w:= .bool false) (by rw[h2]<;>rfl) ?_
  exact zK hj
 refine zD 3<|zX (.bool (((decide (lo≤(w.size:Int)))&&(decide ((w.size:Int)≤hi)))&&true)) ⟨by simp_all,rfl⟩
theorem KZ{w:ByteArray}(hK:xR w)(h1:lo≤w.size)(h2:(w.size:Int)≤hi)(h3:w.size≤1000):du zT 278 [.string w,zI lo,zI hi] ro (.bool true):=by
 have:=Q6 (ro:=ro) hK h3 (lo:=lo) (hi:=hi)
 rw[decide_eq_true h1,decide_eq_true h2] at this
 exact this
theorem abu{v:Value}{rs:List bP}(hv:bB ro v 2 iG rs)(hn:rs.length≤4)(hR:∀r∈rs,rJ r):du zT 245 [v] ro (zI 0):=by
 obtain⟨Qo,qvb,qvo,Eu,rfl,qvk,UK,UJ⟩:=hv
 refine zE<|zD 11<|zJ 7 ((rs.length:Int)>4) (fun h1=>?_) fun h1=>?_
 ·
  exfalso;omega
 refine zD 10<|dw [1,1,0,1,0,0] [] (fun(zz:Nat)=>[(8,.slice Qo rs.length Eu),(9,zI (rs.length:Int)),(10,zI (zz:Int))]) (fun zz=>[]) (fun zz=>zz≤rs.length) (fun zz=>rs.length-zz) 0 (by omega) [] ?_
 rintro k hI K1 bG rest
 refine zD 5<|zJ 11 ((k:Int) <(rs.length:Int)) (fun h2=>?_) fun h2=>?_
 ·
  refine zD 6 ?_
  obtain⟨tI,qn⟩:=zG rs k
  refine gX Eu 2 UK qn<|jl 0 (UJ _ _ qn)<|jn fun b4=>jd 3 [0] ?_
  have hrp:=(hR _ (zL qn))
  have hrf:=hrp.f1
  have hrt:=hrp.t1
  refine jd 3 [0]<|jp (vs:=[.string tI.f,zI 1,zI 2]) [] [] (fun aG hs hZ=>(KZ hrp.fl (by omega) (by omega) (by omega)))<|jd 4 [0]<|jp (vs:=[.string tI.t,zI 0,zI 2]) [] [] (fun aG hs hZ=>(KZ hrp.tl (by omega) (by omega) (by omega)))<|jd 10 [0,0]<|js 30 (cS tI.f tI.t) (fun h3=>?_) (fun h3=>?_)
  ·
   exfalso;rw[hrp.ne] at h3;cases h3
  refine zD 3<|ja ((k:Int)+1) (by omega)<|zD 2<|bF bG (k+1) (by omega) (by omega) [] (Sub.refl _)
 refine zD 7<|zX (zI 0) ⟨rfl,rfl⟩
def u6:List Int→Int
 | []=>0
 |x::xs=>xs.foldl min x
def Cw:List Int→Int
 | []=>0
 |x::xs=>xs.foldl max x
theorem ave{xs:List Int}{x:Int}(h:xs[0]?=some x):u6 xs=(xs.drop 1).foldl min x:=by
 cases xs with
 |nil=>cases h
 |cons y l=>simp at h;subst h;rfl
theorem avf{xs:List Int}{x:Int}(h:xs[0]?=some x):Cw xs=(xs.drop 1).foldl max x:=by
 cases xs with
 |nil=>cases h
 |cons y l=>simp at h;subst h;rfl
def rZ(l:List Int):Int:=(l.filter fun x=>decide (x>0)).length
theorem KP{l:List Int}{x:Int}(h:l[k]?=some x):rZ (l.take (k+1))=rZ (l.take k)+if x>0 then 1 else 0:=by
 rw[dP h,rZ,List.filter_append,rZ]
 by_cases hx:x>0<;>simp[hx]
structure aj where
 past:Int
 w0:Int
 w1:Int
 w2:Int
 w3:Int
 gone:Int
 new:Int
 af:Int
abbrev cR(x:aj):List Value:=[zI x.past,zI x.w0,zI x.w1,zI x.w2,zI x.w3,zI x.gone,zI x.new,zI x.af]
def cz(g n m:Int)(x:aj):Bool:=decide (x.gone≤g)&&(decide (x.new≤n)&&decide (x.af≤m))
def hasB(f i:Int):Bool:=decide (Vg .u8 (aT .u8 f i) 1=1)
theorem aM1{v:Value}{xs:List Int}(hl:bB ro v 1 cy xs)(hn:0 <xs.length∧xs.length≤1000000):du zT 120 [v] ro (zI (u6 xs)):=by
 obtain⟨fy,rX,rV,eO,rfl,tT,lN,mC⟩:=hl
 refine zE<|zD 11<|zJ 7 ((xs.length:Int) <1) (fun h1=>?_) fun h1=>?_
 ·
  exfalso;omega
 refine zD 5 ?_
 obtain⟨x10,sg⟩:=zG xs 0
 refine gX eO 1 lN sg<|jl 0 (mC _ _ sg)<|zD 8<|dw [1,1,1,0,1,0,0] [] (fun(zz:Nat×Int)=>[(0,.slice fy xs.length eO),(2,zI 0),(3,zI zz.2),(4,zI (zz.1:Int))]) (fun zz=>[]) (fun zz=>(1≤zz.1∧zz.1≤xs.length)∧u6 xs=(xs.drop zz.1).foldl min zz.2) (fun zz=>xs.length-zz.1) (⟨1,x10⟩) ⟨by dsimp only;omega,ave sg⟩ [] ?_
 rintro⟨k,m⟩ hI K1 bG rest
 dsimp only at hI
 refine zD 8<|zJ 15 ((k:Int) <(xs.length:Int)) (fun h2=>?_) fun h2=>?_
 ·
  refine zD 8 ?_
  obtain⟨tH,ko⟩:=zG xs k
  refine gX eO 1 lN ko<|jl 0 (mC _ _ ko)<|jmn (k:= .i64) (a:=m) (b:=tH)<|zD 4<|ja ((k:Int)+1) (by omega)<|zD 2<|bF bG (⟨k+1,(min m tH)⟩) ⟨by dsimp only;omega,by rw[hI.2,eE ko];rfl⟩ (by dsimp only;omega) [] (Sub.refl _)
 refine zD 8<|zX (zI m) ⟨by rw[hI.2,eA (by omega)];rfl,rfl⟩
theorem aM2{v:Value}{xs:List Int}(hl:bB ro v 1 cy xs)(hn:0 <xs.length∧xs.length≤1000000):du zT 121 [v] ro (zI (Cw xs)):=by
 obtain⟨fy,rX,rV,eO,rfl,tT,lN,mC⟩:=hl
 refine zE<|zD 11<|zJ 7 ((xs.length:Int) <1) (fun h1=>?_) fun h1=>?_
 ·
  exfalso;omega
 refine zD 5 ?_
 obtain⟨x10,sg⟩:=zG xs 0
 refine gX eO 1 lN sg<|jl 0 (mC _ _ sg)<|zD 8<|dw [1,1,1,0,1,0,0] [] (fun(zz:Nat×Int)=>[(0,.slice fy xs.length eO),(2,zI 0),(3,zI zz.2),(4,zI (zz.1:Int))]) (fun zz=>[]) (fun zz=>(1≤zz.1∧zz.1≤xs.length)∧Cw xs=(xs.drop zz.1).foldl max zz.2) (fun zz=>xs.length-zz.1) (⟨1,x10⟩) ⟨by dsimp only;omega,avf sg⟩ [] ?_
 rintro⟨k,m⟩ hI K1 bG rest
 dsimp only at hI
 refine zD 8<|zJ 15 ((k:Int) <(xs.length:Int)) (fun h2=>?_) fun h2=>?_
 ·
  refine zD 8 ?_
  obtain⟨tH,ko⟩:=zG xs k
  refine gX eO 1 lN ko<|jl 0 (mC _ _ ko)<|jmx (k:= .i64) (a:=m) (b:=tH)<|zD 4<|ja ((k:Int)+1) (by omega)<|zD 2<|bF bG (⟨k+1,(max m tH)⟩) ⟨by dsimp only;omega,by rw[hI.2,eE ko];rfl⟩ (by dsimp only;omega) [] (Sub.refl _)
 refine zD 8<|zX (zI m) ⟨by rw[hI.2,eA (by omega)];rfl,rfl⟩
theorem arl{v:Value}{xs:List Int}(hl:bB ro v 1 cy xs)(hn:0 <xs.length∧xs.length≤1000000):du zT 62 [v] ro (.agg ⟨[zI (u6 xs),zI (Cw xs)]⟩):=by
 obtain⟨fy,rX,rV,eO,rfl,tT,lN,mC⟩:=hl
 refine zE<|zD 2<|jn fun b2=>zD 4<|jp (vs:=[.slice fy xs.length eO]) [] [] (fun aG hs hZ=>aM1 ((show bB _ _ _ _ _ from ⟨fy,rX,rV,eO,rfl,tT,lN,mC⟩).up hs) (by omega))<|zD 1<|jp (vs:=[.slice fy xs.length eO]) [] [] (fun aG hs hZ=>aM2 ((show bB _ _ _ _ _ from ⟨fy,rX,rV,eO,rfl,tT,lN,mC⟩).up hs) (by omega))<|jd 4 [0]<|zR (.agg ⟨[zI (u6 xs),zI (Cw xs)]⟩) [0] [] [] ⟨rfl,rfl⟩
theorem an1{x:aj}:du zT 61 [.agg ⟨[zI x.past,zI x.w0,zI x.w1,zI x.w2,zI x.w3,zI x.gone,zI x.new,zI x.af]⟩] ro (.bool true):=by
 refine zE<|zD 2<|jn fun b1=>zD 7<|zX (.bool true) ⟨rfl,rfl⟩
theorem agV{f:Nat}{x:aj}{c2 c3 c4:Value}(hf:ro f=some (.cells ⟨[c0,c1,c2,c3,c4,c5,c6,c7,zI gone,zI new,zI af,c11,vt]⟩ 165 (0,0))):du zT 98 [zP f,.agg ⟨[zI x.past,zI x.w0,zI x.w1,zI x.w2,zI x.w3,zI x.gone,zI x.new,zI x.af]⟩] ro (.bool (cz gone new af x)):=by
 refine zE<|zD 2<|jn fun b3=>jd 10 [0]<|jl (b:=f) (off:=0) (m:=13) (vs:=[c0,c1,c2,c3,c4,c5,c6,c7,zI gone,zI new,zI af,c11,vt]) 8 ⟨_,_,_,.inl hf,rfl⟩<|zD 2<|js 8 (decide (x.gone≤gone)) (fun h1=>?_) (fun h1=>?_)
 ·
  have fq:=h1
  replace fq:=of_decide_eq_true fq
  refine jd 6 [0]<|jl (b:=f) (off:=0) (m:=13) (vs:=[c0,c1,c2,c3,c4,c5,c6,c7,zI gone,zI new,zI af,c11,vt]) 9 ⟨_,_,_,.inl hf,rfl⟩<|zD 3<|js 18 (decide (x.new≤new)) (fun h2=>?_) (fun h2=>?_)
  ·
   have k9:=h2
   replace k9:=of_decide_eq_true k9
   refine jd 6 [0]<|jl (b:=f) (off:=0) (m:=13) (vs:=[c0,c1,c2,c3,c4,c5,c6,c7,zI gone,zI new,zI af,c11,vt]) 10 ⟨_,_,_,.inl hf,rfl⟩<|zD 5<|zX (.bool (decide (x.af≤af))) ⟨by simp_all[cz]<;>(intros;omega),rfl⟩
  have k9:=h2
  replace k9:=of_decide_eq_false k9
  refine zD 12<|zX (.bool false) ⟨by simp_all[cz]<;>(intros;omega),rfl⟩
 have fq:=h1
 replace fq:=of_decide_eq_false fq
 refine zD 22<|zX (.bool false) ⟨by simp_all[cz]<;>(intros;omega),rfl⟩
theorem avS{f i:Int}(hi:0≤i∧i≤8):du zT 100 [.int .u8 f,zI i] ro (.bool (hasB f i)):=by
 refine zE<|zD 8<|jsr (k:= .u8) (k':= .i64) (a:=f) (b:=i) 111 (by omega)<|zD 5<|zX (.bool (decide ((Vg .u8 (aT .u8 f i) 1)=1))) ⟨rfl,rfl⟩
theorem avA{p0 p1 p2 p3:Int}:du zT 141 [.agg ⟨[zI p0,zI p1,zI p2,zI p3]⟩] ro (zI (rZ [p0,p1,p2,p3])):=by
 refine zE<|zD 2<|jn fun b1=>jd 13 [0]<|dw [1,1,0,1,0,0] [] (fun(zz:Nat×Int)=>[(2,zI 0),(3,zI zz.2),(6,.agg ⟨[zI p0,zI p1,zI p2,zI p3]⟩),(7,zI (zz.1:Int))]) (fun zz=>[]) (fun zz=>zz.1≤4∧zz.2=rZ ([p0,p1,p2,p3].take zz.1)∧(0≤zz.2∧zz.2≤zz.1)) (fun zz=>4-zz.1) (⟨0,0⟩) ⟨by omega,rfl,by omega⟩ [] ?_
 rintro⟨k,n⟩ hI K1 bG rest
 dsimp only at hI
 refine zD 5<|zJ 8 ((k:Int) <4) (fun h1=>?_) fun h1=>?_
 ·
  refine zD 6 ?_
  obtain⟨x9,hx9⟩:=zG ([p0,p1,p2,p3]:List Int) k (show k <4 from by omega)
  refine jai (l:=[zI p0,zI p1,zI p2,zI p3]) (k:Int) 4 1 false (by omega) (v:= zI x9) (show nth _ (k*1)=_ by rw[Nat.mul_one];exact aPg hx9) ?_
  refine zD 7<|zJ 11 (x9>0) (fun h2=>?_) fun h2=>?_
  ·
   refine zD 3<|ja (n+1) (by omega)<|zD 3<|ja ((k:Int)+1) (by omega)<|zD 2<|bF bG (⟨k+1,(n+1)⟩) ⟨by dsimp only;omega,by rw[KP hx9,if_pos (by assumption),hI.2.1],by dsimp only;omega⟩ (by dsimp only;omega) [] (Sub.refl _)
  refine zD 3<|ja ((k:Int)+1) (by omega)<|zD 2<|bF bG (⟨k+1,n⟩) ⟨by dsimp only;omega,by rw[KP hx9,if_neg (by assumption),hI.2.1,Int.add_zero],by dsimp only;omega⟩ (by dsimp only;omega) [] (Sub.refl _)
 refine zD 8<|zX (zI n) ⟨by rw[hI.2.1,show k=4 by omega];rfl,rfl⟩
theorem rn{xs:List α}{a:Option Addr}{o:Nat}(h:∀k,k <xs.length→a=some ⟨b,o,none⟩)(hn:a.isNone=true):xs=[]:=by
 cases xs with
 |nil=>rfl
 |cons x l=>rw[h 0 (by simp)] at hn;cases hn
theorem atU{v:Value}(hl:bB ro v 1 pQ xs)(hn:xs.length≤1000):dG zT 307 [v] ro [] (fun r Y=>∃L,aw r 1 9 pQ xs L∧Y=L):=by
 obtain⟨fy,rX,rV,eO,rfl,tT,lN,mC⟩:=hl
 refine zE<|zD 8<|jsn 167 (a:=fy) (l:=xs.length) (c:=eO)<|zD 1<|js 4 (fy.isNone) (fun h1=>?_) (fun h1=>?_)
 ·
  refine zD 6<|zX (zS) ⟨[],by rw[rn lN (by assumption)];exact aw.nil _ _ _,rfl⟩
 refine zD 4<|jn fun b5=>zD 1<|iK (sz:=1) (ps:=[]) (qs:=xs) (enc:=pQ) (w:= .slice fy xs.length eO) [0] [] [] (bC (b:=b5) (T:=9)) (fun s he _=>⟨fy,rX,rV,eO,rfl,lN,fun i p hp=>(mC i p hp).ext he⟩) (fun p _=>ai rfl) (by simp<;>omega) (fun v7 L7 iF=>?_)
 rw[List.nil_append] at iF
 obtain⟨O2,O1,NU⟩:=iF.form
 subst NU
 refine zD 3<|zR ((.slice O2 (xs).length O1)) [] [0] L7 ⟨_,iF,rfl⟩
theorem aPD{f:Nat}{c2 c3 c4:Value}(hx:bB ro c11 3 mY fs)(hf:ro f=some (.cells ⟨[c0,c1,c2,c3,c4,c5,c6,c7,zI gone,zI new,zI af,c11,vt]⟩ 165 (0,0)))(hn:fs.length≤7):du zT 46 [zP f] ro (.int .u8 (IntKind.u8.wrap (dz .u8 1 (fs.length:Int)-1))):=by
 obtain⟨qxa,qxb,qxo,qxc,rfl,qxk,qxh,qxl⟩:=hx
 refine zE<|zD 10<|jl (b:=f) (off:=0) (m:=13) (vs:=[c0,c1,c2,c3,c4,c5,c6,c7,zI gone,zI new,zI af,.slice qxa fs.length qxc,vt]) 11 ⟨_,_,_,.inl hf,rfl⟩<|zD 1<|jsh (k:= .u8) (k':= .i64) (a:=1) (b:=(fs.length:Int)) 111 (by omega)<|zD 4<|zX (.int .u8 (IntKind.u8.wrap ((dz .u8 1 (fs.length:Int))-1))) ⟨rfl,rfl⟩
theorem yb{r:Value}{A B:Prop}(h:(r= .bool true∧A)∨(r= .bool false∧B)):∃c,r= .bool c∧(c=true→A)∧(c=false→B):=by
 rcases h with ⟨rfl,h⟩| ⟨rfl,h⟩
 ·exact⟨true,rfl,fun _=>h,nofun⟩
 exact⟨false,rfl,nofun,fun _=>h⟩
def uK(w f t:ByteArray)(i:Nat):ByteArray:=w.extract 0 (i:Int).toNat++t++w.extract ((i:Int)+(f.size:Int)).toNat w.size
def qg(w f t:ByteArray)(i:Nat):Option ByteArray:=if sY (w.extract i w.size) f=true∧1≤(uK w f t i).size∧(uK w f t i).size≤12 then some (uK w f t i) else none
def u3(w f t:ByteArray)(k:Nat):List ByteArray:=(List.range k).filterMap (qg w f t)
def DJ(w f t:ByteArray):List ByteArray:=u3 w f t (w.size+1)
theorem Cc(w f t:ByteArray)(k:Nat):u3 w f t (k+1)=u3 w f t k++(qg w f t k).toList:=by
 rw[u3,u3,List.range_succ,List.filterMap_append]
 cases h:qg w f t k<;>simp[h]
theorem aeX(w f t:ByteArray){n:Nat}(h:k≤n):∃l,u3 w f t n=u3 w f t k++l:=by
 induction n with
 |zero=>exact⟨[],by rw[show k=0 by omega];simp⟩
 |succ n ih=>
  by_cases hk:k=n+1
  ·exact⟨[],by rw[hk];simp⟩
  obtain⟨l,hl⟩:=ih (by omega)
  exact⟨l++(qg w f t n).toList,by rw[Cc,hl,List.append_assoc]⟩
theorem Ql{w x:ByteArray}{n:Nat}(hk:k <n)(h:qg w f t k=some x):(u3 w f t n)[(u3 w f t k).length]?=some x∧(u3 w f t (k+1)).length=(u3 w f t k).length+1:=by
 obtain⟨l,hl⟩:=aeX w f t (k:=k+1) (n:=n) hk
 rw[hl,Cc,h]
 constructor
 ·rw[List.append_assoc,List.getElem?_append_right (Nat.le_refl _)];simp
 simp
theorem XT{w:ByteArray}(h:qg w f t k=none):(u3 w f t (k+1)).length=(u3 w f t k).length:=by
 rw[Cc,h];simp
abbrev asn(l:List ByteArray):(Nat→Option Obj)→Nat→List Value→Cells→Prop:=fun _ k vs LL=>∃x,l[k]?=some x∧vs=[.string x]∧LL=[]
theorem xR.ext{w:ByteArray}(h:xR w)(i j:Nat):xR (w.extract i j):=by
 intro b hb
 refine h b ?_
 have:(w.extract i j).data.toList=(w.data.extract i j).toList:=by simp[ByteArray.data_extract]
 rw[this,Array.toList_extract] at hb
 simp only[List.extract_eq_drop_take] at hb
 exact List.mem_of_mem_drop (List.mem_of_mem_take hb)
theorem xR.app{v w:ByteArray}(h:xR v)(k:xR w):xR (v++w):=by
 intro b hb
 have:(v++w).data.toList=v.data.toList++w.data.toList:=by simp[ByteArray.data_append]
 rw[this] at hb
 exact(List.mem_append.1 hb).elim (h b) (k b)
theorem Ku{w:ByteArray}(hw:xR w)(ht:xR t):xR (uK w f t i):=((hw.ext _ _).app ht).app (hw.ext _ _)
theorem afn{a b:ByteArray}(h:sY a b=true):b.size≤a.size:=by
 unfold sY at h
 simp only[Bool.and_eq_true,decide_eq_true_eq] at h
 omega
def agx(w:ByteArray):Bool:=decide ((1:Int)≤w.size)&&decide ((w.size:Int)≤12)
theorem UC{w:ByteArray}(h:sY (w.extract (k:Int).toNat w.size) f=false):qg w f t k=none:=if_neg fun x=>by
 have h1:sY (w.extract k w.size) f=false:=h
 rw[h1] at x;cases x.1
theorem aaX{w:ByteArray}(h:agx (uK w f t k)=false):qg w f t k=none:=if_neg fun x=>by
 simp only[agx,Bool.and_eq_false_iff,decide_eq_false_iff_not] at h
 omega
theorem UB{w:ByteArray}(h:sY (w.extract (k:Int).toNat w.size) f=true)(h2:agx (uK w f t k)=true):qg w f t k=some (uK w f t k):=if_pos ⟨h,by
 simp only[agx,Bool.and_eq_true,decide_eq_true_eq] at h2
 omega⟩
theorem UA{w:ByteArray}(h:w.size≤100∧f.size≤100∧t.size≤100):(uK w f t k).size≤1000:=by
 simp only[uK,ByteArray.size_append,ByteArray.size_extract];omega
theorem amL{w:ByteArray}(hk:k≤w.size)(h:qg w f t k=some (uK w f t k)):(u3 w f t k).length <(DJ w f t).length∧(DJ w f t)[(u3 w f t k).length]?=some (uK w f t k):=by
 have:=(Ql (n:=w.size+1) (by omega) h).1
 exact⟨(List.getElem?_eq_some_iff.1 this).1,this⟩
theorem Wy(w:ByteArray)(a b:Nat):(w.extract a b).size≤w.size:=by simp;omega
theorem ajW(w:ByteArray)(i:Nat)(h:i≤w.size):(w.extract i w.size).size=w.size-i:=by simp
theorem ant{w:ByteArray}{b1 b2 b3:Nat}(g1:ro b1=some (.cells ⟨[.string w]⟩ 356 (0,0)))(g2:ro b2=some (.cells ⟨[.string f]⟩ 9 (0,0)))(g3:ro b3=some (.cells ⟨[.string t]⟩ 9 (0,0)))(hw:xR w)(ht:xR t)(hn:w.size≤100∧f.size≤100∧t.size≤100):ItX zT 338 [] [zP b1,zP b2,zP b3] ro [] (DJ w f t).length (asn (DJ w f t)) (fun Z=>Z=[]):=by
 intro bl aG Inv Stop hs hy B hB
 replace g1:=hs _ _ g1
 replace g2:=hs _ _ g2
 replace g3:=hs _ _ g3
 refine zC [.l B]<|zD 2<|jl (b:=b1) (off:=0) (m:=1) (vs:=[.string w]) 0 ⟨_,_,_,.inl g1,rfl⟩<|zD 1<|ja ((w.size:Int)+1) (by omega)<|zD 3<|dw [1,0,0] [] (fun(zz:Nat×Cells)=>[(0,(.func (.yield bl) #[] #[])),(1,zP b1),(2,zP b2),(3,zP b3),(9,zI ((w.size:Int)+1)),(10,zI (zz.1:Int))]) (fun zz=>[.l zz.2]) (fun zz=>zz.1≤w.size+1∧Inv (u3 w f t zz.1).length zz.2) (fun zz=>w.size+1-zz.1) (⟨0,B⟩) ⟨by dsimp only;omega,hB⟩ [0] ?_
 rintro⟨k,B⟩ hI K1 bG rest
 dsimp only at hI
 refine zD 5<|zJ 11 ((k:Int) <((w.size:Int)+1)) (fun h1=>?_) fun h1=>?_
 ·
  refine zD 11 ?_
  have su:=Wy w (k:Int).toNat w.size
  refine zD 1<|jl (b:=b1) (off:=0) (m:=1) (vs:=[.string w]) 0 ⟨_,_,_,.inl g1,rfl⟩<|zD 1<|jtL (b:=w) (lo:=(k:Int)) (by omega)<|jl (b:=b2) (off:=0) (m:=1) (vs:=[.string f]) 0 ⟨_,_,_,.inl g2,rfl⟩<|jp (vs:=[.string (w.extract (k:Int).toNat w.size),.string f]) [] [] (fun aG hs hZ=>(ab7 (by omega)))<|zD 2<|js 18 (!(sY (w.extract (k:Int).toNat w.size) f)) (fun h2=>?_) (fun h2=>?_)
  ·
   try simp only[zB] at h2
   refine zD 3<|ja ((k:Int)+1) (by omega)<|zD 2<|bF bG (⟨k+1,B⟩) ⟨by dsimp only;omega,by dsimp only;rw[XT (UC (by assumption))];exact hI.2⟩ (by dsimp only;omega) [0] (Sub.refl _)
  try simp only[zB] at h2
  refine zD 3 ?_
  have Je:=Wy w 0 (k:Int).toNat
  have he3:=Wy w ((k:Int)+(f.size:Int)).toNat w.size
  have he4:(w.extract 0 (k:Int).toNat++t).size=_:=ByteArray.size_append
  have hpr:sY (w.extract (k:Int).toNat w.size) f=true:=by assumption
  have TG:=afn hpr
  rw[ajW _ _ (by omega)] at TG
  refine zD 1<|jl (b:=b1) (off:=0) (m:=1) (vs:=[.string w]) 0 ⟨_,_,_,.inl g1,rfl⟩<|zD 1<|jtH (b:=w) (hi:=(k:Int)) (by omega)<|jl (b:=b3) (off:=0) (m:=1) (vs:=[.string t]) 0 ⟨_,_,_,.inl g3,rfl⟩<|jsa (a:=(w.extract 0 (k:Int).toNat)) (b:=t) 356 (by omega)<|jl (b:=b1) (off:=0) (m:=1) (vs:=[.string w]) 0 ⟨_,_,_,.inl g1,rfl⟩<|zD 1<|jl (b:=b2) (off:=0) (m:=1) (vs:=[.string f]) 0 ⟨_,_,_,.inl g2,rfl⟩<|zD 1<|ja ((k:Int)+(f.size:Int)) (by omega)<|jtL (b:=w) (lo:=((k:Int)+(f.size:Int))) (by omega)<|jsa (a:=((w.extract 0 (k:Int).toNat)++t)) (b:=(w.extract ((k:Int)+(f.size:Int)).toNat w.size)) 356 (by omega)<|zD 5<|jp (vs:=[.string (((w.extract 0 (k:Int).toNat)++t)++(w.extract ((k:Int)+(f.size:Int)).toNat w.size)),zI 1,zI 12]) [] [] (fun aG hs hZ=>(Q6 (Ku (i:=k) hw ht) (UA hn)))<|zD 1<|js 33 (agx (uK w f t k)) (fun h3=>?_) (fun h3=>?_)
  ·
   have hry:=UB (t:=t) hpr (by assumption)
   have TE:=amL (by omega) hry
   refine zD 2<|jyc [0] (hy (u3 w f t k).length _ [] B aG TE.1 ⟨_,TE.2,rfl,rfl⟩ hI.2 (Sub.refl _)) (Sub.refl _) ?_
   intro v4 Y4 hy4
   obtain⟨c4,rfl,hc4,hd4⟩:=yb hy4
   refine zD 3<|js 38 (!c4) (fun h5=>?_) (fun h5=>?_)
   ·
    try simp only[zB] at h5
    refine zD 2<|zR (.tuple ⟨[]⟩) [] [0] Y4 ⟨[],Y4,rfl,rfl,.inr (hd4 (by simp_all))⟩
   try simp only[zB] at h5
   refine zD 3<|ja ((k:Int)+1) (by omega)<|zD 2<|bF bG (⟨k+1,Y4⟩) ⟨by dsimp only;omega,by dsimp only;rw[(Ql (n:=k+1) (by omega) hry).2];exact hc4 (by assumption)⟩ (by dsimp only;omega) [0] (Sub.refl _)
  refine zD 9<|ja ((k:Int)+1) (by omega)<|zD 2<|bF bG (⟨k+1,B⟩) ⟨by dsimp only;omega,by dsimp only;rw[XT (aaX (by assumption))];exact hI.2⟩ (by dsimp only;omega) [0] (Sub.refl _)
 refine zD 2<|zR (.tuple ⟨[]⟩) [] [0] B ⟨[],B,rfl,rfl,.inl (by have:=hI.2;rwa[show k=w.size+1 by omega] at this)⟩
end Go.L
