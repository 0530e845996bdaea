/- Part 7 of the proof. -/
import Derived.Test.YtknkndglfcfhkaaGreatDoorQ6
set_option maxRecDepth 100000
set_option linter.all false
namespace Go.L
open Go Go.Conc Go.Proofs
variable {ro:Nat→Option Obj} {hd:List cy} {cs:List bO} {f t:ByteArray} {k i b sz:Nat} {l:List Value} {α β:Type} {xs ys:List ByteArray} {fs:List bM} {K:aB} {x:aA} {vc vh vp c11 vd c0 c1 c5 c6 c7 vt:Value} {r n af gone new lo hi:Int}
set_option maxHeartbeats 2000000 in
theorem aTE {d:Nat} {X:Cells} {xs:List Int} {np nf:Int} (hN:Dn ro vd xs) (hD:bK vd xs d X) (hnp:0≤np∧np≤4) (hnf:0≤nf∧nf≤4):FnG zT 9 [zP d,zI np,zI nf] ro X (fun r aG Y=>∃(K:aB) (l:List Value),r= .agg ⟨l⟩∧Tf K∧(K.facts.length:Int)≤nf∧fF aG l K∧bK vd xs d Y):=by
 refine aEb (hm:=ar) [.l X] [] aW<|zD 2<|jn fun b6=>zD 4<|jc [1] (apd hN hD) ?_
 rintro _ _ ⟨kP,jO,VH,aam,aY1,Z18,X18,rfl,HE,CZ,aSe,rfl,Sd⟩
 refine jg 0 [.l Z18,.l X18]<|jf [0] Z18 (fun yS cg iK=>?_)
 have qo:=aSe _ iK
 obtain⟨hc,hh,dg⟩:=id qo
 obtain⟨eg,AJ,AI,dV,rfl,DC,yU,yT⟩:=hc
 obtain⟨dI,u4,u3,du,rfl,xw,qR,qQ⟩:=hh
 refine zD 2<|jn fun b21=>zD 2<|jn fun Fs=>jn fun nQ=>zD 3<|jn fun b7=>jd 5 [0]<|jf [1,2,3] ((nQ,.cells ⟨[.slice (some ⟨b21,0,none⟩) 2 2,.slice (some ⟨Fs,0,none⟩) 2 2]⟩ 80 (0,0))::((Fs,.cells ⟨[zI 1,zI 0,zI 3,zI 0]⟩ 79 (0,0))::[(b21,.cells ⟨[zI 1,zI 0,zI 2,zI 0]⟩ 79 (0,0))])) (fun ro6 ko Y3=>?_)
 have aSf:=Uc (Y3 _ (.tail _ (.tail _ (.head _)))) (Y3 _ (.tail _ (.head _))) (Y3 _ (.head _))
 refine zD 1<|jc (vs:=[zP d,zI 2]) [1] (tv (hN.up (cg.trans ko)) Sd (by omega)) ?_
 rintro _ X30 ⟨w30,rfl,aGU⟩
 refine zD 1<|Es [1,1,1] [] (fun(zz:Value×Cells×(List (List aO))×Cells)=>[(0,zP d),(1,zI np),(2,zI nf),(6,zP b6),(7,zP b7)]) (fun(zz:Value×Cells×(List (List aO))×Cells)=>[.l zz.2.1,.l zz.2.2.2,.b b7 (.cells ⟨[.slice (some ⟨nQ,0,none⟩) 2 2,zz.1,zS,.slice eg kP.length dV,.slice dI jO.length du,zS,zS,zS,zI 0,zI 0,zI 0,zS]⟩ 40 (0,0)),.b b6 (.cells ⟨zO⟩ 40 (0,0))]) (fun(zz:Value×Cells×(List (List aO))×Cells)=>(∀lj,Knows lj zz.2.1→nU lj zz.1 zz.2.2.1)∧(zz.2.2.1.length≤1∧∀l∈zz.2.2.1,(1≤l.length∧l.length≤2)∧∀c∈l,jA c)∧bK vd xs d zz.2.2.2) ?_ (fun K1 bF=>?_)
 ·
  rintro⟨vT,LT,ways,X⟩ TJ rest
  dsimp only at TJ
  refine zD 2<|jf [0] LT (fun ro9 r5 hk8=>?_)
  have aGI:=TJ.1 _ hk8
  obtain⟨TR,ht,_⟩:=id aGI
  obtain⟨eP,AG,AE,dQ,rfl,AF,sr,sq⟩:=ht
  refine zD 1<|jc (vs:=[zP d,zI 2]) [0] (ayM (hN.up ((cg.trans ko).trans r5)) TJ.2.2 (by decide)) ?_
  rintro v60 _ ⟨M5,L60,X60,NG,bcI,ahm,rfl,aST⟩
  refine jg 0 [.l L60,.l X60]<|zD 8<|n8<|dB [1,1,1,1,0,1,0,0] [] (fun(zz:Nat×Value×Cells×(List bQ))=>[(0,zP d),(1,zI np),(2,zI nf),(6,zP b6),(7,zP b7),(8,v60),(9,zI (zz.1:Int))]) (fun zz=>[.l zz.2.2.1,.l X60,.b b7 (.cells ⟨[.slice (some ⟨nQ,0,none⟩) 2 2,.slice eP TR.length dQ,zS,.slice eg kP.length dV,.slice dI jO.length du,zz.2.1,zS,zS,zI 0,zI 0,zI 0,zS]⟩ 40 (0,0)),.l L60,.b b6 (.cells ⟨zO⟩ 40 (0,0))]) (fun zz=>(zz.1≤M5.length∧zz.2.2.2.length≤zz.1)∧aw zz.2.1 2 45 iG zz.2.2.2 zz.2.2.1∧∀r∈zz.2.2.2,IG r) (fun zz=>M5.length-zz.1) (⟨0,zS,[],[]⟩) ⟨by simp,aw.nil _ _ _,(fun _ h=>by cases h)⟩ [0,2,3,1,4] ?_
  rintro⟨i,vR,LR,rs⟩ hR K2 kL rest
  dsimp only at hR
  refine zD 5<|CG NG<|zD 2<|zJ 64 ((i:Int) <(M5.length:Int)) (fun EH=>?_) fun EH=>?_
  ·
   refine zD 8 ?_
   obtain⟨TP,abC⟩:=zG M5 i
   refine A0 2 NG abC fun b69 axG=>zD 1<|kJ 0 [3] L60 (fun s _ hZ=>bn NG axG hZ abC)<|zD 2 ?_
   obtain⟨x74,aEq⟩:=zG M5 i
   refine A0 2 NG aEq fun b74 aRK=>zD 1<|kJ 1 [3] L60 (fun s _ hZ=>bn NG aRK hZ aEq)<|zD 2<|js 77 (!(cR TP.f x74.t)) (fun V5=>?_) (fun V5=>?_)
   ·
    try simp only[zB] at V5
    refine jd 6 [2] ?_
    obtain⟨EY,Ve⟩:=zG M5 i
    refine A0 2 NG Ve fun b82 aRH=>kJ 0 [3] L60 (fun s _ hZ=>bn NG aRH hZ Ve)<|aS 6 fun oh ov mZ=>jn fun b84=>eo mZ (zN 1 5)<|aS 7 fun pX p6 oZ=>iE (sz:=2) (ps:=rs) (qs:=[(⟨EY.f,EY.t⟩:bQ)]) (enc:=iG) (w:= .slice (some ⟨b84,0,none⟩) 1 1) [1] [0] [(b84,.cells ⟨([(⟨EY.f,EY.t⟩:bQ)].map iG).flatten⟩ 45 (0,0))] (hR.2.1) (fun s _ hZ=>bN [(⟨EY.f,EY.t⟩:bQ)] (hZ _ (.head _)) (by intro p hp;rfl)) (fun p _=>ai rfl) (by simp<;>omega) (fun v85 L85 ahs=>?_)
    obtain⟨aLC,aLi,aQ3⟩:=ahs.form
    subst aQ3
    refine gx oZ []<|zD 1<|aS 9 fun yC yJ zm=>jd 1 [3]<|fU zm<|zD 3<|ja ((i:Int)+1) (by omega)<|zD 2<|bE kL (⟨i+1,(.slice aLC ((rs++[(⟨EY.f,EY.t⟩:bQ)])).length aLi),L85,(rs++[(⟨EY.f,EY.t⟩:bQ)])⟩) ⟨by simp only[zM];omega,ahs,qG hR.2.2 (ahm _ (zL Ve))⟩ (by omega) [0,2,3,4,5] (Sub.refl _)
   try simp only[zB] at V5
   refine zD 4<|ja ((i:Int)+1) (by omega)<|zD 2<|bE kL (⟨i+1,vR,LR,rs⟩) ⟨by dsimp only;omega,hR.2⟩ (by omega) (zN 0 5) (Sub.refl _)
  refine zD 4<|jf [0] LR (fun aZF iM aQA=>?_)
  have hRU:=hR.2.1.jW aQA
  refine jd 3 [1]<|jn fun sw=>jd 7 [0]<|jc (vs:=[zP d,zI np]) [1] (EL (hN.up (((cg.trans ko).trans r5).trans iM)) aST (by omega)) ?_
  rintro _ X92 ⟨w92,rfl,bbC,bbx,aSO⟩
  refine zD 3<|n8<|dB [1,1,1,1,1,1,0,1,0,0] [] (fun(zz:Int×Value×Cells×(List aA)×Cells)=>[(0,zP d),(1,zI np),(2,zI nf),(6,zP b6),(7,zP b7),(10,zP sw),(11,zI zz.1)]) (fun zz=>[.l zz.2.2.1,.l zz.2.2.2.2,.b sw (.cells ⟨[zI 2,zI 0,zI 0,.slice eg kP.length dV,.slice dI jO.length du,zS,zS]⟩ 90 (0,0)),.b b7 (.cells ⟨[.slice (some ⟨nQ,0,none⟩) 2 2,.slice eP TR.length dQ,zS,.slice eg kP.length dV,.slice dI jO.length du,vR,zz.2.1,zS,zI 0,zI 0,zI 0,zS]⟩ 40 (0,0)),.b b6 (.cells ⟨zO⟩ 40 (0,0))]) (fun zz=>(0≤zz.1∧zz.2.2.2.1.length+zz.1≤4)∧aw zz.2.1 5 55 eA zz.2.2.2.1 zz.2.2.1∧(∀p∈zz.2.2.2.1,akG VH p)∧bK vd xs d zz.2.2.2.2) (fun zz=>zz.1.toNat) (⟨w92,zS,[],[],X92⟩) ⟨by simp only[List.length_nil];omega,aw.nil _ _ _,(fun _ h=>by cases h),aSO⟩ [0,1,2,3,5] ?_
  rintro⟨j,vB,LB,uW,X⟩ hB K6 hK6 rest
  dsimp only at hB
  refine zD 6<|zJ 94 (j>0) (fun h18=>?_) fun h18=>?_
  ·
   refine zD 5<|Es [1,1,1,1,1,1,0,1,0,0,1,0,0,1] [K6] (fun(zz:Nat×aA×Cells)=>[(0,zP d),(1,zI np),(2,zI nf),(6,zP b6),(7,zP b7),(10,zP sw),(11,zI j),(12,zP zz.1)]) (fun zz=>[.b zz.1 (.cells ⟨[.string zz.2.1.name,zI zz.2.1.st,zI zz.2.1.no,zI zz.2.1.head,.bool zz.2.1.bold]⟩ 55 (0,0)),.l LB,.l zz.2.2,.b sw (.cells ⟨[zI 2,zI 0,zI 0,.slice eg kP.length dV,.slice dI jO.length du,zS,zS]⟩ 90 (0,0)),.b b7 (.cells ⟨[.slice (some ⟨nQ,0,none⟩) 2 2,.slice eP TR.length dQ,zS,.slice eg kP.length dV,.slice dI jO.length du,vR,vB,zS,zI 0,zI 0,zI 0,zS]⟩ 40 (0,0)),.b b6 (.cells ⟨zO⟩ 40 (0,0))]) (fun zz=>(OL zz.2.1.name∧nX VH zz.2.1.head∧(0≤zz.2.1.st∧zz.2.1.st≤1))∧bK vd xs d zz.2.2) ?_ (fun K7 hK7=>?_)
   ·
    rintro⟨wZ,pp,X⟩ aiJ rest
    dsimp only at aiJ
    refine zD 3<|jc (vs:=[zP d,zI 1,zI 2]) [2] (Bq (hN.up (((cg.trans ko).trans r5).trans iM)) aiJ.2 (by omega) (by omega)) ?_
    rintro _ aUv ⟨aLf,rfl,aW5,aWU,arV⟩
    refine jd 10 [1,1]<|Es [1,1,1,1,1,1,0,1,0,0,1,0,0,1,1,1] [K6] (fun(zz:Int×Cells)=>[(0,zP d),(1,zI np),(2,zI nf),(6,zP b6),(7,zP b7),(10,zP sw),(11,zI j),(12,zP wZ)]) (fun zz=>[.b wZ (.cells ⟨[.string pp.name,zI pp.st,zI zz.1,zI pp.head,.bool pp.bold]⟩ 55 (0,0)),.l LB,.l zz.2,.b sw (.cells ⟨[zI 2,zI 0,zI 0,.slice eg kP.length dV,.slice dI jO.length du,zS,zS]⟩ 90 (0,0)),.b b7 (.cells ⟨[.slice (some ⟨nQ,0,none⟩) 2 2,.slice eP TR.length dQ,zS,.slice eg kP.length dV,.slice dI jO.length du,vR,vB,zS,zI 0,zI 0,zI 0,zS]⟩ 40 (0,0)),.b b6 (.cells ⟨zO⟩ 40 (0,0))]) (fun zz=>((pp.st=0→zz.1=1∨zz.1=2)∧(pp.st=1→zz.1=1∨zz.1=3))∧bK vd xs d zz.2) ?_ (fun K8 hK8=>?_)
    ·
     rintro⟨q,X⟩ aoP rest
     dsimp only at aoP
     refine jd 7 [0]<|Es [1,1,1,1,1,1,0,1,0,0,1,0,0,1,1,1,1,0,1] [K6] (fun(zz:Bool×Cells)=>[(0,zP d),(1,zI np),(2,zI nf),(6,zP b6),(7,zP b7),(10,zP sw),(11,zI j),(12,zP wZ),(120,.bool zz.1)]) (fun zz=>[.b wZ (.cells ⟨[.string pp.name,zI pp.st,zI q,zI pp.head,.bool false]⟩ 55 (0,0)),.l LB,.l zz.2,.b sw (.cells ⟨[zI 2,zI 0,zI 0,.slice eg kP.length dV,.slice dI jO.length du,zS,zS]⟩ 90 (0,0)),.b b7 (.cells ⟨[.slice (some ⟨nQ,0,none⟩) 2 2,.slice eP TR.length dQ,zS,.slice eg kP.length dV,.slice dI jO.length du,vR,vB,zS,zI 0,zI 0,zI 0,zS]⟩ 40 (0,0)),.b b6 (.cells ⟨zO⟩ 40 (0,0))]) (fun zz=>(zz.1=true→0 <uW.length)∧bK vd xs d zz.2) ?_ (fun K9 hK9=>?_)
     ·
      rintro⟨g,X⟩ aiI rest
      dsimp only at aiI
      refine Es [1,1,1,1,1,1,0,1,0,0,1,0,0,1,1,1,1,1] [K6] (fun(zz:aA×Cells)=>[(0,zP d),(1,zI np),(2,zI nf),(6,zP b6),(7,zP b7),(10,zP sw),(11,zI j),(12,zP wZ)]) (fun zz=>[.b wZ (.cells ⟨[.string zz.1.name,zI zz.1.st,zI zz.1.no,zI zz.1.head,.bool zz.1.bold]⟩ 55 (0,0)),.l LB,.l zz.2,.b sw (.cells ⟨[zI 2,zI 0,zI 0,.slice eg kP.length dV,.slice dI jO.length du,zS,zS]⟩ 90 (0,0)),.b b7 (.cells ⟨[.slice (some ⟨nQ,0,none⟩) 2 2,.slice eP TR.length dQ,zS,.slice eg kP.length dV,.slice dI jO.length du,vR,vB,zS,zI 0,zI 0,zI 0,zS]⟩ 40 (0,0)),.b b6 (.cells ⟨zO⟩ 40 (0,0))]) (fun zz=>akG VH zz.1∧bK vd xs d zz.2) ?_ (fun K10 aoN=>?_)
      ·
       rintro⟨p2,X⟩ ayb rest
       dsimp only at ayb
       refine jd 4 [4,0]<|jn fun ay4=>iE (sz:=5) (ps:=uW) (qs:=[(⟨p2.name,p2.st,p2.no,p2.head,p2.bold⟩:aA)]) (enc:=eA) (w:= .slice (some ⟨ay4,0,none⟩) 1 1) [2] [0] [(ay4,.cells ⟨([(⟨p2.name,p2.st,p2.no,p2.head,p2.bold⟩:aA)].map eA).flatten⟩ 55 (0,0))] (hB.2.1) (fun s _ hZ=>bN [(⟨p2.name,p2.st,p2.no,p2.head,p2.bold⟩:aA)] (hZ _ (.head _)) (by intro p hp;rfl)) (fun p _=>ai rfl) (by simp<;>omega) (fun aZj aUT YT=>?_)
       obtain⟨aA8,aA1,aF4⟩:=YT.form
       subst aF4
       refine jd 5 [5]<|ja (j-1) (by omega)<|zD 2<|bE hK6 (⟨j-1,(.slice aA8 ((uW++[(⟨p2.name,p2.st,p2.no,p2.head,p2.bold⟩:aA)])).length aA1),aUT,(uW++[(⟨p2.name,p2.st,p2.no,p2.head,p2.bold⟩:aA)]),X⟩) ⟨by simp only[zM];omega,YT,qG hB.2.2.1 ayb.1,ayb.2⟩ (by omega) [0,3,4,5,6] (Sub.refl _)
      refine js 120 g (fun h19=>?_) (fun h19=>?_)
      ·
       subst h19
       refine jd 7 [4,4]<|CG hB.2.1<|ja ((uW.length:Int)-1) (by omega)<|aS 7 fun Fw FX zn=>jc (vs:=[zP d,zI ((uW.length:Int)-1)]) [2] (EL (hN.up (((cg.trans ko).trans r5).trans iM)) aiI.2 (by omega)) ?_
       rintro _ aUs ⟨adH,rfl,aW4,ag8,aG7⟩
       refine gx zn [[4],[4]] ?_
       obtain⟨aKZ,ag7⟩:=zG uW (adH.toNat) (by have:=aiI.1 rfl;omega)
       refine mW adH 5 hB.2.1 ag7 (Int.toNat_of_nonneg (show 0≤adH∧adH <((uW).length:Int) from (by have:=aiI.1 rfl;omega)).1).symm (fun bew aGv=>?_)
       refine kJ 0 [2] LB (fun s _ hZ=>bn hB.2.1 aGv hZ ag7)<|aS 10 fun Pm PJ C3=>jd 1 [1]<|fU C3<|zD 1<|bE aoN ⟨aKZ,aUs⟩ ⟨hB.2.2.1 _ (zL ag7),aG7⟩ Nat.zero_lt_one [1,2,0,3,4,5] (Sub.refl _)
      subst h19
      refine zD 2<|bE aoN ⟨⟨pp.name,pp.st,q,pp.head,false⟩,X⟩ ⟨⟨⟨aiJ.1.1,aiJ.1.2.1,aiJ.1.2.2,rfl⟩,aoP.1⟩,aiI.2⟩ Nat.zero_lt_one (zN 0 6) (Sub.refl _)
     refine jd 3 [4]<|CG hB.2.1<|zD 2<|js 117 (decide ((uW.length:Int)>0)) (fun Ln=>?_) (fun Ln=>?_)
     ·
      have ai5:=Ln
      replace ai5:=of_decide_eq_true ai5
      refine zD 1<|jc (vs:=[zP d,zI 5]) [2] (tv (hN.up (((cg.trans ko).trans r5).trans iM)) aoP.2 (by omega)) ?_
      rintro _ aUt ⟨aLc,rfl,aG8⟩
      refine zD 2<|bE hK9 ⟨aLc,aUt⟩ ⟨fun _=>by omega,aG8⟩ Nat.zero_lt_one [1,2,0,3,4,5] (Sub.refl _)
     have ai5:=Ln
     replace ai5:=of_decide_eq_false ai5
     refine zD 4<|bE hK9 ⟨false,X⟩ ⟨(fun h=>by cases h),aoP.2⟩ Nat.zero_lt_one (zN 0 6) (Sub.refl _)
    refine zJ 107 (pp.st=1) (fun Fi=>?_) fun Fi=>?_
    ·
     refine zD 3<|jn fun aIp=>jcL (vs:=[zP d,.slice (some ⟨aIp,0,none⟩) 2 2]) [1] [0] [(aIp,.cells ⟨([1,3].map cm).flatten⟩ 3 (0,0))] (fun aG hs hZ=>ajY ((hN.up (((cg.trans ko).trans r5).trans iM)).up hs) arV (bU [1,3] hZ.head (by intro p hp;rfl)) (by simp)) ?_
     rintro _ aUu ⟨aLd,rfl,aEx,aG9⟩
     refine jd 3 [2]<|bE hK8 ⟨aLd,aUu⟩ ⟨⟨(fun h=>by omega),(fun _=>by simpa using aEx)⟩,aG9⟩ Nat.zero_lt_one [2,3,0,4,5,6] (Sub.refl _)
    refine zD 2<|bE hK8 ⟨aLf,aUv⟩ ⟨⟨(fun _=>by dsimp only;omega),(fun h=>by omega)⟩,arV⟩ Nat.zero_lt_one [1,2,0,3,4,5] (Sub.refl _)
   refine jd 4 [2]<|IV [3,5] ⟨fun z13 t14 V2=>?_,fun z16 t17 NU=>?_,trivial⟩
   ·
    refine jc [1] (ZB (hN.up (((cg.trans ko).trans r5).trans iM)) hB.2.2.2) ?_
    rintro _ aUw ⟨alZ,rfl,YM,Zl⟩
    refine gx V2 [[2]]<|IV [4,5] ⟨fun z19 t20 aoK=>?_,fun z22 t23 ax5=>?_,trivial⟩
    ·
     refine jc (vs:=[zP d,.agg ⟨[zI 2,zI 0,zI 0,.slice eg kP.length dV,.slice dI jO.length du,zS,zS]⟩,.string alZ]) [0] (xL (hN.up (((cg.trans ko).trans r5).trans iM)) Zl ((((show bC _ _ _ _ _ from ⟨dI,u4,u3,du,rfl,xw,qR,qQ⟩).up ko).up r5).up iM) (by have:=CZ.len;have:=HE.nh;omega)) ?_
     rintro _ akC ⟨aAX,rfl,RG,Rw,RS,Sf⟩
     refine fU aoK<|aS 5 fun aAx aBw VY=>jn fun wZ=>fU VY<|aS 6 fun ado aea EE=>jd 1 [0]<|fU EE<|zD 1<|bE hK7 ⟨wZ,_,akC⟩ ⟨⟨RG▸YM,xF CZ RS,Rw⟩,Sf⟩ Nat.zero_lt_one [0,2,1,3,4,5] (Sub.refl _)
    refine jn fun wZ=>eo ax5 (zN 1 5)<|aS 4 fun Pj PI C1=>jc (vs:=[zP d,.agg ⟨[zI 2,zI 0,zI 0,.slice eg kP.length dV,.slice dI jO.length du,zS,zS]⟩,.string alZ]) [1] (xL (hN.up (((cg.trans ko).trans r5).trans iM)) Zl ((((show bC _ _ _ _ _ from ⟨dI,u4,u3,du,rfl,xw,qR,qQ⟩).up ko).up r5).up iM) (by have:=CZ.len;have:=HE.nh;omega)) ?_
    rintro _ akC ⟨aAX,rfl,RG,Rw,RS,Sf⟩
    refine fU C1<|aS 6 fun Ph PH HG=>jd 1 [1]<|fU HG<|zD 1<|bE hK7 ⟨wZ,_,akC⟩ ⟨⟨RG▸YM,xF CZ RS,Rw⟩,Sf⟩ Nat.zero_lt_one [1,2,0,3,4,5] (Sub.refl _)
   refine jn fun wZ=>eo NU (zN 1 5)<|aS 3 fun Pg PG HF=>jc [2] (ZB (hN.up (((cg.trans ko).trans r5).trans iM)) hB.2.2.2) ?_
   rintro _ aUw ⟨alZ,rfl,YM,Zl⟩
   refine gx HF [[3]]<|aS 4 fun adn ad9 NT=>jc (vs:=[zP d,.agg ⟨[zI 2,zI 0,zI 0,.slice eg kP.length dV,.slice dI jO.length du,zS,zS]⟩,.string alZ]) [0] (xL (hN.up (((cg.trans ko).trans r5).trans iM)) Zl ((((show bC _ _ _ _ _ from ⟨dI,u4,u3,du,rfl,xw,qR,qQ⟩).up ko).up r5).up iM) (by have:=CZ.len;have:=HE.nh;omega)) ?_
   rintro _ akC ⟨aAX,rfl,RG,Rw,RS,Sf⟩
   refine fU NT<|aS 6 fun adm ad8 Sc=>jd 1 [1]<|fU Sc<|zD 1<|bE hK7 ⟨wZ,_,akC⟩ ⟨⟨RG▸YM,xF CZ RS,Rw⟩,Sf⟩ Nat.zero_lt_one [1,2,0,3,4,5] (Sub.refl _)
  refine zD 7<|jc (vs:=[zP d,zI np]) [1] (EL (hN.up (((cg.trans ko).trans r5).trans iM)) hB.2.2.2 (by omega)) ?_
  rintro _ aUr ⟨aLa,rfl,aW3,aWT,aG6⟩
  refine zD 3<|n8<|dB [1,1,1,1,1,1,1,0,1,0,0] [] (fun(zz:Int×Value×Cells×(List aA)×Cells)=>[(0,zP d),(2,zI nf),(6,zP b6),(7,zP b7),(10,zP sw),(13,zI zz.1)]) (fun zz=>[.l zz.2.2.1,.l zz.2.2.2.2,.l LB,.b sw (.cells ⟨[zI 2,zI 0,zI 0,.slice eg kP.length dV,.slice dI jO.length du,zS,zS]⟩ 90 (0,0)),.b b7 (.cells ⟨[.slice (some ⟨nQ,0,none⟩) 2 2,.slice eP TR.length dQ,zS,.slice eg kP.length dV,.slice dI jO.length du,vR,vB,zz.2.1,zI 0,zI 0,zI 0,zS]⟩ 40 (0,0)),.b b6 (.cells ⟨zO⟩ 40 (0,0))]) (fun zz=>(0≤zz.1∧zz.2.2.2.1.length+zz.1≤4)∧aw zz.2.1 5 55 eA zz.2.2.2.1 zz.2.2.1∧(∀p∈zz.2.2.2.1,akH VH p)∧bK vd xs d zz.2.2.2.2) (fun zz=>zz.1.toNat) (⟨aLa,zS,[],[],aUr⟩) ⟨by simp only[List.length_nil];omega,aw.nil _ _ _,(fun _ h=>by cases h),aG6⟩ (zN 0 6) ?_
  rintro⟨j,vA,LA,Mh,X⟩ hA K32 aSE rest
  dsimp only at hA
  refine zD 6<|zJ 141 (j>0) (fun h35=>?_) fun h35=>?_
  ·
   refine zD 5<|Es [1,1,1,1,1,1,1,0,1,0,0,1,0,0,1] [K32] (fun(zz:Nat×aA×Cells)=>[(0,zP d),(2,zI nf),(6,zP b6),(7,zP b7),(10,zP sw),(13,zI j),(14,zP zz.1)]) (fun zz=>[.b zz.1 (.cells ⟨[.string zz.2.1.name,zI zz.2.1.st,zI zz.2.1.no,zI zz.2.1.head,.bool zz.2.1.bold]⟩ 55 (0,0)),.l LA,.l zz.2.2,.l LB,.b sw (.cells ⟨[zI 2,zI 0,zI 0,.slice eg kP.length dV,.slice dI jO.length du,zS,zS]⟩ 90 (0,0)),.b b7 (.cells ⟨[.slice (some ⟨nQ,0,none⟩) 2 2,.slice eP TR.length dQ,zS,.slice eg kP.length dV,.slice dI jO.length du,vR,vB,vA,zI 0,zI 0,zI 0,zS]⟩ 40 (0,0)),.b b6 (.cells ⟨zO⟩ 40 (0,0))]) (fun zz=>(OL zz.2.1.name∧nX VH zz.2.1.head∧(0≤zz.2.1.st∧zz.2.1.st≤1))∧bK vd xs d zz.2.2) ?_ (fun K33 ax9=>?_)
   ·
    rintro⟨ZV,pp,X⟩ aiH rest
    dsimp only at aiH
    refine zD 3<|jc (vs:=[zP d,zI 1,zI 3]) [2] (Bq (hN.up (((cg.trans ko).trans r5).trans iM)) aiH.2 (by omega) (by omega)) ?_
    rintro _ aUp ⟨aAV,rfl,aW2,aWS,arS⟩
    refine jd 7 [1,1]<|Es [1,1,1,1,1,1,1,0,1,0,0,1,0,0,1,1,0,1] [K32] (fun(zz:Bool×Cells)=>[(0,zP d),(2,zI nf),(6,zP b6),(7,zP b7),(10,zP sw),(13,zI j),(14,zP ZV),(161,.bool zz.1)]) (fun zz=>[.b ZV (.cells ⟨[.string pp.name,zI pp.st,zI aAV,zI pp.head,.bool false]⟩ 55 (0,0)),.l LA,.l zz.2,.l LB,.b sw (.cells ⟨[zI 2,zI 0,zI 0,.slice eg kP.length dV,.slice dI jO.length du,zS,zS]⟩ 90 (0,0)),.b b7 (.cells ⟨[.slice (some ⟨nQ,0,none⟩) 2 2,.slice eP TR.length dQ,zS,.slice eg kP.length dV,.slice dI jO.length du,vR,vB,vA,zI 0,zI 0,zI 0,zS]⟩ 40 (0,0)),.b b6 (.cells ⟨zO⟩ 40 (0,0))]) (fun zz=>(zz.1=true→0 <uW.length)∧bK vd xs d zz.2) ?_ (fun K34 aGN=>?_)
    ·
     rintro⟨g,X⟩ aiG rest
     dsimp only at aiG
     refine Es [1,1,1,1,1,1,1,0,1,0,0,1,0,0,1,1,1] [K32] (fun(zz:aA×Cells)=>[(0,zP d),(2,zI nf),(6,zP b6),(7,zP b7),(10,zP sw),(13,zI j),(14,zP ZV)]) (fun zz=>[.b ZV (.cells ⟨[.string zz.1.name,zI zz.1.st,zI zz.1.no,zI zz.1.head,.bool zz.1.bold]⟩ 55 (0,0)),.l LA,.l zz.2,.l LB,.b sw (.cells ⟨[zI 2,zI 0,zI 0,.slice eg kP.length dV,.slice dI jO.length du,zS,zS]⟩ 90 (0,0)),.b b7 (.cells ⟨[.slice (some ⟨nQ,0,none⟩) 2 2,.slice eP TR.length dQ,zS,.slice eg kP.length dV,.slice dI jO.length du,vR,vB,vA,zI 0,zI 0,zI 0,zS]⟩ 40 (0,0)),.b b6 (.cells ⟨zO⟩ 40 (0,0))]) (fun zz=>akH VH zz.1∧bK vd xs d zz.2) ?_ (fun K35 ax8=>?_)
     ·
      rintro⟨p2,X⟩ aya rest
      dsimp only at aya
      refine jd 4 [5,0]<|jn fun aIm=>iE (sz:=5) (ps:=Mh) (qs:=[(⟨p2.name,p2.st,p2.no,p2.head,p2.bold⟩:aA)]) (enc:=eA) (w:= .slice (some ⟨aIm,0,none⟩) 1 1) [2] [0] [(aIm,.cells ⟨([(⟨p2.name,p2.st,p2.no,p2.head,p2.bold⟩:aA)].map eA).flatten⟩ 55 (0,0))] (hA.2.1) (fun s _ hZ=>bN [(⟨p2.name,p2.st,p2.no,p2.head,p2.bold⟩:aA)] (hZ _ (.head _)) (by intro p hp;rfl)) (fun p _=>ai rfl) (by simp<;>omega) (fun aZi aUS YS=>?_)
      obtain⟨aA7,aA0,aF3⟩:=YS.form
      subst aF3
      refine jd 5 [6]<|ja (j-1) (by omega)<|zD 2<|bE aSE (⟨j-1,(.slice aA7 ((Mh++[(⟨p2.name,p2.st,p2.no,p2.head,p2.bold⟩:aA)])).length aA0),aUS,(Mh++[(⟨p2.name,p2.st,p2.no,p2.head,p2.bold⟩:aA)]),X⟩) ⟨by simp only[zM];omega,YS,qG hA.2.2.1 aya.1,aya.2⟩ (by omega) [0,3,4,5,6,7] (Sub.refl _)
     refine js 161 g (fun h36=>?_) (fun h36=>?_)
     ·
      subst h36
      refine jd 8 [5,5]<|CG hB.2.1<|ja ((uW.length:Int)-1) (by omega)<|aS 7 fun adl ad7 NS=>jc (vs:=[zP d,zI ((uW.length:Int)-1)]) [2] (EL (hN.up (((cg.trans ko).trans r5).trans iM)) aiG.2 (by omega)) ?_
      rintro _ bfc ⟨adG,rfl,aW1,YI,aG4⟩
      refine gx NS [[5],[5]] ?_
      obtain⟨Eg,Ro⟩:=zG uW (adG.toNat) (by have:=aiG.1 rfl;omega)
      refine mW adG 5 hB.2.1 Ro (Int.toNat_of_nonneg (show 0≤adG∧adG <((uW).length:Int) from (by have:=aiG.1 rfl;omega)).1).symm (fun ber aGp=>?_)
      refine kJ 0 [3] LB (fun s _ hZ=>bn hB.2.1 aGp hZ Ro)<|aS 10 fun adk ad6 VW=>jd 1 [1]<|fU VW<|zD 5<|jc (vs:=[zP d,zI 3]) [0] (tv (hN.up (((cg.trans ko).trans r5).trans iM)) aG4 (by omega)) ?_
      rintro _ aUm ⟨aK7,rfl,arR⟩
      refine zD 1<|Es [1,1,1,1,1,1,1,0,1,0,0,1,0,0,1,1,2,1,0,1,1] [K32,K35] (fun(zz:Int×Cells)=>[(0,zP d),(2,zI nf),(6,zP b6),(7,zP b7),(10,zP sw),(13,zI j),(14,zP ZV)]) (fun zz=>[.b ZV (.cells ⟨[.string Eg.name,zI Eg.st,zI zz.1,zI Eg.head,.bool Eg.bold]⟩ 55 (0,0)),.l LA,.l zz.2,.l LB,.b sw (.cells ⟨[zI 2,zI 0,zI 0,.slice eg kP.length dV,.slice dI jO.length du,zS,zS]⟩ 90 (0,0)),.b b7 (.cells ⟨[.slice (some ⟨nQ,0,none⟩) 2 2,.slice eP TR.length dQ,zS,.slice eg kP.length dV,.slice dI jO.length du,vR,vB,vA,zI 0,zI 0,zI 0,zS]⟩ 40 (0,0)),.b b6 (.cells ⟨zO⟩ 40 (0,0))]) (fun zz=>(1≤zz.1∧zz.1≤3)∧bK vd xs d zz.2) ?_ (fun K38 aGM=>?_)
      ·
       rintro⟨q,X⟩ aoO rest
       dsimp only at aoO
       have hO:=hB.2.2.1 _ (zL Ro)
       have hO2:=hO.1.2.2.1
       have hO3:=hO.2
       refine zD 3<|jc (vs:=[zP d,zI 4]) [2] (tv (hN.up (((cg.trans ko).trans r5).trans iM)) aoO.2 (by omega)) ?_
       rintro _ aIE ⟨aK5,rfl,arQ⟩
       refine zD 1<|js 178 aK5 (fun h39=>?_) (fun h39=>?_)
       ·
        subst h39
        refine jd 5 [1]<|bE ax8 ⟨⟨Eg.name,Eg.st,q,-1,Eg.bold⟩,aIE⟩ ⟨⟨⟨hO.1.1,.inl rfl,hO.1.2.2.1,hO.1.2.2.2⟩,aoO.1⟩,arQ⟩ Nat.zero_lt_one [1,2,0,3,4,5,6] (Sub.refl _)
       subst h39
       refine zD 2<|bE ax8 ⟨⟨Eg.name,Eg.st,q,Eg.head,Eg.bold⟩,aIE⟩ ⟨⟨⟨hO.1.1,hO.1.2.1,hO.1.2.2.1,hO.1.2.2.2⟩,aoO.1⟩,arQ⟩ Nat.zero_lt_one [1,2,0,3,4,5,6] (Sub.refl _)
      refine js 173 aK7 (fun h40=>?_) (fun h40=>?_)
      ·
       subst h40
       have hO:=hB.2.2.1 _ (zL Ro)
       have hO2:=hO.1.2.2.1
       have hO3:=hO.2
       refine zD 3<|jc (vs:=[zP d,zI 1,zI 3]) [0] (Bq (hN.up (((cg.trans ko).trans r5).trans iM)) arR (by omega) (by omega)) ?_
       rintro _ aUl ⟨aK6,rfl,aW0,ag3,aG3⟩
       refine jd 3 [1]<|bE aGM ⟨aK6,aUl⟩ ⟨by dsimp only;omega,aG3⟩ Nat.zero_lt_one [1,2,0,3,4,5,6] (Sub.refl _)
      subst h40
      have hO:=hB.2.2.1 _ (zL Ro)
      have hO2:=hO.1.2.2.1
      have hO3:=hO.2
      refine zD 2<|bE aGM ⟨Eg.no,aUm⟩ ⟨by dsimp only;omega,arR⟩ Nat.zero_lt_one [1,2,0,3,4,5,6] (Sub.refl _)
     subst h36
     refine zD 2<|bE ax8 ⟨⟨pp.name,pp.st,aAV,pp.head,false⟩,X⟩ ⟨⟨⟨aiH.1.1,aiH.1.2.1,aiH.1.2.2,rfl⟩,by dsimp only;omega⟩,aiG.2⟩ Nat.zero_lt_one (zN 0 7) (Sub.refl _)
    refine jd 3 [5]<|CG hB.2.1<|zD 2<|js 157 (decide ((uW.length:Int)>0)) (fun h41=>?_) (fun h41=>?_)
    ·
     have aiR:=h41
     replace aiR:=of_decide_eq_true aiR
     refine zD 1<|jc (vs:=[zP d,zI 3]) [0] (tv (hN.up (((cg.trans ko).trans r5).trans iM)) arS (by omega)) ?_
     rintro _ aUo ⟨aK9,rfl,aG5⟩
     refine zD 3<|bE aGN ⟨!aK9,aUo⟩ ⟨fun _=>by omega,aG5⟩ Nat.zero_lt_one [1,2,0,3,4,5,6] (Sub.refl _)
    have aiR:=h41
    replace aiR:=of_decide_eq_false aiR
    refine zD 5<|bE aGN ⟨false,aUp⟩ ⟨(fun h=>by cases h),arS⟩ Nat.zero_lt_one [1,2,0,3,4,5,6] (Sub.refl _)
   refine jd 4 [3]<|IV [3,5] ⟨fun z39 t40 aiB=>?_,fun z42 t43 aSA=>?_,trivial⟩
   ·
    refine jc [1] (ZB (hN.up (((cg.trans ko).trans r5).trans iM)) hA.2.2.2) ?_
    rintro _ aUq ⟨alY,rfl,YL,Zk⟩
    refine gx aiB [[3]]<|IV [4,5] ⟨fun z45 t46 aSz=>?_,fun z48 t49 aiA=>?_,trivial⟩
    ·
     refine jc (vs:=[zP d,.agg ⟨[zI 2,zI 0,zI 0,.slice eg kP.length dV,.slice dI jO.length du,zS,zS]⟩,.string alY]) [0] (xL (hN.up (((cg.trans ko).trans r5).trans iM)) Zk ((((show bC _ _ _ _ _ from ⟨dI,u4,u3,du,rfl,xw,qR,qQ⟩).up ko).up r5).up iM) (by have:=CZ.len;have:=HE.nh;omega)) ?_
     rintro _ akB ⟨aAW,rfl,RF,Rv,RR,Se⟩
     refine fU aSz<|aS 5 fun apX aqj aiz=>jn fun ZV=>fU aiz<|aS 6 fun apW aqi aiy=>jd 1 [0]<|fU aiy<|zD 1<|bE ax9 ⟨ZV,_,akB⟩ ⟨⟨RF▸YL,xF CZ RR,Rv⟩,Se⟩ Nat.zero_lt_one [0,2,1,3,4,5,6] (Sub.refl _)
    refine jn fun ZV=>eo aiA (zN 1 6)<|aS 4 fun apU aqh aix=>jc (vs:=[zP d,.agg ⟨[zI 2,zI 0,zI 0,.slice eg kP.length dV,.slice dI jO.length du,zS,zS]⟩,.string alY]) [1] (xL (hN.up (((cg.trans ko).trans r5).trans iM)) Zk ((((show bC _ _ _ _ _ from ⟨dI,u4,u3,du,rfl,xw,qR,qQ⟩).up ko).up r5).up iM) (by have:=CZ.len;have:=HE.nh;omega)) ?_
    rintro _ akB ⟨aAW,rfl,RF,Rv,RR,Se⟩
    refine fU aix<|aS 6 fun apT aqg aiw=>jd 1 [1]<|fU aiw<|zD 1<|bE ax9 ⟨ZV,_,akB⟩ ⟨⟨RF▸YL,xF CZ RR,Rv⟩,Se⟩ Nat.zero_lt_one [1,2,0,3,4,5,6] (Sub.refl _)
   refine jn fun ZV=>eo aSA (zN 1 6)<|aS 3 fun apS aqf aiv=>jc [2] (ZB (hN.up (((cg.trans ko).trans r5).trans iM)) hA.2.2.2) ?_
   rintro _ aUq ⟨alY,rfl,YL,Zk⟩
   refine gx aiv [[4]]<|aS 4 fun apR aqe aiu=>jc (vs:=[zP d,.agg ⟨[zI 2,zI 0,zI 0,.slice eg kP.length dV,.slice dI jO.length du,zS,zS]⟩,.string alY]) [0] (xL (hN.up (((cg.trans ko).trans r5).trans iM)) Zk ((((show bC _ _ _ _ _ from ⟨dI,u4,u3,du,rfl,xw,qR,qQ⟩).up ko).up r5).up iM) (by have:=CZ.len;have:=HE.nh;omega)) ?_
   rintro _ akB ⟨aAW,rfl,RF,Rv,RR,Se⟩
   refine fU aiu<|aS 6 fun apQ aqd ait=>jd 1 [1]<|fU ait<|zD 1<|bE ax9 ⟨ZV,_,akB⟩ ⟨⟨RF▸YL,xF CZ RR,Rv⟩,Se⟩ Nat.zero_lt_one [1,2,0,3,4,5,6] (Sub.refl _)
  refine zD 4<|jf [2,0] (LB++LA) (fun aZA wD aFK=>?_)
  have hb:=hB.2.1.jW (Knows.left aFK)
  have ha:=hA.2.1.jW (Knows.right aFK)
  have hBF:=hb
  have hAF:=ha
  obtain⟨mw,O0,OY,mo,rfl,OZ,MS,MQ⟩:=hb
  obtain⟨lP,Ko,Kl,lG,rfl,Km,Jn,Jm⟩:=ha
  refine zD 2<|jc (vs:=[zP d,zI 4]) [0] (EL (hN.up ((((cg.trans ko).trans r5).trans iM).trans wD)) hA.2.2.2 (by omega)) ?_
  rintro _ bfb ⟨alX,rfl,aWZ,aWR,aG2⟩
  refine jn fun aIl=>jcL (vs:=[zP d,.slice (some ⟨aIl,0,none⟩) 4 4]) [1] [0] [(aIl,.cells ⟨([1,2,4,alX].map cm).flatten⟩ 3 (0,0))] (fun aG hs hZ=>ajY ((hN.up ((((cg.trans ko).trans r5).trans iM).trans wD)).up hs) aG2 (bU [1,2,4,alX] hZ.head (by intro p hp;rfl)) (by simp)) ?_
  rintro _ bfa ⟨adF,rfl,aEv,aG1⟩
  refine zD 2<|jc (vs:=[zP d,zI 4]) [0] (EL (hN.up ((((cg.trans ko).trans r5).trans iM).trans wD)) aG1 (by omega)) ?_
  rintro _ be9 ⟨alW,rfl,aWY,aWQ,aG0⟩
  refine jn fun aIk=>jcL (vs:=[zP d,.slice (some ⟨aIk,0,none⟩) 4 4]) [1] [0] [(aIk,.cells ⟨([1,2,4,alW].map cm).flatten⟩ 3 (0,0))] (fun aG hs hZ=>ajY ((hN.up ((((cg.trans ko).trans r5).trans iM).trans wD)).up hs) aG0 (bU [1,2,4,alW] hZ.head (by intro p hp;rfl)) (by simp)) ?_
  rintro _ be8 ⟨adE,rfl,aEu,aGZ⟩
  refine zD 2<|jc (vs:=[zP d,zI 4]) [0] (EL (hN.up ((((cg.trans ko).trans r5).trans iM).trans wD)) aGZ (by omega)) ?_
  rintro _ be7 ⟨alV,rfl,aWX,aWP,aGY⟩
  refine jn fun aIj=>jcL (vs:=[zP d,.slice (some ⟨aIj,0,none⟩) 4 4]) [1] [0] [(aIj,.cells ⟨([1,2,4,alV].map cm).flatten⟩ 3 (0,0))] (fun aG hs hZ=>ajY ((hN.up ((((cg.trans ko).trans r5).trans iM).trans wD)).up hs) aGY (bU [1,2,4,alV] hZ.head (by intro p hp;rfl)) (by simp)) ?_
  rintro _ be6 ⟨adC,rfl,aEt,aGX⟩
  refine jd 6 [5,5,5] ?_
  have An:=au4 aEv (by omega:0≤alX∧alX≤4)
  have ya:=au4 aEu (by omega:0≤alW∧alW≤4)
  have mZ:=au4 aEt (by omega:0≤alV∧alV≤4)
  refine zD 6<|jc (vs:=[zP d,zI nf]) [0] (EL (hN.up ((((cg.trans ko).trans r5).trans iM).trans wD)) aGX (by omega)) ?_
  rintro _ aUk ⟨aK4,rfl,aWW,aWO,aGW⟩
  refine zD 3<|n8<|dB [1,1,1,1,1,1,1,1,1,0,1,0,0] [] (fun(zz:Int×Value×Cells×(List bM)×Cells)=>[(0,zP d),(6,zP b6),(7,zP b7),(15,zI zz.1)]) (fun zz=>[.l zz.2.2.1,.l zz.2.2.2.2,.b sw (.cells ⟨[zI 2,zI 0,zI 0,.slice eg kP.length dV,.slice dI jO.length du,zS,zS]⟩ 90 (0,0)),.b b7 (.cells ⟨[.slice (some ⟨nQ,0,none⟩) 2 2,.slice eP TR.length dQ,zS,.slice eg kP.length dV,.slice dI jO.length du,vR,.slice mw uW.length mo,.slice lP Mh.length lG,zI adF,zI adE,zI adC,zz.2.1]⟩ 40 (0,0)),.b b6 (.cells ⟨zO⟩ 40 (0,0))]) (fun zz=>(0≤zz.1∧zz.2.2.2.1.length+zz.1≤nf)∧aw zz.2.1 3 58 m8 zz.2.2.2.1 zz.2.2.1∧BH uW.length Mh.length zz.2.2.2.1∧bK vd xs d zz.2.2.2.2) (fun zz=>zz.1.toNat) (⟨aK4,zS,[],[],aUk⟩) ⟨by simp only[List.length_nil];omega,aw.nil _ _ _,⟨(fun _ h=>by cases h),List.Pairwise.nil⟩,aGW⟩ [0,1,5,6,7] ?_
  rintro⟨j,vF,LF,fs,X⟩ hF K58 aGL rest
  dsimp only at hF
  have awI:=hB.1
  have aXg:=hA.1
  refine zD 6<|jj 5 [(0,zP d),(6,zP b6),(7,zP b7),(15,zI j),(214,.bool ((decide (j>0))&&(decide ((uW.length:Int)>0))))] (fun gH=>?_) (fun hj=>?_)
  rotate_left
  refine js 209 (decide (j>0)) (fun h56=>?_) (fun h56=>?_)
  ·
   have aiQ:=h56
   replace aiQ:=of_decide_eq_true aiQ
   refine jd 5 [3]<|jw 214 (.bool ((decide (j>0))&&(decide ((uW.length:Int)>0)))) (w:= .bool (decide ((uW.length:Int)>0))) (by rw[h56]<;>rfl) ?_
   exact zK hj
  ·
   have aiQ:=h56
   replace aiQ:=of_decide_eq_false aiQ
   refine zD 5<|jw 214 (.bool ((decide (j>0))&&(decide ((uW.length:Int)>0)))) (w:= .bool false) (by rw[h56]<;>rfl) ?_
   exact zK hj
  refine zD 1<|jj 5 [(0,zP d),(6,zP b6),(7,zP b7),(15,zI j),(220,.bool (((decide (j>0))&&(decide ((uW.length:Int)>0)))&&(decide ((Mh.length:Int)>0))))] (fun gH=>?_) (fun hj=>?_)
  rotate_left
  refine js 215 ((decide (j>0))&&(decide ((uW.length:Int)>0))) (fun h57=>?_) (fun h57=>?_)
  ·
   have ayg:=h57
   try simp only[zB] at ayg
   refine jd 5 [3]<|jw 220 (.bool (((decide (j>0))&&(decide ((uW.length:Int)>0)))&&(decide ((Mh.length:Int)>0)))) (w:= .bool (decide ((Mh.length:Int)>0))) (by rw[h57]<;>rfl) ?_
   exact zK hj
  ·
   have ayg:=h57
   try simp only[zB] at ayg
   refine zD 5<|jw 220 (.bool (((decide (j>0))&&(decide ((uW.length:Int)>0)))&&(decide ((Mh.length:Int)>0)))) (w:= .bool false) (by rw[h57]<;>rfl) ?_
   exact zK hj
  refine zD 1<|js 220 (((decide (j>0))&&(decide ((uW.length:Int)>0)))&&(decide ((Mh.length:Int)>0))) (fun h58=>?_) (fun h58=>?_)
  ·
   try simp only[zB] at h58
   refine jd 8 [3]<|jc (vs:=[zP d,.agg ⟨[.slice (some ⟨nQ,0,none⟩) 2 2,.slice eP TR.length dQ,zS,.slice eg kP.length dV,.slice dI jO.length du,vR,.slice mw uW.length mo,.slice lP Mh.length lG,zI adF,zI adE,zI adC,vF]⟩]) [1] (aTB (hN.up ((((cg.trans ko).trans r5).trans iM).trans wD)) hF.2.2.2 (show bC _ _ _ _ _ from ⟨mw,O0,OY,mo,rfl,OZ,MS,MQ⟩) (show bC _ _ _ _ _ from ⟨lP,Ko,Kl,lG,rfl,Km,Jn,Jm⟩) (by omega)) ?_
   rintro _ aID ⟨pZ,rfl,aXu,aXt,arP⟩
   refine jn fun b16=>jd 6 [0,4,0]<|jp (vs:=[.agg ⟨[.slice (some ⟨nQ,0,none⟩) 2 2,.slice eP TR.length dQ,zS,.slice eg kP.length dV,.slice dI jO.length du,vR,.slice mw uW.length mo,.slice lP Mh.length lG,zI adF,zI adE,zI adC,vF]⟩,.agg ⟨[zI pZ.a,zI pZ.b,.bool pZ.same]⟩]) [2] LF (fun aG hs hZ=>aD2 (x:=⟨pZ.a,pZ.b,pZ.same⟩) (hF.2.1.jW hZ) (by omega))<|zD 2<|js 229 (!(Dw fs pZ.a pZ.b)) (fun h59=>?_) (fun h59=>?_)
   ·
    try simp only[zB] at h59
    refine jd 5 [4,0]<|jn fun aIi=>iE (sz:=3) (ps:=fs) (qs:=[(⟨pZ.a,pZ.b,pZ.same⟩:bM)]) (enc:=m8) (w:= .slice (some ⟨aIi,0,none⟩) 1 1) [3] [0] [(aIi,.cells ⟨([(⟨pZ.a,pZ.b,pZ.same⟩:bM)].map m8).flatten⟩ 58 (0,0))] (hF.2.1) (fun s _ hZ=>bN [(⟨pZ.a,pZ.b,pZ.same⟩:bM)] (hZ _ (.head _)) (by intro p hp;rfl)) (fun p _=>ai rfl) (by simp<;>omega) (fun aZg aUR YR=>?_)
    obtain⟨aA6,aAZ,aF2⟩:=YR.form
    subst aF2
    refine jd 5 [5]<|ja (j-1) (by omega)<|zD 2<|bE aGL (⟨j-1,(.slice aA6 ((fs++[(⟨pZ.a,pZ.b,pZ.same⟩:bM)])).length aAZ),aUR,(fs++[(⟨pZ.a,pZ.b,pZ.same⟩:bM)]),aID⟩) ⟨by simp only[zM];omega,YR,BH.snoc hF.2.2.1 (by dsimp only;omega) (by dsimp only;omega) (by assumption),arP⟩ (by omega) [0,3,4,5,6] (Sub.refl _)
   try simp only[zB] at h59
   refine zD 4<|ja (j-1) (by omega)<|zD 2<|bE aGL (⟨j-1,vF,LF,fs,aID⟩) ⟨by dsimp only;omega,hF.2.1,hF.2.2.1,arP⟩ (by omega) [2,1,3,4,5] (Sub.refl _)
  try simp only[zB] at h58
  refine zD 4<|jf [0] LF (fun aZz Vn aQx=>?_)
  have hFA:=hF.2.1.jW aQx
  refine jd 1 [2] ?_
  obtain⟨aLG,aLm,aQ7⟩:=hR.2.1.form
  subst aQ7
  obtain⟨aLF,aLl,aQ6⟩:=hF.2.1.form
  subst aQ6
  refine jd 3 [3]<|aL q0.a.a.a.a.a.a (.agg ⟨[.slice (some ⟨nQ,0,none⟩) 2 2,.slice eP TR.length dQ,zS,.slice eg kP.length dV,.slice dI jO.length du,(.slice aLG (rs).length aLm),.slice mw uW.length mo,.slice lP Mh.length lG,zI adF,zI adE,zI adC,(.slice aLF (fs).length aLl)]⟩) [3] [0] X (Sub.refl _) ⟨_,_,X,rfl,rfl,(((((cg.trans ko).trans r5).trans iM).trans wD).trans Vn),⟨ways,kP,VH,rs,uW,Mh,adF,adE,adC,fs,yW⟩,_,rfl,⟨TJ.2.1,HE,⟨by dsimp only;omega,hR.2.2⟩,⟨by dsimp only;omega,hB.2.2.1⟩,⟨by dsimp only;omega,hA.2.2.1⟩,⟨An,ya,mZ⟩,⟨by dsimp only;omega,hF.2.2.1.1⟩,hF.2.2.1.2,rfl⟩,(by dsimp only;omega),⟨_,_,_,_,_,_,_,_,none,0,jO,rfl,(aSf.up (((r5.trans iM).trans wD).trans Vn)),(aGI.up ((iM.trans wD).trans Vn)),(qo.up ((((ko.trans r5).trans iM).trans wD).trans Vn)),CZ,(hRU.up (wD.trans Vn)),(hBF.up Vn),(hAF.up Vn),hFA⟩,hF.2.2.2⟩
 refine js 30 w30 (fun h65=>?_) (fun h65=>?_)
 ·
  subst h65
  refine jd 7 [1]<|aS 4 fun aVb aVD aSy=>jc [0] (aHS (hN.up (cg.trans ko)) aGU) ?_
  rintro _ X35 ⟨uD,rfl,aEs,aSX⟩
  refine gx aSy [[1]]<|aS 5 fun aVa aVC aSx=>jn fun qX=>eo aSx [1,2,3]<|zD 1<|aS 7 fun aU9 aVB aSw=>jn fun b38=>eo aSw (zN 1 4)<|aS 8 fun aU8 aVA aSv=>aOC (E:=87) (sz:=1) fK (qs:=[(.slice (some ⟨qX,0,none⟩) 1 1:Value)]) (w:= .slice (some ⟨b38,0,none⟩) 1 1) [0] [(b38,.cells ⟨([(.slice (some ⟨qX,0,none⟩) 1 1:Value)].map fK).flatten⟩ 87 (0,0))] (fun s _ hZ=>bN [(.slice (some ⟨qX,0,none⟩) 1 1:Value)] (hZ _ (.head _)) (by intro p hp;rfl)) (by intro p hp;rw[List.mem_singleton] at hp;subst hp;exact ai rfl) (by simp<;>omega) (fun v39 L39 CN=>?_)
  obtain⟨aA5,aAY,aib⟩:=CN.form
  subst aib
  refine eo aSv (zN 1 5)<|zD 2<|aS 11 fun aU7 aVz aSu=>jd 1 [4]<|gx aSu []<|zD 4<|jc (vs:=[zP d,zI 2]) [3] (tv (hN.up (cg.trans ko)) aSX (by omega)) ?_
  rintro _ X43 ⟨w43,rfl,aGT⟩
  refine zD 1<|js 43 w43 (fun h71=>?_) (fun h71=>?_)
  ·
   subst h71
   refine jd 8 [4,4]<|A0 1 CN (show ([(.slice (some ⟨qX,0,none⟩) 1 1:Value)])[0]?=some (.slice (some ⟨qX,0,none⟩) 1 1:Value) from rfl) fun b50 aRP=>zD 1<|kJ 0 [1] L39 (fun s _ hZ=>bn CN aRP hZ (show ([(.slice (some ⟨qX,0,none⟩) 1 1:Value)])[0]?=some (.slice (some ⟨qX,0,none⟩) 1 1:Value) from rfl))<|zD 1<|aS 10 fun aU6 aVy aSt=>jc [0] (aHS (hN.up (cg.trans ko)) aGT) ?_
   rintro _ X54 ⟨vq,rfl,aO5,aSU⟩
   refine gx aSt [[1],[4],[4]]<|aS 11 fun aU5 aVx aSs=>jn fun b55=>eo aSs (zN 1 6)<|aS 12 fun aU4 aVw aSr=>iE (sz:=7) (ps:=[(⟨uD.k,uD.st,uD.ot,uD.fn,uD.fl,uD.tn,uD.tl⟩:aO)]) (qs:=[(⟨vq.k,vq.st,vq.ot,vq.fn,vq.fl,vq.tn,vq.tl⟩:aO)]) (enc:=kO) (w:= .slice (some ⟨b55,0,none⟩) 1 1) [4] [0] [(b55,.cells ⟨([(⟨vq.k,vq.st,vq.ot,vq.fn,vq.fl,vq.tn,vq.tl⟩:aO)].map kO).flatten⟩ 83 (0,0))] (AQ (b:=qX) (T:=83) [(⟨uD.k,uD.st,uD.ot,uD.fn,uD.fl,uD.tn,uD.tl⟩:aO)] rfl (by intro p hp;rfl)) (fun s _ hZ=>bN [(⟨vq.k,vq.st,vq.ot,vq.fn,vq.fl,vq.tn,vq.tl⟩:aO)] (hZ _ (.head _)) (by intro p hp;rfl)) (fun p _=>ai rfl) (by simp<;>omega) (fun v56 L56 wE=>?_)
   obtain⟨aan,aal,ah9⟩:=wE.form
   subst ah9
   refine gx aSr [[5],[5]]<|A0 1 CN (show ([(.slice (some ⟨qX,0,none⟩) 1 1:Value)])[0]?=some (.slice (some ⟨qX,0,none⟩) 1 1:Value) from rfl) fun b57 axI=>zD 1<|aS 15 fun aU3 aVv aSq=>E8 3 0 [(.slice aan (([(⟨uD.k,uD.st,uD.ot,uD.fn,uD.fl,uD.tn,uD.tl⟩:aO)]++[(⟨vq.k,vq.st,vq.ot,vq.fn,vq.fl,vq.tn,vq.tl⟩:aO)])).length aal)] ((.slice aan (([(⟨uD.k,uD.st,uD.ot,uD.fn,uD.fl,uD.tn,uD.tl⟩:aO)]++[(⟨vq.k,vq.st,vq.ot,vq.fn,vq.fl,vq.tn,vq.tl⟩:aO)])).length aal):Value) CN axI (show ([(.slice (some ⟨qX,0,none⟩) 1 1:Value)])[0]?=some (.slice (some ⟨qX,0,none⟩) 1 1:Value) from rfl) rfl rfl (Nat.le_of_ble_eq_true rfl) fun L76 aPV=>gx aSq []<|zD 1<|KY bF ⟨(.slice aA5 ([(.slice (some ⟨qX,0,none⟩) 1 1:Value)]).length aAY),L76++L56,[[uD,vq]],X54⟩ ⟨fun _ hk=>⟨_,aPV.jW hk.left,.cons (wE.jW hk.right) .nil⟩,⟨by simp,by simpa using ⟨aEs,aO5⟩⟩,aSU⟩ Nat.zero_lt_one [[0,1],[3],[5],[6]] (Sub.refl _)
  subst h71
  refine zD 2<|KY bF ⟨(.slice aA5 ([(.slice (some ⟨qX,0,none⟩) 1 1:Value)]).length aAY),L39++[(qX,.cells ⟨[zI uD.k,zI uD.st,zI uD.ot,zI uD.fn,zI uD.fl,zI uD.tn,zI uD.tl]⟩ 83 (0,0))],[[uD]],X43⟩ ⟨fun _ hk=>⟨_,CN.jW hk.left,.cons (bU [uD] (hk.right _ (.head _)) (fun _ _=>rfl)) .nil⟩,⟨by simp,by simpa using aEs⟩,aGT⟩ Nat.zero_lt_one [[1,3],[0],[4],[5]] (Sub.refl _)
 subst h65
 refine zD 2<|n8<|bE bF ⟨zS,[],[],X30⟩ ⟨fun _ _=>Uf,⟨by simp,by simp⟩,aGU⟩ Nat.zero_lt_one (zN 0 4) (Sub.refl _)
theorem aTD{xs:List Int}(hl:bC ro vd 1 cm xs):dE zT 8 [vd] ro [] (fun r Y=>∃d,r= zP d∧bK vd xs d Y):=by
 obtain⟨fw,rQ,rP,eL,rfl,tO,lM,mC⟩:=hl
 refine zE<|zD 8<|jn fun b5=>zD 3<|zR (zP b5) [] [0] [(b5,.cells ⟨[.slice fw xs.length eL,zI 0,zU 11400714819323198485]⟩ 76 (0,0))] ⟨_,rfl,0,_,Nat.zero_le _,rfl⟩
theorem di.set{R:α→β→Prop}{l:List α}{m:List β}(h:di R l m){a:α}{b:β}(hb:m[k]?=some b) (hr:R a b):di R (l.set k a) m:=by
 induction h generalizing k with
 |nil=>simp at hb
 |cons h1 h2 ih=>
  cases k with
  |zero=>simp at hb;subst hb;exact .cons hr h2
  |succ k=>exact .cons h1 (ih (by simpa using hb))
theorem di.mem{R:α→β→Prop}{l:List α}{m:List β}(h:di R l m){a:α}(ha:a∈l):∃b∈m,R a b:=by
 obtain⟨i,hi⟩:=List.getElem?_of_mem ha
 obtain⟨b,hb,hr⟩:=h.get hi
 exact⟨b,zL hb,hr⟩
theorem mJ{hv:List bA}(h:di (rH ro) hv hd):∀p∈hv,∀c∈mf p,single c=true:=fun p hp=>by
 obtain⟨y,_,h1⟩:=h.mem hp
 obtain⟨w,c,s,a⟩:=p
 obtain⟨_,_,_,_,e,_⟩:=h1.2.2.2
 dsimp only at e
 subst e
 exact ai rfl
theorem SK{hw:List bA}{Z L:Cells}{v:Value}{x x':bA}{y:cy}(h:∀aD,Sub ro aD→Knows aD Z→di (rH aD) hw hd)(hS:di dq hw hd)(hx:hw[k]?=some x) (kV:hw[k]?=some x') (hy:hd[k]?=some y) (ho:aw v 1 3 cm y.dR L):
 (∀aD,Sub ro aD→Knows aD (L++Z)→di (rH aD) (hw.set k ⟨x'.word,x'.cls,x'.oy,v⟩) hd)∧di dq (hw.set k ⟨x'.word,x'.cls,x'.oy,v⟩) hd:=by
 rw[hx] at kV;cases kV
 obtain⟨y',h1,h2⟩:=hS.get hx
 rw[hy] at h1;cases h1
 exact⟨fun aD hs hk=>(h aD hs hk.right).set hy ⟨h2.1,h2.2.1,h2.2.2,ho.jW hk.left⟩,hS.set hy h2⟩
theorem aci{l m:List α}{a:α}(h:l.drop k=m.drop k):(l.set k a).drop (k+1)=m.drop (k+1):=by
 have h1:=congrArg (List.drop 1) h
 rw[List.drop_drop,List.drop_drop] at h1
 rw[List.drop_set_of_lt (by omega)]
 exact h1
theorem ajT{l m:List α}{a:α}(h:l.drop k=m.drop k)(ha:l[k]?=some a):m[k]?=some a:=by
 have h1:=congrArg (fun q=>q[0]?) h
 simp only[List.getElem?_drop,Nat.add_zero] at h1
 rw[←h1];exact ha
theorem ud{hv:List bA}(hT:Z5 cs hd)(hR:jb ro vc vh cs hv hd)(hS:di dq hv hd):dE zT 39 [.agg ⟨[vc,vh]⟩] ro [] (fun r Y=>∃(hw:List bA) (ca ha:Option Addr) (cc hc:Nat) (Z:Cells),r= .agg ⟨[.slice ca cs.length cc,.slice ha hw.length hc]⟩∧di dq hw hd∧(∀aD,Sub ro aD→Knows aD Z→jb aD (.slice ca cs.length cc) (.slice ha hw.length hc) cs hw hd)∧Y=Z):=by
 obtain⟨hc,hh,dg⟩:=id hR
 obtain⟨eg,AJ,AI,dV,rfl,DC,yU,yT⟩:=hc
 obtain⟨dI,u4,u3,du,rfl,xw,qR,qQ⟩:=hh
 have hlen:=hS.len
 have hnh:=hT.nh
 have DN:=hT.nc
 refine zE<|zD 2<|jn fun b1=>jn fun b2=>zD 2<|Es [1,1] [] (fun(zz:Value×Cells×Value×Cells)=>[(1,zP b1),(2,zP b2)]) (fun zz=>[.b b1 (.cells ⟨[zz.1,zz.2.2.1]⟩ 35 (0,0)),.l zz.2.1,.l zz.2.2.2,.b b2 (.cells ⟨[zS,zS]⟩ 35 (0,0))]) (fun zz=>aw zz.1 2 142 pd cs zz.2.1∧aw zz.2.2.1 4 145 mf hv zz.2.2.2) ?_ (fun K1 bF=>?_)
 ·
  rintro⟨vC,LC,vH,LH⟩ hJ rest
  dsimp only at hJ
  refine zD 6<|n8<|dB [1,1,0,1,0,0] [] (fun(zz:Nat×Value×Cells×(List bA)×Cells)=>[(1,zP b1),(2,zP b2),(3,zI (zz.1:Int))]) (fun zz=>[.b b1 (.cells ⟨[vC,zz.2.1]⟩ 35 (0,0)),.l zz.2.2.1,.l zz.2.2.2.2,.l LC,.b b2 (.cells ⟨[zS,zS]⟩ 35 (0,0))]) (fun zz=>(zz.1≤zz.2.2.2.1.length∧zz.2.2.2.1.length=hv.length∧zz.2.2.2.1.drop zz.1=hv.drop zz.1)∧aw zz.2.1 4 145 mf zz.2.2.2.1 zz.2.2.1∧(∀aD,Sub ro aD→Knows aD zz.2.2.2.2→di (rH aD) zz.2.2.2.1 hd)∧di dq zz.2.2.2.1 hd) (fun zz=>hv.length-zz.1) (⟨0,vH,LH,hv,[]⟩) ⟨⟨by omega,rfl,rfl⟩,hJ.2,fun _ hs _=>(hR.up hs).2.2,hS⟩ [1,3,0,2,4] ?_
  rintro⟨k,vH,LH,hw,Z⟩ hI K2 kL rest
  dsimp only at hI
  refine jd 6 [0]<|CG hI.2.1<|zD 2<|zJ 18 ((k:Int) <(hw.length:Int)) (fun h1=>?_) fun h1=>?_
  ·
   refine jd 11 [0,0] ?_
   obtain⟨x27,CJ⟩:=zG hw k
   refine A0 4 hI.2.1 CJ fun b27 axM=>zD 1<|kJ 3 [1] LH (fun s _ hZ=>bn hI.2.1 axM hZ CJ)<|aS 9 (fun oh ov mZ=>?_)
   obtain⟨y27,avL,aPG⟩:=hR.2.2.get (ajT hI.1.2.2 CJ)
   have aXs:=(hT.A8 _ _ avL).2.2.1.1
   refine jc (vs:=[x27.dR]) [] (agO aPG.2.2.2 (by omega)) ?_
   rintro v30 L30 ⟨_,uj,rfl⟩
   refine eo mZ (zN 1 5) ?_
   obtain⟨x31,NC⟩:=zG hw k
   refine A0 4 hI.2.1 NC fun Jb aRX=>zD 1<|aS 12 (fun pX p6 oZ=>?_)
   obtain⟨va4,vc4,he4⟩:=uj.form
   subst he4
   refine E8 2 3 [(.slice va4 (y27.dR).length vc4)] (⟨x31.word,x31.cls,x31.oy,(.slice va4 (y27.dR).length vc4)⟩:bA) hI.2.1 aRX NC rfl rfl (Nat.le_of_ble_eq_true rfl) fun L5 ho6=>gx oZ []<|zD 3<|ja ((k:Int)+1) (by omega)<|zD 2<|KY kL (⟨k+1,vH,L5,(hw.set k (⟨x31.word,x31.cls,x31.oy,(.slice va4 (y27.dR).length vc4)⟩:bA)),L30++Z⟩) ⟨⟨by rw[List.length_set];omega,by rw[List.length_set];exact hI.1.2.1,aci hI.1.2.2⟩,ho6,(SK hI.2.2.1 hI.2.2.2 CJ NC avL uj).1,(SK hI.2.2.1 hI.2.2.2 CJ NC avL uj).2⟩ (by omega) [[2],[0],[1,3],[4],[5]] (Sub.refl _)
  refine jd 5 [0] ?_
  obtain⟨OU,OT,NM⟩:=hJ.1.form
  subst NM
  obtain⟨va8,vc8,he8⟩:=hI.2.1.form
  subst he8
  refine jd 3 [4]<|zR (.agg ⟨[(.slice OU (cs).length OT),(.slice va8 (hw).length vc8)]⟩) [4] [1,2,3] (LH++(Z++LC)) ⟨hw,_,_,_,_,_,rfl,hI.2.2.2,fun aD hs hk=>⟨hJ.1.jW hk.right.right,hI.2.1.jW hk.left,hI.2.2.1 aD hs hk.right.left⟩,rfl⟩
 refine jd 5 [1,1]<|IV [0,4] ⟨fun z5 t6 Sb=>?_,fun z8 t9 wG=>?_,trivial⟩
 ·
  refine jn fun b4=>eo Sb [1,2]<|IV [3,4] ⟨fun z11 t12 NW=>?_,fun z14 t15 EG=>?_,trivial⟩
  ·
   refine iE (sz:=2) (ps:=[]) (qs:=cs) (enc:=pd) (w:= .slice eg cs.length dV) [0] [] [] (bB (b:=b4) (T:=142)) (fun s he _=>⟨eg,AJ,AI,dV,rfl,yU,fun i p hp=>(yT i p hp).ext he⟩) (fun p _=>ai rfl) (by simp<;>omega) (fun v7 L7 iF=>?_)
   rw[List.nil_append] at iF
   obtain⟨OU,OT,NM⟩:=iF.form
   subst NM
   refine gx NW [[2]]<|zD 1<|aS 4 fun Xc Xm C2=>jn fun b8=>eo C2 [1,2,3]<|aS 7 fun adp aeb NU=>iE (sz:=4) (ps:=[]) (qs:=hv) (enc:=mf) (w:= .slice dI hv.length du) [0] [] [] (bB (b:=b8) (T:=145)) (fun s he _=>⟨dI,u4,u3,du,rfl,qR,fun i p hp=>(qQ i p hp).ext he⟩) (mJ dg) (by simp only[List.length_nil,Nat.zero_add];omega) (fun v11 L11 qk=>?_)
   rw[List.nil_append] at qk
   obtain⟨adX,adP,aie⟩:=qk.form
   subst aie
   refine gx NU []<|aS 9 fun ap1 aqn V1=>jd 1 [3]<|fU V1<|zD 1<|aS 11 fun aAz aBy V0=>jd 1 [3]<|fU V0<|zD 1<|bE bF ⟨(.slice OU (cs).length OT),L7,(.slice adX (hv).length adP),L11⟩ ⟨iF,qk⟩ Nat.zero_lt_one [3,1,0,2] (Sub.refl _)
  refine jn fun b8=>eo EG [1,2,3]<|aS 3 fun aVe aVG aoK=>iE (sz:=2) (ps:=[]) (qs:=cs) (enc:=pd) (w:= .slice eg cs.length dV) [1] [] [] (bB (b:=b4) (T:=142)) (fun s he _=>⟨eg,AJ,AI,dV,rfl,yU,fun i p hp=>(yT i p hp).ext he⟩) (fun p _=>ai rfl) (by simp<;>omega) (fun v7 L7 iF=>?_)
  rw[List.nil_append] at iF
  obtain⟨OU,OT,NM⟩:=iF.form
  subst NM
  refine gx aoK [[3]]<|zD 1<|aS 7 fun aVd aVF aiF=>iE (sz:=4) (ps:=[]) (qs:=hv) (enc:=mf) (w:= .slice dI hv.length du) [1] [] [] (bB (b:=b8) (T:=145)) (fun s he _=>⟨dI,u4,u3,du,rfl,qR,fun i p hp=>(qQ i p hp).ext he⟩) (mJ dg) (by simp only[List.length_nil,Nat.zero_add];omega) (fun v11 L11 qk=>?_)
  rw[List.nil_append] at qk
  obtain⟨adX,adP,aie⟩:=qk.form
  subst aie
  refine gx aiF []<|aS 9 fun aAy aBx VZ=>jd 1 [3]<|fU VZ<|zD 1<|aS 11 fun aVc aVE ax5=>jd 1 [3]<|fU ax5<|zD 1<|bE bF ⟨(.slice OU (cs).length OT),L7,(.slice adX (hv).length adP),L11⟩ ⟨iF,qk⟩ Nat.zero_lt_one [3,1,0,2] (Sub.refl _)
 refine jn fun b8=>eo wG [1,2]<|aS 0 fun aAx aBw VY=>jn fun b4=>eo VY [1,2,3]<|aS 3 fun ado aea EE=>iE (sz:=2) (ps:=[]) (qs:=cs) (enc:=pd) (w:= .slice eg cs.length dV) [0] [] [] (bB (b:=b4) (T:=142)) (fun s he _=>⟨eg,AJ,AI,dV,rfl,yU,fun i p hp=>(yT i p hp).ext he⟩) (fun p _=>ai rfl) (by simp<;>omega) (fun v7 L7 iF=>?_)
 rw[List.nil_append] at iF
 obtain⟨OU,OT,NM⟩:=iF.form
 subst NM
 refine gx EE [[3]]<|zD 1<|aS 7 fun Pj PI C1=>iE (sz:=4) (ps:=[]) (qs:=hv) (enc:=mf) (w:= .slice dI hv.length du) [1] [] [] (bB (b:=b8) (T:=145)) (fun s he _=>⟨dI,u4,u3,du,rfl,qR,fun i p hp=>(qQ i p hp).ext he⟩) (mJ dg) (by simp only[List.length_nil,Nat.zero_add];omega) (fun v11 L11 qk=>?_)
 rw[List.nil_append] at qk
 obtain⟨adX,adP,aie⟩:=qk.form
 subst aie
 refine gx C1 []<|aS 9 fun Ph PH HG=>jd 1 [3]<|fU HG<|zD 1<|aS 11 fun Pg PG HF=>jd 1 [3]<|fU HF<|zD 1<|bE bF ⟨(.slice OU (cs).length OT),L7,(.slice adX (hv).length adP),L11⟩ ⟨iF,qk⟩ Nat.zero_lt_one [3,1,0,2] (Sub.refl _)
structure da where
 a:Int
 b:Int
 c:Int
 d:Int
 e:Int
 f:Int
abbrev mP(x:da):List Value:=[zI x.a,zI x.b,zI x.c,zI x.d,zI x.e,zI x.f]
def Tg(K:aB)(l:List Value):Prop:=∃v0 v1 v3 v4 v5 v6 v7 vb fa fc,l=[v0,v1,.slice fa 0 fc,v3,v4,v5,v6,v7,zI K.gone,zI K.new,zI K.af,vb]∧∀v∈[v0,v1,v3,v4,v5,v6,v7,vb],single v=true
theorem Tg.all(h:Tg K l):∀v∈l,single v=true:=by
 obtain⟨v0,v1,v3,v4,v5,v6,v7,vb,fa,fc,rfl,h⟩:=h
 simp only[List.mem_cons,List.not_mem_nil,or_false] at h ⊢
 rintro v (rfl|rfl|rfl|rfl|rfl|rfl|rfl|rfl|rfl|rfl|rfl|rfl)<;>first|rfl|exact h _ (by simp)
theorem ei{v:Value}{T:TypeId}{enc:α→List Value}{ps:List α}{L:Cells}(h:aw v sz T enc ps L):single v=true:=by
 obtain⟨a,c,rfl⟩:=h.form;rfl
theorem jV{v:Value}{enc:α→List Value}{ps:List α}(h:bC ro v sz enc ps):single v=true:=by
 obtain⟨a,b,o,c,rfl,_⟩:=h;rfl
theorem vP{a b c d e f g h:Value}(h1:single a=true)(h2:single b=true)(h3:single c=true)(h4:single d=true)(h5:single e=true)(h6:single f=true)(h7:single g=true)(h8:single h=true):∀v∈[a,b,c,d,e,f,g,h],single v=true:=by
 simp only[List.mem_cons,List.not_mem_nil,or_false]
 rintro v (rfl|rfl|rfl|rfl|rfl|rfl|rfl|rfl)<;>assumption
theorem fF.L(h:fF ro l K):Tg K l:=by
 obtain⟨v0,v1,v3,v4,v5,v6,v7,vb,fa,fc,hv,rfl,⟨_,h0,_⟩,⟨_,h1,_⟩,⟨h3,h4,_⟩,_,h5,h6,h7,hb⟩:=h
 exact⟨_,_,_,_,_,_,_,_,_,_,rfl,vP (jV h0) (jV h1) (jV h3) (jV h4) (jV h5) (jV h6) (jV h7) (jV hb)⟩
theorem oE{P:Prop}{p:α}(h:([]:List α)[i]?=some p):P:=by simp at h
theorem dZ{l:List α}{a:α}(h:l[i]?=some a):l.take (i+1)=l.take i++[a]:=by
 rw[List.take_succ,h];rfl
theorem pW{R:α→β→Prop}{ws:List α}{ls:List β}{w:α}{l:β}(h:di R ws (ls.take i))(hl:ls[i]?=some l) (hr:R w l):di R (ws++[w]) (ls.take (i+1)):=by
 rw[dZ hl];exact h.snoc hr
def hqw:ByteArray:=bs [72,81,87]
def kindOf(r:Int):Int:=if 97≤r∧r≤122 then 1 else if (65≤r∧r≤90)∧Ri hqw (UInt8.ofNat (IntKind.u8.wrap r).toNat) <0 then 2 else 0
theorem aHM:EF zT 299 Extern.BytealgIndexByte.indexByte:=⟨Tryz.f299,Tryz.func299,by kernel_rfl,by kernel_rfl,by kernel_rfl,by kernel_rfl⟩
theorem abt{a:ByteArray}{b:Int}:dr zT 291 [.string a,.int .u8 b] ro (zI (Ri a (b).toNat.toUInt8)):=by
 refine zE<|zD 8<|jib (a:=a) (b:=b) aHM<|zD 3<|zX (zI (Ri a (b).toNat.toUInt8)) ⟨rfl,rfl⟩
theorem abu{a:ByteArray}{b:Int}:dr zT 274 [.string a,.int .u8 b] ro (zI (Ri a (b).toNat.toUInt8)):=by
 refine zE<|zD 8<|jp (vs:=[.string a,.int .u8 b]) [] [] (fun aG hs hZ=>abt)<|zD 3<|zX (zI (Ri a (b).toNat.toUInt8)) ⟨rfl,rfl⟩
theorem avF{a:ByteArray}(hr:0≤r∧r <128):dr zT 250 [.string a,.int .i32 r] ro (zI (Ri a (IntKind.u8.wrap r).toNat.toUInt8)):=by
 refine zE<|zD 10<|jj 3 [(0,.string a),(1,.int .i32 r),(4,zI 0),(166,.bool ((decide (0≤r))&&(decide (r <128))))] (fun gH=>?_) (fun hj=>?_)
 rotate_left
 refine js 163 (decide (0≤r)) (fun h1=>?_) (fun h1=>?_)
 ·
  have fp:=h1
  replace fp:=of_decide_eq_true fp
  refine zD 3<|jw 166 (.bool ((decide (0≤r))&&(decide (r <128)))) (w:= .bool (decide (r <128))) (by rw[h1]<;>rfl) ?_
  exact zK hj
 ·
  have fp:=h1
  replace fp:=of_decide_eq_false fp
  refine zD 3<|jw 166 (.bool ((decide (0≤r))&&(decide (r <128)))) (w:= .bool false) (by rw[h1]<;>rfl) ?_
  exact zK hj
 refine zD 2<|js 160 ((decide (0≤r))&&(decide (r <128))) (fun h2=>?_) (fun h2=>?_)
 ·
  try simp only[zB] at h2
  refine zD 6<|jp (vs:=[.string a,.int .u8 (IntKind.u8.wrap r)]) [] [] (fun aG hs hZ=>abu)<|zD 3<|zX (zI (Ri a ((IntKind.u8.wrap r)).toNat.toUInt8)) ⟨rfl,rfl⟩
 try simp only[zB] at h2
 exfalso;omega
theorem aoB{a:ByteArray}(hr:0≤r∧r <128):dr zT 229 [.string a,.int .i32 r] ro (.bool (decide (Ri a (IntKind.u8.wrap r).toNat.toUInt8≥0))):=by
 refine zE<|zD 8<|jp (vs:=[.string a,.int .i32 r]) [] [] (fun aG hs hZ=>avF (by omega))<|zD 4<|zX (.bool (decide ((Ri a (IntKind.u8.wrap r).toNat.toUInt8)≥0))) ⟨rfl,rfl⟩
theorem aqQ:dr zT 207 [.int .i32 r] ro (zI (kindOf r)):=by
 refine zE<|zD 11<|jj 3 [(0,.int .i32 r),(2,zI 0),(9,.bool ((decide (r≥97))&&(decide (r≤122))))] (fun gH=>?_) (fun hj=>?_)
 rotate_left
 refine js 6 (decide (r≥97)) (fun h1=>?_) (fun h1=>?_)
 ·
  have fp:=h1
  replace fp:=of_decide_eq_true fp
  refine zD 3<|jw 9 (.bool ((decide (r≥97))&&(decide (r≤122)))) (w:= .bool (decide (r≤122))) (by rw[h1]<;>rfl) ?_
  exact zK hj
 ·
  have fp:=h1
  replace fp:=of_decide_eq_false fp
  refine zD 3<|jw 9 (.bool ((decide (r≥97))&&(decide (r≤122)))) (w:= .bool false) (by rw[h1]<;>rfl) ?_
  exact zK hj
 refine zD 2<|js 3 ((decide (r≥97))&&(decide (r≤122))) (fun h2=>?_) (fun h2=>?_)
 ·
  try simp only[zB] at h2
  refine zD 6<|zX (zI 1) ⟨by simp only[kindOf,hqw];congr 1;(try simp at*);(repeat' split)<;>omega,rfl⟩
 try simp only[zB] at h2
 refine zD 6<|jj 3 [(0,.int .i32 r),(2,zI 0),(16,.bool ((decide (r≥65))&&(decide (r≤90))))] (fun gH=>?_) (fun hj=>?_)
 rotate_left
 refine js 13 (decide (r≥65)) (fun h3=>?_) (fun h3=>?_)
 ·
  have wH:=h3
  replace wH:=of_decide_eq_true wH
  refine zD 3<|jw 16 (.bool ((decide (r≥65))&&(decide (r≤90)))) (w:= .bool (decide (r≤90))) (by rw[h3]<;>rfl) ?_
  exact zK hj
 ·
  have wH:=h3
  replace wH:=of_decide_eq_false wH
  refine zD 3<|jw 16 (.bool ((decide (r≥65))&&(decide (r≤90)))) (w:= .bool false) (by rw[h3]<;>rfl) ?_
  exact zK hj
 refine zD 1<|jj 4 [(2,zI 0),(21,.bool (((decide (r≥65))&&(decide (r≤90)))&&(!(decide (Ri (bs [72,81,87]) (IntKind.u8.wrap r).toNat.toUInt8≥0)))))] (fun gH=>?_) (fun hj=>?_)
 rotate_left
 refine js 17 ((decide (r≥65))&&(decide (r≤90))) (fun h4=>?_) (fun h4=>?_)
 ·
  have uR:=h4
  try simp only[zB] at uR
  refine zD 1<|jp (vs:=[.string (bs [72,81,87]),.int .i32 r]) [] [] (fun aG hs hZ=>aoB (by omega))<|zD 2<|jw 21 (.bool (((decide (r≥65))&&(decide (r≤90)))&&(!(decide (Ri (bs [72,81,87]) (IntKind.u8.wrap r).toNat.toUInt8≥0))))) (w:= .bool (!(decide (Ri (bs [72,81,87]) (IntKind.u8.wrap r).toNat.toUInt8≥0)))) (by rw[h4]<;>rfl) ?_
  exact zK hj
 ·
  have uR:=h4
  try simp only[zB] at uR
  refine zD 4<|jw 21 (.bool (((decide (r≥65))&&(decide (r≤90)))&&(!(decide (Ri (bs [72,81,87]) (IntKind.u8.wrap r).toNat.toUInt8≥0))))) (w:= .bool false) (by rw[h4]<;>rfl) ?_
  exact zK hj
 refine zD 2<|js 10 (((decide (r≥65))&&(decide (r≤90)))&&(!(decide (Ri (bs [72,81,87]) (IntKind.u8.wrap r).toNat.toUInt8≥0)))) (fun h5=>?_) (fun h5=>?_)
 ·
  try simp only[zB] at h5
  refine zD 6<|zX (zI 2) ⟨by simp only[kindOf,hqw];congr 1;(try simp at*);(repeat' split)<;>omega,rfl⟩
 try simp only[zB] at h5
 refine zD 7<|zX (zI 0) ⟨by simp only[kindOf,hqw];congr 1;(try simp at*);(repeat' split)<;>omega,rfl⟩
theorem agp:((List.range 256).all fun n=> !G0 (UInt8.ofNat n)||decide (kindOf (n:Int)=1))=true:=by kernel_rfl
theorem ago:((List.range 256).all fun n=> !GG (UInt8.ofNat n)||decide (kindOf (n:Int)=2))=true:=by kernel_rfl
def aac(w:ByteArray)(k:Int):Prop:=∀b∈w.data.toList,b.toNat <128∧kindOf (b.toNat:Int)=k
theorem P7{w:ByteArray}(h:Script w):∃k:Int,(k=1∨k=2)∧aac w k:=by
 have hb:∀b:UInt8,UInt8.ofNat b.toNat=b:=fun b=>by simp
 rcases h with h|h
 ·refine⟨1,.inl rfl,fun b mv=>?_⟩
  have h1:=h b mv
  have h2:=List.all_eq_true.1 agp b.toNat (List.mem_range.2 b.toNat_lt)
  rw[hb,h1] at h2
  simp only[G0,Bool.and_eq_true,Nat.ble_eq] at h1
  exact⟨by omega,by simpa using h2⟩
 refine⟨2,.inr rfl,fun b mv=>?_⟩
 have h1:=h b mv
 have h2:=List.all_eq_true.1 ago b.toNat (List.mem_range.2 b.toNat_lt)
 rw[hb,h1] at h2
 simp only[GG,Bool.and_eq_true,Nat.ble_eq] at h1
 exact⟨by omega,by simpa using h2⟩
theorem ana{w:ByteArray}{k:Int}(hs:1≤w.size∧w.size≤6)(hk:k=1∨k=2)(hK:aac w k):dr zT 166 [.string w] ro (zI 0):=by
 refine zE<|zD 11<|zJ 9 ((w.size:Int)=0) (fun h1=>?_) fun h1=>?_
 ·
  exfalso;omega
 refine zD 9<|zJ 12 ((w.size:Int)>6) (fun h2=>?_) fun h2=>?_
 ·
  exfalso;omega
 refine zD 10<|jn fun r14=>zD 2<|dB [1,1,1,1,0,1,0,0] [] (fun(zz:Nat×Int)=>[(3,zI zz.2),(14,zP r14)]) (fun zz=>[.b r14 (.stringIter w zz.1)]) (fun zz=>zz.1≤w.data.toList.length∧(zz.2=0∨zz.2=k)) (fun zz=>w.data.toList.length-zz.1) (⟨0,0⟩) ⟨by omega,.inl rfl⟩ [0] ?_
 rintro⟨p,sc⟩ hI K1 bF rest
 dsimp only at hI
 refine zD 2 ?_
 cases RE:w.data.toList[p]? with
 |some yd=>
  refine jnA r14 0 RE (hK _ (zL RE)).1<|zD 7 ?_
  have Y1:=(hK _ (zL RE)).2
  refine zD 7<|jp (vs:=[.int .i32 (yd.toNat:Int)]) [] [] (fun aG hs hZ=>aqQ)<|zD 8<|zJ 21 (sc=0) (fun h3=>?_) fun h3=>?_
  ·
   refine zD 10<|jj 4 [(3,zI (kindOf (yd.toNat:Int))),(14,zP r14),(29,.bool ((decide ((kindOf (yd.toNat:Int))=0))||(!decide ((kindOf (yd.toNat:Int))=(kindOf (yd.toNat:Int))))))] (fun gH=>?_) (fun hj=>?_)
   rotate_left
   refine js 25 (decide ((kindOf (yd.toNat:Int))=0)) (fun h4=>?_) (fun h4=>?_)
   ·
    have uR:=h4
    replace uR:=of_decide_eq_true uR
    refine zD 4<|jw 29 (.bool ((decide ((kindOf (yd.toNat:Int))=0))||(!decide ((kindOf (yd.toNat:Int))=(kindOf (yd.toNat:Int)))))) (w:= .bool true) (by rw[h4]<;>rfl) ?_
    exact zK hj
   ·
    have uR:=h4
    replace uR:=of_decide_eq_false uR
    refine zD 4<|jw 29 (.bool ((decide ((kindOf (yd.toNat:Int))=0))||(!decide ((kindOf (yd.toNat:Int))=(kindOf (yd.toNat:Int)))))) (w:= .bool (!decide ((kindOf (yd.toNat:Int))=(kindOf (yd.toNat:Int))))) (by rw[h4]<;>rfl) ?_
    exact zK hj
   refine zD 1<|js 29 ((decide ((kindOf (yd.toNat:Int))=0))||(!decide ((kindOf (yd.toNat:Int))=(kindOf (yd.toNat:Int))))) (fun h5=>?_) (fun h5=>?_)
   ·
    try simp only[zB] at h5
    exfalso;omega
   try simp only[zB] at h5
   refine zD 2<|bE bF (⟨p+1,(kindOf (yd.toNat:Int))⟩) ⟨by have:=(List.getElem?_eq_some_iff.1 RE).1;dsimp only;omega,by dsimp only;omega⟩ (by have:=(List.getElem?_eq_some_iff.1 RE).1;dsimp only;omega) [0] (Sub.refl _)
  refine zD 7<|jj 4 [(3,zI sc),(14,zP r14),(29,.bool ((decide ((kindOf (yd.toNat:Int))=0))||(!decide ((kindOf (yd.toNat:Int))=sc))))] (fun gH=>?_) (fun hj=>?_)
  rotate_left
  refine js 25 (decide ((kindOf (yd.toNat:Int))=0)) (fun h6=>?_) (fun h6=>?_)
  ·
   have h6g:=h6
   replace h6g:=of_decide_eq_true h6g
   refine zD 4<|jw 29 (.bool ((decide ((kindOf (yd.toNat:Int))=0))||(!decide ((kindOf (yd.toNat:Int))=sc)))) (w:= .bool true) (by rw[h6]<;>rfl) ?_
   exact zK hj
  ·
   have h6g:=h6
   replace h6g:=of_decide_eq_false h6g
   refine zD 4<|jw 29 (.bool ((decide ((kindOf (yd.toNat:Int))=0))||(!decide ((kindOf (yd.toNat:Int))=sc)))) (w:= .bool (!decide ((kindOf (yd.toNat:Int))=sc))) (by rw[h6]<;>rfl) ?_
   exact zK hj
  refine zD 1<|js 29 ((decide ((kindOf (yd.toNat:Int))=0))||(!decide ((kindOf (yd.toNat:Int))=sc))) (fun h7=>?_) (fun h7=>?_)
  ·
   try simp only[zB] at h7
   exfalso;omega
  try simp only[zB] at h7
  refine zD 2<|bE bF (⟨p+1,sc⟩) ⟨by have:=(List.getElem?_eq_some_iff.1 RE).1;dsimp only;omega,by dsimp only;omega⟩ (by have:=(List.getElem?_eq_some_iff.1 RE).1;dsimp only;omega) [0] (Sub.refl _)
 |none=>
  refine jnZ r14 0 RE<|zD 10<|zX (zI 0) ⟨rfl,rfl⟩
def mz:=(ni Tryz.typeInfo3 Tryz.underlying3 rfl rfl rfl rfl rfl rfl:TF zT 3 _ 1 8 _ false)
theorem ajI(a b c d:Int)(dep:Nat):EqD zT (dep+2) 79 (.agg ⟨[zI a,zI b]⟩) (.agg ⟨[zI c,zI d]⟩) (a==c&&(b==d&&true)):=
 uw (ni Tryz.typeInfo79 Tryz.underlying79 rfl rfl rfl rfl rfl rfl) Tryz.stoodInHeld79 (.cons (by decide) (j5 mz rfl) (j5 mz rfl) (od mz _ _) (.cons (by decide) (j5 mz rfl) (j5 mz rfl) (od mz _ _) .nil))
theorem wQ(a b c d:Int):EqV zT 79 (.agg ⟨[zI a,zI b]⟩) (.agg ⟨[zI c,zI d]⟩) (a==c&&(b==d&&true)):=Oc (ajI a b c d _)
theorem ayC(a b c d e f:Int):EqV zT 158 (.agg ⟨[zI a,zI b,zI c]⟩) (.agg ⟨[zI d,zI e,zI f]⟩) (a==d&&(b==e&&(c==f&&true)&&true)):=
 Oc (uw (ni Tryz.typeInfo158 Tryz.underlying158 rfl rfl rfl rfl rfl rfl) Tryz.stoodInHeld158 (.cons (by decide) (j5 mz rfl) (j5 mz rfl) (od mz _ _) (.cons (by decide) (GC (ni Tryz.typeInfo79 Tryz.underlying79 rfl rfl rfl rfl rfl rfl) rfl) (GC (ni Tryz.typeInfo79 Tryz.underlying79 rfl rfl rfl rfl rfl rfl) rfl) (ajI _ _ _ _ _) .nil)))
theorem GL:og zT 79:=Tryz.eqGuardType79
theorem aDA:og zT 158:=Tryz.eqGuardType158
def Cg(n l:Int)(y:ah):Bool:=n==y.n&&(l==y.l&&true)
theorem UT{w:ByteArray}(hs:1≤w.size∧w.size≤6)(h:Script w):dr zT 166 [.string w] ro (zI 0):=by
 obtain⟨k,h1,h2⟩:=P7 h
 exact ana hs h1 h2
theorem AZ:dr zT 74 [zI 0] ro (.tuple ⟨[]⟩):=by
 refine zE<|zD 7<|zX (.tuple ⟨[]⟩) ⟨rfl,rfl⟩
theorem YB:dr zT 73 [.agg ⟨[.string x.name,zI x.st,zI x.no,zI x.head,.bool x.bold]⟩] ro (.agg ⟨[zI x.st,zI x.no,zI 0]⟩):=by
 refine zE<|zD 2<|jn fun b1=>jn fun b2=>jd 12 [1,1,0]<|zR (.agg ⟨[zI x.st,zI x.no,zI 0]⟩) [0] [] [] ⟨rfl,rfl⟩
theorem agJ{v:Value}{ps:List ah}{l:Int}(hp:bC ro v 2 cJ ps)(hn:ps.length≤1000):dr zT 208 [v,.agg ⟨[zI n,zI l]⟩] ro (zI (bR (Cg n l) ps 0)):=by
 obtain⟨To,qpb,qpo,Kk,rfl,qpk,qph,qpl⟩:=hp
 refine zE<|zD 2<|jn fun b3=>zD 10<|dB [1,0,1,0,0] [] (fun(zz:Nat)=>[(0,.slice To ps.length Kk),(3,zP b3),(7,zI (ps.length:Int)),(8,zI (zz:Int))]) (fun zz=>[.b b3 (.cells ⟨[zI n,zI l]⟩ 79 (0,0))]) (fun zz=>zz≤ps.length∧bR (Cg n l) ps 0=bR (Cg n l) (ps.drop zz) zz) (fun zz=>ps.length-zz) 0 ⟨by omega,rfl⟩ [0] ?_
 rintro k hI K1 bF rest
 refine zD 5<|zJ 9 ((k:Int) <(ps.length:Int)) (fun h1=>?_) fun h1=>?_
 ·
  refine jd 14 [0] ?_
  obtain⟨fG,eE⟩:=zG ps k
  refine gY Kk 2 qph eE<|jl 0 (qpl _ _ eE)<|jeq GL (wQ n l fG.n fG.l)<|zD 1<|js 16 (n==fG.n&&(l==fG.l&&true)) (fun h2=>?_) (fun h2=>?_)
  ·
   refine zD 7<|zX (zI (k:Int)) ⟨by rw[hI.2,jJ eE,show Cg n l fG=true from (by assumption)];rfl,rfl⟩
  refine zD 3<|ja ((k:Int)+1) (by omega)<|zD 2<|bE bF (k+1) ⟨by omega,by rw[hI.2,jJ eE,show Cg n l fG=false from (by assumption)];rfl⟩ (by omega) [0] (Sub.refl _)
 refine zD 7<|zX (zI (-1)) ⟨by rw[hI.2,qy (by omega)],rfl⟩
theorem KV{v:Value}{ps:List ah}{l:Int}(hp:bC ro v 2 cJ ps)(hn:ps.length≤1000):dr zT 167 [v,.agg ⟨[zI n,zI l]⟩] ro (.bool (decide (bR (Cg n l) ps 0≥0))):=by
 obtain⟨To,qpb,qpo,Kk,rfl,qpk,qph,qpl⟩:=hp
 refine zE<|zD 2<|jn fun b3=>jd 6 [0]<|jp (vs:=[.slice To ps.length Kk,.agg ⟨[zI n,zI l]⟩]) [] [] (fun aG hs hZ=>agJ ((show bC _ _ _ _ _ from ⟨To,qpb,qpo,Kk,rfl,qpk,qph,qpl⟩).up hs) (by first|omega| (simp only[List.length_set,zM];omega))) ?_
 refine zD 4<|zX (.bool (decide ((bR (Cg n l) ps 0)≥0))) ⟨rfl,rfl⟩
theorem Zb{i:Int}(h:nX hd i): -1≤i∧i <hd.length:=by
 rcases h with h| ⟨h0,x,h1,_⟩
 ·omega
 have:=(List.getElem?_eq_some_iff.1 h1).1
 omega
theorem R3{hv:List bA}{i:Int}{x:bA}(h:di dq hv hd)(hi:nX hd i)(h0:i≥0)(hx:hv[i.toNat]?=some x):0≤x.cls:=by
 rcases hi with hi| ⟨_,y,h1,h2⟩
 ·omega
 obtain⟨z,h3,h4⟩:=h.get hx
 rw[h1] at h3;cases h3
 rw[h4.2.1];exact h2
theorem Kr{S:List (List ah)}{l:List ah}(h:apG S hd x)(hl:S[x.st.toNat]?=some l):bR (Cg x.no 0) l 0≥0:=by
 obtain⟨l',h1,h2⟩:=h.2
 rw[h1] at hl;cases hl
 have key:∀(l:List ah) (k:Nat),(⟨x.no,0⟩:ah)∈l→bR (Cg x.no 0) l k≥0:=by
  intro l
  induction l with
  |nil=>intro k h;cases h
  |cons y l ih=>
   intro k h
   simp only[bR]
   cases hx:Cg x.no 0 y with
   |true=>simp
   |false=>
    simp only[cond_false]
    rcases List.mem_cons.1 h with rfl|h
    ·simp[Cg] at hx
    exact ih _ h
 exact key _ 0 h2
theorem agB(hK:fF ro l K)(hO:jz K)(hx:apG K.str K.hd x):dr zT 123 [.agg ⟨l⟩,.agg ⟨[.string x.name,zI x.st,zI x.no,zI x.head,.bool x.bold]⟩,.bool true] ro (zI 0):=by
 obtain⟨vS,vT,vc,vh,vr,vb,va,vf,fa,fc,hv,rfl,hS,hT,qo,nJ,hr,hb,ha,hf⟩:=hK
 obtain⟨ib,hs,e9⟩:=id hS
 obtain⟨iN,ht,eT⟩:=id hT
 obtain⟨hc,hh,DT⟩:=id qo
 obtain⟨lu,Qi,Qg,kB,rfl,Qh,Jl,Jk⟩:=hs
 obtain⟨eP,AG,AE,dQ,rfl,AF,sr,sq⟩:=ht
 obtain⟨eg,AJ,AI,dV,rfl,DC,yU,yT⟩:=hc
 obtain⟨dI,u4,u3,du,rfl,xw,qR,qQ⟩:=hh
 obtain⟨kU,IP,IN,kT,rfl,OX,Gq,Gp⟩:=hr
 obtain⟨mw,O0,OY,mo,rfl,OZ,MS,MQ⟩:=hb
 obtain⟨lP,Ko,Kl,lG,rfl,Km,Jn,Jm⟩:=ha
 obtain⟨gX,v9,vZ,fT,rfl,AH,qL,qK⟩:=hf
 have CX:=hO.rules
 have qO:=hO.before.1
 have O8:=hO.after.1
 have O7:=hO.facts.1
 have O6:=hO.ways.1
 have IZ:=e9.len
 have EB:=eT.len
 have Y0:=hO.oS.two
 have hl9:=hO.c8.nh
 have OW:∀(i:Nat) (p:da),([]:List da)[i]?=some p→cA ⟨ro,[]⟩ 0 (0+i*6) 6 (mP p):=fun _ _ h=>oE h
 have hNm:=hx.1.1
 have hNs:=hNm.1
 have hHd:=hx.1.2.1
 have hHl:=Zb hHd
 have hSt:=hx.1.2.2.1
 have hBd:=hx.1.2.2.2
 have hlen:=nJ.len
 refine zE<|zD 2<|jn fun b3=>jn fun b4=>jd 7 [0]<|jp (vs:=[.string x.name]) [] [] (fun aG hs hZ=>(UT (by omega) hNm.2))<|jd 27 [1,0,1]<|ja ((hv.length:Int)-1) (by omega)<|jp (vs:=[zI x.head,zI (-1),zI ((hv.length:Int)-1)]) [] [] (fun aG hs hZ=>eZ)<|zD 3<|js 19 (!(iI x.head (-1) ((hv.length:Int)-1))) (fun h1=>?_) (fun h1=>?_)
 ·
  try simp only[zB] at h1
  exfalso;simp only[iI,Bool.and_eq_false_iff,decide_eq_false_iff_not] at h1;omega
 try simp only[zB] at h1
 refine jd 7 [0]<|js 33 (decide (x.head≥0)) (fun h2=>?_) (fun h2=>?_)
 ·
  have k7:=h2
  replace k7:=of_decide_eq_true k7
  refine jd 5 [1,0] ?_
  obtain⟨BK,oF⟩:=zG hv (x.head.toNat)
  refine IU x.head du 4 qR oF (by omega)<|zD 1<|jl 1 (qQ _ _ oF)<|zD 4<|zJ 29 (BK.cls=(-1)) (fun h3=>?_) fun h3=>?_
  ·
   exfalso;have:=R3 nJ hHd (by omega) oF;omega
  refine jd 8 [0]<|ja ((ib.length:Int)-1) (by omega)<|jp (vs:=[zI x.st,zI 0,zI ((ib.length:Int)-1)]) [] [] (fun aG hs hZ=>eZ)<|zD 3<|js 44 (!(iI x.st 0 ((ib.length:Int)-1))) (fun h4=>?_) (fun h4=>?_)
  ·
   try simp only[zB] at h4
   exfalso;simp only[iI,Bool.and_eq_false_iff,decide_eq_false_iff_not] at h4;omega
  try simp only[zB] at h4
  refine jd 7 [0] ?_
  obtain⟨x57,qS⟩:=zG ib (x.st.toNat)
  refine IU x.st kB 1 Jl qS (by omega) ?_
  obtain⟨l58,RM,h58⟩:=e9.get qS
  obtain aQi:=hO.oS.len _ (zL RM)
  obtain⟨Qk,ae1,aeX,Qj,rfl,aeZ,ae0,aeY⟩:=h58
  refine jl 0 (Jk _ _ qS)<|jd 1 [0]<|jp (vs:=[.agg ⟨[.string x.name,zI x.st,zI x.no,zI x.head,.bool x.bold]⟩]) [] [] (fun aG hs hZ=>(YB (x:=(⟨x.name,x.st,x.no,x.head,x.bold⟩:aA))))<|zD 1<|jp (vs:=[.slice Qk l58.length Qj,.agg ⟨[zI x.no,zI 0]⟩]) [] [] (fun aG hs hZ=>KV ((show bC _ _ _ _ _ from ⟨Qk,ae1,aeX,Qj,rfl,aeZ,ae0,aeY⟩).up hs) (by first|omega| (simp only[List.length_set,zM];omega))) ?_
  refine zD 4<|js 44 (!(decide (bR (Cg x.no 0) l58 0≥0))) (fun h5=>?_) (fun h5=>?_)
  ·
   try simp only[zB] at h5
   exfalso;have:=Kr hx RM;omega
  try simp only[zB] at h5
  refine jd 20 [0]<|js 74 x.bold (fun h6=>?_) (fun h6=>?_)
  ·
   exfalso;rw[hBd] at h6;cases h6
  refine zD 7<|zX (zI 0) ⟨rfl,rfl⟩
 have k7:=h2
 replace k7:=of_decide_eq_false k7
 refine jd 20 [0]<|ja ((ib.length:Int)-1) (by omega)<|jp (vs:=[zI x.st,zI 0,zI ((ib.length:Int)-1)]) [] [] (fun aG hs hZ=>eZ)<|zD 3<|js 44 (!(iI x.st 0 ((ib.length:Int)-1))) (fun h7=>?_) (fun h7=>?_)
 ·
  try simp only[zB] at h7
  exfalso;simp only[iI,Bool.and_eq_false_iff,decide_eq_false_iff_not] at h7;omega
 try simp only[zB] at h7
 refine jd 7 [0] ?_
 obtain⟨x57,qS⟩:=zG ib (x.st.toNat)
 refine IU x.st kB 1 Jl qS (by omega) ?_
 obtain⟨l58,RM,h58⟩:=e9.get qS
 obtain aQi:=hO.oS.len _ (zL RM)
 obtain⟨Qk,ae1,aeX,Qj,rfl,aeZ,ae0,aeY⟩:=h58
 refine jl 0 (Jk _ _ qS)<|jd 1 [0]<|jp (vs:=[.agg ⟨[.string x.name,zI x.st,zI x.no,zI x.head,.bool x.bold]⟩]) [] [] (fun aG hs hZ=>(YB (x:=(⟨x.name,x.st,x.no,x.head,x.bold⟩:aA))))<|zD 1<|jp (vs:=[.slice Qk l58.length Qj,.agg ⟨[zI x.no,zI 0]⟩]) [] [] (fun aG hs hZ=>KV ((show bC _ _ _ _ _ from ⟨Qk,ae1,aeX,Qj,rfl,aeZ,ae0,aeY⟩).up hs) (by first|omega| (simp only[List.length_set,zM];omega))) ?_
 refine zD 4<|js 44 (!(decide (bR (Cg x.no 0) l58 0≥0))) (fun h8=>?_) (fun h8=>?_)
 ·
  try simp only[zB] at h8
  exfalso;have:=Kr hx RM;omega
 try simp only[zB] at h8
 refine jd 20 [0]<|js 74 x.bold (fun h9=>?_) (fun h9=>?_)
 ·
  exfalso;rw[hBd] at h9;cases h9
 refine zD 7<|zX (zI 0) ⟨rfl,rfl⟩
theorem agC(hK:fF ro l K)(hO:jz K)(hx:aIK K.hd x):dr zT 123 [.agg ⟨l⟩,.agg ⟨[.string x.name,zI x.st,zI x.no,zI x.head,.bool x.bold]⟩,.bool false] ro (zI 0):=by
 obtain⟨vS,vT,vc,vh,vr,vb,va,vf,fa,fc,hv,rfl,hS,hT,qo,nJ,hr,hb,ha,hf⟩:=hK
 obtain⟨ib,hs,e9⟩:=id hS
 obtain⟨iN,ht,eT⟩:=id hT
 obtain⟨hc,hh,DT⟩:=id qo
 obtain⟨lu,Qi,Qg,kB,rfl,Qh,Jl,Jk⟩:=hs
 obtain⟨eP,AG,AE,dQ,rfl,AF,sr,sq⟩:=ht
 obtain⟨eg,AJ,AI,dV,rfl,DC,yU,yT⟩:=hc
 obtain⟨dI,u4,u3,du,rfl,xw,qR,qQ⟩:=hh
 obtain⟨kU,IP,IN,kT,rfl,OX,Gq,Gp⟩:=hr
 obtain⟨mw,O0,OY,mo,rfl,OZ,MS,MQ⟩:=hb
 obtain⟨lP,Ko,Kl,lG,rfl,Km,Jn,Jm⟩:=ha
 obtain⟨gX,v9,vZ,fT,rfl,AH,qL,qK⟩:=hf
 have CX:=hO.rules
 have qO:=hO.before.1
 have O8:=hO.after.1
 have O7:=hO.facts.1
 have O6:=hO.ways.1
 have IZ:=e9.len
 have EB:=eT.len
 have Y0:=hO.oS.two
 have hl9:=hO.c8.nh
 have OW:∀(i:Nat) (p:da),([]:List da)[i]?=some p→cA ⟨ro,[]⟩ 0 (0+i*6) 6 (mP p):=fun _ _ h=>oE h
 have hNm:=hx.1.1
 have hNs:=hNm.1
 have hHd:=hx.1.2.1
 have hHl:=Zb hHd
 have hSt:=hx.1.2.2.1
 have hBd:=hx.1.2.2.2
 have hlen:=nJ.len
 have hNo:=hx.2
 refine zE<|zD 2<|jn fun b3=>jn fun b4=>jd 7 [0]<|jp (vs:=[.string x.name]) [] [] (fun aG hs hZ=>(UT (by omega) hNm.2))<|jd 27 [1,0,1]<|ja ((hv.length:Int)-1) (by omega)<|jp (vs:=[zI x.head,zI (-1),zI ((hv.length:Int)-1)]) [] [] (fun aG hs hZ=>eZ)<|zD 3<|js 19 (!(iI x.head (-1) ((hv.length:Int)-1))) (fun h1=>?_) (fun h1=>?_)
 ·
  try simp only[zB] at h1
  exfalso;simp only[iI,Bool.and_eq_false_iff,decide_eq_false_iff_not] at h1;omega
 try simp only[zB] at h1
 refine jd 7 [0]<|js 33 (decide (x.head≥0)) (fun h2=>?_) (fun h2=>?_)
 ·
  have k7:=h2
  replace k7:=of_decide_eq_true k7
  refine jd 5 [1,0] ?_
  obtain⟨BK,oF⟩:=zG hv (x.head.toNat)
  refine IU x.head du 4 qR oF (by omega)<|zD 1<|jl 1 (qQ _ _ oF)<|zD 4<|zJ 29 (BK.cls=(-1)) (fun h3=>?_) fun h3=>?_
  ·
   exfalso;have:=R3 nJ hHd (by omega) oF;omega
  refine jd 8 [0]<|ja ((ib.length:Int)-1) (by omega)<|jp (vs:=[zI x.st,zI 0,zI ((ib.length:Int)-1)]) [] [] (fun aG hs hZ=>eZ)<|zD 3<|js 44 (!(iI x.st 0 ((ib.length:Int)-1))) (fun h4=>?_) (fun h4=>?_)
  ·
   try simp only[zB] at h4
   exfalso;simp only[iI,Bool.and_eq_false_iff,decide_eq_false_iff_not] at h4;omega
  try simp only[zB] at h4
  refine jd 25 [0]<|jp (vs:=[zI x.no,zI 1,zI 40]) [] [] (fun aG hs hZ=>eZ)<|zD 4<|js 65 (!(iI x.no 1 40)) (fun h5=>?_) (fun h5=>?_)
  ·
   try simp only[zB] at h5
   exfalso;simp only[iI,Bool.and_eq_false_iff,decide_eq_false_iff_not] at h5;omega
  try simp only[zB] at h5
  refine jd 7 [0]<|js 74 x.bold (fun h6=>?_) (fun h6=>?_)
  ·
   exfalso;rw[hBd] at h6;cases h6
  refine zD 7<|zX (zI 0) ⟨rfl,rfl⟩
 have k7:=h2
 replace k7:=of_decide_eq_false k7
 refine jd 20 [0]<|ja ((ib.length:Int)-1) (by omega)<|jp (vs:=[zI x.st,zI 0,zI ((ib.length:Int)-1)]) [] [] (fun aG hs hZ=>eZ)<|zD 3<|js 44 (!(iI x.st 0 ((ib.length:Int)-1))) (fun h7=>?_) (fun h7=>?_)
 ·
  try simp only[zB] at h7
  exfalso;simp only[iI,Bool.and_eq_false_iff,decide_eq_false_iff_not] at h7;omega
 try simp only[zB] at h7
 refine jd 25 [0]<|jp (vs:=[zI x.no,zI 1,zI 40]) [] [] (fun aG hs hZ=>eZ)<|zD 4<|js 65 (!(iI x.no 1 40)) (fun h8=>?_) (fun h8=>?_)
 ·
  try simp only[zB] at h8
  exfalso;simp only[iI,Bool.and_eq_false_iff,decide_eq_false_iff_not] at h8;omega
 try simp only[zB] at h8
 refine jd 7 [0]<|js 74 x.bold (fun h9=>?_) (fun h9=>?_)
 ·
  exfalso;rw[hBd] at h9;cases h9
 refine zD 7<|zX (zI 0) ⟨rfl,rfl⟩
theorem fF.up{aD:Nat→Option Obj}(h:fF ro l K)(hs:Sub ro aD):fF aD l K:=by
 obtain⟨vS,vT,vc,vh,vr,vb,va,vf,fa,fc,hv,rfl,h1,h2,h3,h4,h5,h6,h7,h8⟩:=h
 exact⟨_,_,_,_,_,_,_,_,_,_,_,rfl,h1.up hs,h2.up hs,h3.up hs,h4,h5.up hs,h6.up hs,h7.up hs,h8.up hs⟩
theorem agD(hK:fF ro l K)(hO:jz K)(hp:bC ro vp 5 eA K.before):dr zT 98 [.agg ⟨l⟩,vp,.bool true] ro (zI 0):=by
 have Zi:=hK
 obtain⟨vS,vT,vc,vh,vr,vb,va,vf,fa,fc,hv,rfl,hS,hT,qo,nJ,hr,hb,ha,hf⟩:=hK
 obtain⟨ib,hs,e9⟩:=id hS
 obtain⟨iN,ht,eT⟩:=id hT
 obtain⟨hc,hh,DT⟩:=id qo
 obtain⟨lu,Qi,Qg,kB,rfl,Qh,Jl,Jk⟩:=hs
 obtain⟨eP,AG,AE,dQ,rfl,AF,sr,sq⟩:=ht
 obtain⟨eg,AJ,AI,dV,rfl,DC,yU,yT⟩:=hc
 obtain⟨dI,u4,u3,du,rfl,xw,qR,qQ⟩:=hh
 obtain⟨kU,IP,IN,kT,rfl,OX,Gq,Gp⟩:=hr
 obtain⟨mw,O0,OY,mo,rfl,OZ,MS,MQ⟩:=hb
 obtain⟨lP,Ko,Kl,lG,rfl,Km,Jn,Jm⟩:=ha
 obtain⟨gX,v9,vZ,fT,rfl,AH,qL,qK⟩:=hf
 have CX:=hO.rules
 have qO:=hO.before.1
 have O8:=hO.after.1
 have O7:=hO.facts.1
 have O6:=hO.ways.1
 have IZ:=e9.len
 have EB:=eT.len
 have Y0:=hO.oS.two
 have hl9:=hO.c8.nh
 have OW:∀(i:Nat) (p:da),([]:List da)[i]?=some p→cA ⟨ro,[]⟩ 0 (0+i*6) 6 (mP p):=fun _ _ h=>oE h
 obtain⟨To,qpb,qpo,Kk,rfl,qpk,qph,qpl⟩:=hp
 refine zE<|zD 2<|jn fun b3=>zD 9<|zJ 12 ((K.before.length:Int)>4) (fun h1=>?_) fun h1=>?_
 ·
  exfalso;omega
 refine zD 10<|dB [1,1,0,1,0,0] [] (fun(zz:Nat)=>[(2,.bool true),(3,zP b3),(13,.slice To K.before.length Kk),(14,zI (K.before.length:Int)),(15,zI (zz:Int))]) (fun zz=>[.b b3 (.cells ⟨[.slice lu ib.length kB,.slice eP iN.length dQ,.slice fa 0 fc,.slice eg K.cs.length dV,.slice dI hv.length du,.slice kU K.rules.length kT,.slice mw K.before.length mo,.slice lP K.after.length lG,zI K.gone,zI K.new,zI K.af,.slice gX K.facts.length fT]⟩ 40 (0,0))]) (fun zz=>zz≤K.before.length) (fun zz=>K.before.length-zz) 0 (by omega) [0] ?_
 rintro k hI K1 bF rest
 refine zD 5<|zJ 16 ((k:Int) <(K.before.length:Int)) (fun h2=>?_) fun h2=>?_
 ·
  refine zD 6 ?_
  obtain⟨Xe,G9⟩:=zG K.before k
  refine gY Kk 5 qph G9<|jl 0 (qpl _ _ G9)<|jn fun b8=>jd 7 [0,1,0]<|jp (vs:=[.agg ⟨[.slice lu ib.length kB,.slice eP iN.length dQ,.slice fa 0 fc,.slice eg K.cs.length dV,.slice dI hv.length du,.slice kU K.rules.length kT,.slice mw K.before.length mo,.slice lP K.after.length lG,zI K.gone,zI K.new,zI K.af,.slice gX K.facts.length fT]⟩,.agg ⟨[.string Xe.name,zI Xe.st,zI Xe.no,zI Xe.head,.bool Xe.bold]⟩,.bool true]) [] [] (fun aG hs hZ=>(agB (x:=Xe) (Zi.up hs) hO (hO.before.2 _ (zL G9))))<|zD 10<|ja ((k:Int)+1) (by omega)<|zD 2<|bE bF (k+1) (by omega) (by omega) [1] (Sub.refl _)
 refine zD 7<|zX (zI 0) ⟨rfl,rfl⟩
theorem agE(hK:fF ro l K)(hO:jz K)(hp:bC ro vp 5 eA K.after):dr zT 98 [.agg ⟨l⟩,vp,.bool false] ro (zI 0):=by
 have Zi:=hK
 obtain⟨vS,vT,vc,vh,vr,vb,va,vf,fa,fc,hv,rfl,hS,hT,qo,nJ,hr,hb,ha,hf⟩:=hK
 obtain⟨ib,hs,e9⟩:=id hS
 obtain⟨iN,ht,eT⟩:=id hT
 obtain⟨hc,hh,DT⟩:=id qo
 obtain⟨lu,Qi,Qg,kB,rfl,Qh,Jl,Jk⟩:=hs
 obtain⟨eP,AG,AE,dQ,rfl,AF,sr,sq⟩:=ht
 obtain⟨eg,AJ,AI,dV,rfl,DC,yU,yT⟩:=hc
 obtain⟨dI,u4,u3,du,rfl,xw,qR,qQ⟩:=hh
 obtain⟨kU,IP,IN,kT,rfl,OX,Gq,Gp⟩:=hr
 obtain⟨mw,O0,OY,mo,rfl,OZ,MS,MQ⟩:=hb
 obtain⟨lP,Ko,Kl,lG,rfl,Km,Jn,Jm⟩:=ha
 obtain⟨gX,v9,vZ,fT,rfl,AH,qL,qK⟩:=hf
 have CX:=hO.rules
 have qO:=hO.before.1
 have O8:=hO.after.1
 have O7:=hO.facts.1
 have O6:=hO.ways.1
 have IZ:=e9.len
 have EB:=eT.len
 have Y0:=hO.oS.two
 have hl9:=hO.c8.nh
 have OW:∀(i:Nat) (p:da),([]:List da)[i]?=some p→cA ⟨ro,[]⟩ 0 (0+i*6) 6 (mP p):=fun _ _ h=>oE h
 obtain⟨To,qpb,qpo,Kk,rfl,qpk,qph,qpl⟩:=hp
 refine zE<|zD 2<|jn fun b3=>zD 9<|zJ 12 ((K.after.length:Int)>4) (fun h1=>?_) fun h1=>?_
 ·
  exfalso;omega
 refine zD 10<|dB [1,1,0,1,0,0] [] (fun(zz:Nat)=>[(2,.bool false),(3,zP b3),(13,.slice To K.after.length Kk),(14,zI (K.after.length:Int)),(15,zI (zz:Int))]) (fun zz=>[.b b3 (.cells ⟨[.slice lu ib.length kB,.slice eP iN.length dQ,.slice fa 0 fc,.slice eg K.cs.length dV,.slice dI hv.length du,.slice kU K.rules.length kT,.slice mw K.before.length mo,.slice lP K.after.length lG,zI K.gone,zI K.new,zI K.af,.slice gX K.facts.length fT]⟩ 40 (0,0))]) (fun zz=>zz≤K.after.length) (fun zz=>K.after.length-zz) 0 (by omega) [0] ?_
 rintro k hI K1 bF rest
 refine zD 5<|zJ 16 ((k:Int) <(K.after.length:Int)) (fun h2=>?_) fun h2=>?_
 ·
  refine zD 6 ?_
  obtain⟨Xe,G9⟩:=zG K.after k
  refine gY Kk 5 qph G9<|jl 0 (qpl _ _ G9)<|jn fun b8=>jd 7 [0,1,0]<|jp (vs:=[.agg ⟨[.slice lu ib.length kB,.slice eP iN.length dQ,.slice fa 0 fc,.slice eg K.cs.length dV,.slice dI hv.length du,.slice kU K.rules.length kT,.slice mw K.before.length mo,.slice lP K.after.length lG,zI K.gone,zI K.new,zI K.af,.slice gX K.facts.length fT]⟩,.agg ⟨[.string Xe.name,zI Xe.st,zI Xe.no,zI Xe.head,.bool Xe.bold]⟩,.bool false]) [] [] (fun aG hs hZ=>(agC (x:=Xe) (Zi.up hs) hO (hO.after.2 _ (zL G9))))<|zD 10<|ja ((k:Int)+1) (by omega)<|zD 2<|bE bF (k+1) (by omega) (by omega) [1] (Sub.refl _)
 refine zD 7<|zX (zI 0) ⟨rfl,rfl⟩
theorem avc{x y:bM}(hb:ro b=some (.cells ⟨[zI y.a,zI y.b,.bool y.same]⟩ 58 (0,0))):dr zT 125 [.agg ⟨[zI x.a,zI x.b,.bool x.same]⟩,zP b] ro (.bool (decide (x.a=y.a)&&decide (x.b=y.b))):=by
 refine zE<|zD 2<|jn fun b2=>jd 7 [0]<|jl (b:=b) (off:=0) (m:=3) (vs:=[zI y.a,zI y.b,.bool y.same]) 0 ⟨_,_,_,.inl hb,rfl⟩<|zD 2<|jj 6 [(3,.bool false),(15,.bool ((decide (x.a=y.a))&&(decide (x.b=y.b))))] (fun gH=>?_) (fun hj=>?_)
 rotate_left
 refine js 9 (decide (x.a=y.a)) (fun h1=>?_) (fun h1=>?_)
 ·
  have fp:=h1
  replace fp:=of_decide_eq_true fp
  refine jd 3 [0]<|jl (b:=b) (off:=0) (m:=3) (vs:=[zI y.a,zI y.b,.bool y.same]) 1 ⟨_,_,_,.inl hb,rfl⟩<|zD 2<|jw 15 (.bool ((decide (x.a=y.a))&&(decide (x.b=y.b)))) (w:= .bool (decide (x.b=y.b))) (by rw[h1]<;>rfl) ?_
  exact zK hj
 ·
  have fp:=h1
  replace fp:=of_decide_eq_false fp
  refine zD 6<|jw 15 (.bool ((decide (x.a=y.a))&&(decide (x.b=y.b)))) (w:= .bool false) (by rw[h1]<;>rfl) ?_
  exact zK hj
 refine zD 3<|zX (.bool ((decide (x.a=y.a))&&(decide (x.b=y.b)))) ⟨rfl,rfl⟩
def Ei(x y:bM):Bool:=decide (y.a=x.a)&&decide (y.b=x.b)
theorem C8{p:α→Bool}:∀ {l:List α} {k:Nat},(∀y∈l,p y=false)→bR p l k= -1
 | [],_,_=>rfl
 |x::l,k,h=>by simp only[bR,h x (List.mem_cons_self ..),cond_false];exact C8 fun y hy=>h y (List.mem_cons_of_mem _ hy)
theorem ajw{x:bM}(h:fs.Pairwise fun x y=>¬(x.a=y.a∧x.b=y.b))(hx:fs[i]?=some x):bR (Ei x) (fs.take i) 0 <0:=by
 rw[C8]
 ·omega
 intro y hy
 obtain⟨j,hj⟩:=List.getElem?_of_mem hy
 rw[List.getElem?_take] at hj
 split at hj
 ·rename_i Aj
  have:=qd h Aj hj hx
  simp only[Ei,Bool.and_eq_false_iff,decide_eq_false_iff_not]
  by_cases h1:y.a=x.a
  ·exact .inr fun h2=>this ⟨h1,h2⟩
  exact .inl h1
 cases hj
theorem avt{v:Value}{x:bM}(hf:bC ro v 3 m8 fs)(hn:fs.length≤1000)(hb:ro b=some (.cells ⟨[zI x.a,zI x.b,.bool x.same]⟩ 58 (0,0))):dr zT 168 [v,.func (.func 125) ⟨[]⟩ ⟨[zP b]⟩] ro (zI (bR (Ei x) fs 0)):=by
 obtain⟨gX,v9,vZ,fT,rfl,AH,qL,qK⟩:=hf
 refine zE<|zD 12<|dB [1,0,1,0,0] [] (fun(zz:Nat)=>[(0,.slice gX fs.length fT),(1,.func (.func 125) ⟨[]⟩ ⟨[zP b]⟩),(7,zI (fs.length:Int)),(8,zI (zz:Int))]) (fun zz=>[]) (fun zz=>zz≤fs.length∧bR (Ei x) fs 0=bR (Ei x) (fs.drop zz) zz) (fun zz=>fs.length-zz) 0 ⟨by omega,rfl⟩ [] ?_
 rintro k hI K1 bF rest
 refine zD 5<|zJ 9 ((k:Int) <(fs.length:Int)) (fun h1=>?_) fun h1=>?_
 ·
  refine zD 14 ?_
  obtain⟨fG,eE⟩:=zG fs k
  refine gY fT 3 qL eE<|jl 0 (qK _ _ eE)<|jp (vs:=[.agg ⟨[zI fG.a,zI fG.b,.bool fG.same]⟩,zP b]) [] [] (fun aG hs hZ=>(avc (hs _ _ hb)))<|zD 1<|js 16 (Ei x fG) (fun h2=>?_) (fun h2=>?_)
  ·
   refine zD 7<|zX (zI (k:Int)) ⟨by rw[hI.2,jJ eE,show Ei x fG=true from (by assumption)];rfl,rfl⟩
  refine zD 3<|ja ((k:Int)+1) (by omega)<|zD 2<|bE bF (k+1) ⟨by omega,by rw[hI.2,jJ eE,show Ei x fG=false from (by assumption)];rfl⟩ (by omega) [] (Sub.refl _)
 refine zD 7<|zX (zI (-1)) ⟨by rw[hI.2,qy (by omega)],rfl⟩
theorem anK{v:Value}{x:bM}(hf:bC ro v 3 m8 fs)(hn:fs.length≤1000)(hb:ro b=some (.cells ⟨[zI x.a,zI x.b,.bool x.same]⟩ 58 (0,0))):dr zT 124 [v,.func (.func 125) ⟨[]⟩ ⟨[zP b]⟩] ro (.bool (decide (bR (Ei x) fs 0≥0))):=by
 obtain⟨gX,v9,vZ,fT,rfl,AH,qL,qK⟩:=hf
 refine zE<|zD 8<|jp (vs:=[.slice gX fs.length fT,.func (.func 125) ⟨[]⟩ ⟨[zP b]⟩]) [] [] (fun aG hs hZ=>avt ((show bC _ _ _ _ _ from ⟨gX,v9,vZ,fT,rfl,AH,qL,qK⟩).up hs) (by first|omega| (simp only[List.length_set,zM];omega)) (hs _ _ hb)) ?_
 refine zD 4<|zX (.bool (decide ((bR (Ei x) fs 0)≥0))) ⟨rfl,rfl⟩
theorem aD6{x:bM}(hK:fF ro l K)(hO:jz K)(hp:bC ro vp 3 m8 fs)(hn:fs.length≤1000)(hx:(0≤x.a∧x.a <K.before.length)∧(0≤x.b∧x.b <K.after.length))(hw:bR (Ei x) fs 0 <0):dr zT 99 [.agg ⟨l⟩,vp,.agg ⟨[zI x.a,zI x.b,.bool x.same]⟩] ro (zI 0):=by
 obtain⟨vS,vT,vc,vh,vr,vb,va,vf,fa,fc,hv,rfl,hS,hT,qo,nJ,hr,hb,ha,hf⟩:=hK
 obtain⟨ib,hs,e9⟩:=id hS
 obtain⟨iN,ht,eT⟩:=id hT
 obtain⟨hc,hh,DT⟩:=id qo
 obtain⟨lu,Qi,Qg,kB,rfl,Qh,Jl,Jk⟩:=hs
 obtain⟨eP,AG,AE,dQ,rfl,AF,sr,sq⟩:=ht
 obtain⟨eg,AJ,AI,dV,rfl,DC,yU,yT⟩:=hc
 obtain⟨dI,u4,u3,du,rfl,xw,qR,qQ⟩:=hh
 obtain⟨kU,IP,IN,kT,rfl,OX,Gq,Gp⟩:=hr
 obtain⟨mw,O0,OY,mo,rfl,OZ,MS,MQ⟩:=hb
 obtain⟨lP,Ko,Kl,lG,rfl,Km,Jn,Jm⟩:=ha
 obtain⟨gX,v9,vZ,fT,rfl,AH,qL,qK⟩:=hf
 have CX:=hO.rules
 have qO:=hO.before.1
 have O8:=hO.after.1
 have O7:=hO.facts.1
 have O6:=hO.ways.1
 have IZ:=e9.len
 have EB:=eT.len
 have Y0:=hO.oS.two
 have hl9:=hO.c8.nh
 have OW:∀(i:Nat) (p:da),([]:List da)[i]?=some p→cA ⟨ro,[]⟩ 0 (0+i*6) 6 (mP p):=fun _ _ h=>oE h
 obtain⟨To,qpb,qpo,Kk,rfl,qpk,qph,qpl⟩:=hp
 refine zE<|zD 2<|jn fun b3=>jn fun b5=>jd 12 [0,1]<|ja ((K.before.length:Int)-1) (by omega)<|jp (vs:=[zI x.a,zI 0,zI ((K.before.length:Int)-1)]) [] [] (fun aG hs hZ=>eZ)<|zD 3<|js 7 (!(iI x.a 0 ((K.before.length:Int)-1))) (fun h1=>?_) (fun h1=>?_)
 ·
  try simp only[zB] at h1
  exfalso;simp only[iI,Bool.and_eq_false_iff,decide_eq_false_iff_not] at h1;omega
 try simp only[zB] at h1
 refine jd 7 [0,1]<|ja ((K.after.length:Int)-1) (by omega)<|jp (vs:=[zI x.b,zI 0,zI ((K.after.length:Int)-1)]) [] [] (fun aG hs hZ=>eZ)<|zD 3<|js 7 (!(iI x.b 0 ((K.after.length:Int)-1))) (fun h2=>?_) (fun h2=>?_)
 ·
  try simp only[zB] at h2
  exfalso;simp only[iI,Bool.and_eq_false_iff,decide_eq_false_iff_not] at h2;omega
 try simp only[zB] at h2
 refine zD 5<|jp (vs:=[.slice To fs.length Kk,.func (.func 125) ⟨[]⟩ ⟨[zP b5]⟩]) [0] [(b5,.cells ⟨[zI x.a,zI x.b,.bool x.same]⟩ 58 (0,0))] (fun aG hs hZ=>anK ((show bC _ _ _ _ _ from ⟨To,qpb,qpo,Kk,rfl,qpk,qph,qpl⟩).up hs) (by first|omega| (simp only[List.length_set,zM];omega)) hZ.head) ?_
 refine zD 2<|js 24 (decide (bR (Ei x) fs 0≥0)) (fun h3=>?_) (fun h3=>?_)
 ·
  exfalso;have:=of_decide_eq_true h3;omega
 refine zD 7<|zX (zI 0) ⟨rfl,rfl⟩
theorem aBD{w:ByteArray}(hs:1≤w.size∧w.size≤12)(hc:cR w (bs [99,108,97,115,115])=false)(hf:cR w (bs [102,105,110,105,115])=false)(hK:∀b∈w.data.toList,97≤b.toNat∧b.toNat≤122):dr zT 197 [.string w] ro (.bool true):=by
 refine zE<|zD 11<|jj 4 [(0,.string w),(2,.bool false),(12,.bool ((decide ((w.size:Int)=0))||(decide ((w.size:Int)>12))))] (fun gH=>?_) (fun hj=>?_)
 rotate_left
 refine js 8 (decide ((w.size:Int)=0)) (fun h1=>?_) (fun h1=>?_)
 ·
  have fp:=h1
  replace fp:=of_decide_eq_true fp
  refine zD 4<|jw 12 (.bool ((decide ((w.size:Int)=0))||(decide ((w.size:Int)>12)))) (w:= .bool true) (by rw[h1]<;>rfl) ?_
  exact zK hj
 ·
  have fp:=h1
  replace fp:=of_decide_eq_false fp
  refine zD 4<|jw 12 (.bool ((decide ((w.size:Int)=0))||(decide ((w.size:Int)>12)))) (w:= .bool (decide ((w.size:Int)>12))) (by rw[h1]<;>rfl) ?_
  exact zK hj
 refine zD 1<|jj 3 [(0,.string w),(2,.bool false),(16,.bool (((decide ((w.size:Int)=0))||(decide ((w.size:Int)>12)))||(cR w (bs [99,108,97,115,115]))))] (fun gH=>?_) (fun hj=>?_)
 rotate_left
 refine js 13 ((decide ((w.size:Int)=0))||(decide ((w.size:Int)>12))) (fun h2=>?_) (fun h2=>?_)
 ·
  have k7:=h2
  try simp only[zB] at k7
  refine zD 3<|jw 16 (.bool (((decide ((w.size:Int)=0))||(decide ((w.size:Int)>12)))||(cR w (bs [99,108,97,115,115])))) (w:= .bool true) (by rw[h2]<;>rfl) ?_
  exact zK hj
 ·
  have k7:=h2
  try simp only[zB] at k7
  refine zD 3<|jw 16 (.bool (((decide ((w.size:Int)=0))||(decide ((w.size:Int)>12)))||(cR w (bs [99,108,97,115,115])))) (w:= .bool (cR w (bs [99,108,97,115,115]))) (by rw[h2]<;>rfl) ?_
  exact zK hj
 refine zD 1<|jj 3 [(0,.string w),(2,.bool false),(20,.bool ((((decide ((w.size:Int)=0))||(decide ((w.size:Int)>12)))||(cR w (bs [99,108,97,115,115])))||(cR w (bs [102,105,110,105,115]))))] (fun gH=>?_) (fun hj=>?_)
 rotate_left
 refine js 17 (((decide ((w.size:Int)=0))||(decide ((w.size:Int)>12)))||(cR w (bs [99,108,97,115,115]))) (fun h3=>?_) (fun h3=>?_)
 ·
  have wH:=h3
  try simp only[zB] at wH
  refine zD 3<|jw 20 (.bool ((((decide ((w.size:Int)=0))||(decide ((w.size:Int)>12)))||(cR w (bs [99,108,97,115,115])))||(cR w (bs [102,105,110,105,115])))) (w:= .bool true) (by rw[h3]<;>rfl) ?_
  exact zK hj
 ·
  have wH:=h3
  try simp only[zB] at wH
  refine zD 3<|jw 20 (.bool ((((decide ((w.size:Int)=0))||(decide ((w.size:Int)>12)))||(cR w (bs [99,108,97,115,115])))||(cR w (bs [102,105,110,105,115])))) (w:= .bool (cR w (bs [102,105,110,105,115]))) (by rw[h3]<;>rfl) ?_
  exact zK hj
 refine zD 1<|js 20 ((((decide ((w.size:Int)=0))||(decide ((w.size:Int)>12)))||(cR w (bs [99,108,97,115,115])))||(cR w (bs [102,105,110,105,115]))) (fun h4=>?_) (fun h4=>?_)
 ·
  try simp only[zB] at h4
  exfalso;simp only[hc,hf,Bool.or_false,Bool.or_eq_true,decide_eq_true_eq,Bool.false_eq_true,or_false] at h4;omega
 try simp only[zB] at h4
 refine zD 6<|jn fun r22=>zD 2<|dB [1,1,0,1,0,0] [] (fun(zz:Nat)=>[(22,zP r22)]) (fun zz=>[.b r22 (.stringIter w zz)]) (fun zz=>zz≤w.data.toList.length) (fun zz=>w.data.toList.length-zz) 0 (by omega) [0] ?_
 rintro p hI K1 bF rest
 refine zD 2 ?_
 cases abM:w.data.toList[p]? with
 |some vk=>
  refine jnA r22 0 abM (by have:=hK _ (zL abM);omega) ?_
  refine zD 7 ?_
  have Y1:=hK _ (zL abM)
  refine zD 9<|jj 3 [(22,zP r22),(31,.bool ((decide ((vk.toNat:Int) <97))||(decide ((vk.toNat:Int)>122))))] (fun gH=>?_) (fun hj=>?_)
  rotate_left
  refine js 28 (decide ((vk.toNat:Int) <97)) (fun h5=>?_) (fun h5=>?_)
  ·
   have NZ:=h5
   replace NZ:=of_decide_eq_true NZ
   refine zD 3<|jw 31 (.bool ((decide ((vk.toNat:Int) <97))||(decide ((vk.toNat:Int)>122)))) (w:= .bool true) (by rw[h5]<;>rfl) ?_
   exact zK hj
  ·
   have NZ:=h5
   replace NZ:=of_decide_eq_false NZ
   refine zD 3<|jw 31 (.bool ((decide ((vk.toNat:Int) <97))||(decide ((vk.toNat:Int)>122)))) (w:= .bool (decide ((vk.toNat:Int)>122))) (by rw[h5]<;>rfl) ?_
   exact zK hj
  refine zD 1<|js 31 ((decide ((vk.toNat:Int) <97))||(decide ((vk.toNat:Int)>122))) (fun h6=>?_) (fun h6=>?_)
  ·
   try simp only[zB] at h6
   exfalso;omega
  try simp only[zB] at h6
  refine zD 2<|bE bF (p+1) (by have:=(List.getElem?_eq_some_iff.1 abM).1;omega) (by have:=(List.getElem?_eq_some_iff.1 abM).1;omega) [0] (Sub.refl _)
 |none=>
  refine jnZ r22 0 abM<|zD 10<|zX (.bool true) ⟨rfl,rfl⟩
def EM(x y:bO):Bool:=cR y.name x.name
theorem atw{x y:bO}(hb:ro b=some (.cells ⟨[.string x.name,zI x.under]⟩ 142 (0,0))):dr zT 199 [.agg ⟨[.string y.name,zI y.under]⟩,zP b] ro (.bool (cR y.name x.name)):=by
 refine zE<|zD 2<|jn fun b2=>jd 7 [0]<|jl (b:=b) (off:=0) (m:=2) (vs:=[.string x.name,zI x.under]) 0 ⟨_,_,_,.inl hb,rfl⟩<|zD 4<|zX (.bool (cR y.name x.name)) ⟨rfl,rfl⟩
theorem atv{v:Value}{fs:List bO}{x:bO}(hf:bC ro v 2 pd fs)(hn:fs.length≤1000)(hb:ro b=some (.cells ⟨[.string x.name,zI x.under]⟩ 142 (0,0))):dr zT 222 [v,.func (.func 199) ⟨[]⟩ ⟨[zP b]⟩] ro (zI (bR (EM x) fs 0)):=by
 obtain⟨gX,v9,vZ,fT,rfl,AH,qL,qK⟩:=hf
 refine zE<|zD 12<|dB [1,0,1,0,0] [] (fun(zz:Nat)=>[(0,.slice gX fs.length fT),(1,.func (.func 199) ⟨[]⟩ ⟨[zP b]⟩),(7,zI (fs.length:Int)),(8,zI (zz:Int))]) (fun zz=>[]) (fun zz=>zz≤fs.length∧bR (EM x) fs 0=bR (EM x) (fs.drop zz) zz) (fun zz=>fs.length-zz) 0 ⟨by omega,rfl⟩ [] ?_
 rintro k hI K1 bF rest
 refine zD 5<|zJ 9 ((k:Int) <(fs.length:Int)) (fun h1=>?_) fun h1=>?_
 ·
  refine zD 14 ?_
  obtain⟨fG,eE⟩:=zG fs k
  refine gY fT 2 qL eE<|jl 0 (qK _ _ eE)<|jp (vs:=[.agg ⟨[.string fG.name,zI fG.under]⟩,zP b]) [] [] (fun aG hs hZ=>(atw (y:=fG) (hs _ _ hb)))<|zD 1<|js 16 (EM x fG) (fun h2=>?_) (fun h2=>?_)
  ·
   refine zD 7<|zX (zI (k:Int)) ⟨by rw[hI.2,jJ eE,show EM x fG=true from (by assumption)];rfl,rfl⟩
  refine zD 3<|ja ((k:Int)+1) (by omega)<|zD 2<|bE bF (k+1) ⟨by omega,by rw[hI.2,jJ eE,show EM x fG=false from (by assumption)];rfl⟩ (by omega) [] (Sub.refl _)
 refine zD 7<|zX (zI (-1)) ⟨by rw[hI.2,qy (by omega)],rfl⟩
theorem amf{v:Value}{fs:List bO}{x:bO}(hf:bC ro v 2 pd fs)(hn:fs.length≤1000)(hb:ro b=some (.cells ⟨[.string x.name,zI x.under]⟩ 142 (0,0))):dr zT 198 [v,.func (.func 199) ⟨[]⟩ ⟨[zP b]⟩] ro (.bool (decide (bR (EM x) fs 0≥0))):=by
 obtain⟨gX,v9,vZ,fT,rfl,AH,qL,qK⟩:=hf
 refine zE<|zD 8<|jp (vs:=[.slice gX fs.length fT,.func (.func 199) ⟨[]⟩ ⟨[zP b]⟩]) [] [] (fun aG hs hZ=>atv ((show bC _ _ _ _ _ from ⟨gX,v9,vZ,fT,rfl,AH,qL,qK⟩).up hs) (by first|omega| (simp only[List.length_set,zM];omega)) (hs _ _ hb)) ?_
 refine zD 4<|zX (.bool (decide ((bR (EM x) fs 0)≥0))) ⟨rfl,rfl⟩
def hdP(x y:bA):Bool:=cR y.word x.word
theorem aBL{x y:bA}(hb:ro b=some (.cells ⟨[.string x.word,zI x.cls,zI x.oy,x.dR]⟩ 145 (0,0))):dr zT 202 [.agg ⟨[.string y.word,zI y.cls,zI y.oy,y.dR]⟩,zP b] ro (.bool (cR y.word x.word)):=by
 refine zE<|zD 2<|jn fun b2=>jd 7 [0]<|jl (b:=b) (off:=0) (m:=4) (vs:=[.string x.word,zI x.cls,zI x.oy,x.dR]) 0 ⟨_,_,_,.inl hb,rfl⟩<|zD 4<|zX (.bool (cR y.word x.word)) ⟨rfl,rfl⟩
theorem aBK{v:Value}{fs:List bA}{x:bA}(hf:bC ro v 4 mf fs)(hn:fs.length≤1000)(hb:ro b=some (.cells ⟨[.string x.word,zI x.cls,zI x.oy,x.dR]⟩ 145 (0,0))):dr zT 223 [v,.func (.func 202) ⟨[]⟩ ⟨[zP b]⟩] ro (zI (bR (hdP x) fs 0)):=by
 obtain⟨gX,v9,vZ,fT,rfl,AH,qL,qK⟩:=hf
 refine zE<|zD 12<|dB [1,0,1,0,0] [] (fun(zz:Nat)=>[(0,.slice gX fs.length fT),(1,.func (.func 202) ⟨[]⟩ ⟨[zP b]⟩),(7,zI (fs.length:Int)),(8,zI (zz:Int))]) (fun zz=>[]) (fun zz=>zz≤fs.length∧bR (hdP x) fs 0=bR (hdP x) (fs.drop zz) zz) (fun zz=>fs.length-zz) 0 ⟨by omega,rfl⟩ [] ?_
 rintro k hI K1 bF rest
 refine zD 5<|zJ 9 ((k:Int) <(fs.length:Int)) (fun h1=>?_) fun h1=>?_
 ·
  refine zD 14 ?_
  obtain⟨fG,eE⟩:=zG fs k
  refine gY fT 4 qL eE<|jl 0 (qK _ _ eE)<|jp (vs:=[.agg ⟨[.string fG.word,zI fG.cls,zI fG.oy,fG.dR]⟩,zP b]) [] [] (fun aG hs hZ=>(aBL (y:=fG) (hs _ _ hb)))<|zD 1<|js 16 (hdP x fG) (fun h2=>?_) (fun h2=>?_)
  ·
   refine zD 7<|zX (zI (k:Int)) ⟨by rw[hI.2,jJ eE,show hdP x fG=true from (by assumption)];rfl,rfl⟩
  refine zD 3<|ja ((k:Int)+1) (by omega)<|zD 2<|bE bF (k+1) ⟨by omega,by rw[hI.2,jJ eE,show hdP x fG=false from (by assumption)];rfl⟩ (by omega) [] (Sub.refl _)
 refine zD 7<|zX (zI (-1)) ⟨by rw[hI.2,qy (by omega)],rfl⟩
theorem atr{v:Value}{fs:List bA}{x:bA}(hf:bC ro v 4 mf fs)(hn:fs.length≤1000)(hb:ro b=some (.cells ⟨[.string x.word,zI x.cls,zI x.oy,x.dR]⟩ 145 (0,0))):dr zT 201 [v,.func (.func 202) ⟨[]⟩ ⟨[zP b]⟩] ro (.bool (decide (bR (hdP x) fs 0≥0))):=by
 obtain⟨gX,v9,vZ,fT,rfl,AH,qL,qK⟩:=hf
 refine zE<|zD 8<|jp (vs:=[.slice gX fs.length fT,.func (.func 202) ⟨[]⟩ ⟨[zP b]⟩]) [] [] (fun aG hs hZ=>aBK ((show bC _ _ _ _ _ from ⟨gX,v9,vZ,fT,rfl,AH,qL,qK⟩).up hs) (by first|omega| (simp only[List.length_set,zM];omega)) (hs _ _ hb)) ?_
 refine zD 4<|zX (.bool (decide ((bR (hdP x) fs 0)≥0))) ⟨rfl,rfl⟩
def As(w:ByteArray):Bool:=Nat.ble 1 w.size&&(Nat.ble w.size 12&&(!cR w (bs [99,108,97,115,115])&&(!cR w (bs [102,105,110,105,115])&&w.data.toList.all fun b=>Nat.ble 97 b.toNat&&Nat.ble b.toNat 122)))
theorem aax:∀w∈nB,As w=true:=List.all_eq_true.1 (by kernel_rfl)
theorem acu:∀w∈pw,As w=true:=List.all_eq_true.1 (by kernel_rfl)
theorem aee{w:ByteArray}(h:As w=true):dr zT 197 [.string w] ro (.bool true):=by
 simp only[As,Bool.and_eq_true,Nat.ble_eq,Bool.not_eq_true',List.all_eq_true] at h
 exact aBD ⟨h.1,h.2.1⟩ h.2.2.1 h.2.2.2.1 h.2.2.2.2
structure lJ(cs:List bO)(hd:List cy):Prop where
 nc:0 <cs.length∧cs.length≤6
 nh:hd.length≤6
 cls:∀(i:Nat) (c:bO),cs[i]?=some c→As c.name=true∧ -1≤c.under∧c.under <i
 names:(cs.map (·.name)).Pairwise fun a b=>cR a b=false
 A8:∀(i:Nat) (x:cy),hd[i]?=some x→As x.word=true∧gG cs.length hd.length i x
 words:(hd.map (·.word)).Pairwise fun a b=>cR a b=false∧strLt b a=false
theorem xd.v(h:xd cs hd):lJ cs hd:=
 ⟨⟨h.nc.1,by have:=h.nc.2;omega⟩,by have:=h.nh;omega,fun i c hc=>⟨aax _ (h.cls i c hc).1,(h.cls i c hc).2⟩,h.names,fun i x hx=>⟨acu _ (h.A8 i x hx).1,(h.A8 i x hx).2⟩,h.words⟩
theorem SF{p:α→α→Bool}{l:List α}{x:α}(h:l.Pairwise fun y x=>p x y=false)(hx:l[i]?=some x):bR (p x) (l.take i) 0 <0:=by
 rw[C8]
 ·omega
 intro y hy
 obtain⟨j,hj⟩:=List.getElem?_of_mem hy
 rw[List.getElem?_take] at hj
 split at hj
 ·rename_i Aj
  exact qd h Aj hj hx
 cases hj
theorem apl{x:bO}(h:lJ cs hd)(hx:cs[i]?=some x):bR (EM x) (cs.take i) 0 <0:=
 SF (p:=EM) (List.pairwise_map.1 h.names) hx
theorem Pt{hv:List bA}(h:di dq hv hd):hv.map (·.word)=hd.map (·.word):=by
 induction h with
 |nil=>rfl
 |cons h1 _ ih=>simp only[List.map_cons,h1.1,ih]
theorem axs{hv:List bA}{x:bA}(h:lJ cs hd)(hs:di dq hv hd)(hx:hv[i]?=some x):bR (hdP x) (hv.take i) 0 <0:=
 SF (p:=hdP) ((List.pairwise_map.1 (Pt hs▸h.words)).imp fun h=>h.1) hx
theorem aGa{hv:List bA}{j:Nat}{x y:bA}(h:lJ cs hd)(hs:di dq hv hd)(I1:j <i)(hx:hv[i]?=some x) (hy:hv[j]?=some y):strLt x.word y.word=false:=
 (qd (List.pairwise_map.1 (Pt hs▸h.words)) I1 hy hx).2
theorem aeu{nc nh:Nat}{x:bA}{y:cy}(h:gG nc nh i y)(hr:rH ro x y):
 (-1≤x.cls∧x.cls <nc)∧(-1≤x.oy∧x.oy <nh∧x.oy≠i)∧(y.dR.length≤nh∧y.dR.Pairwise (· < ·)∧∀z∈y.dR,0≤z∧z <nh∧z≠i)∧(x.oy≠ -1→x.cls= -1∧y.dR.length=0)∧(x.oy= -1→x.cls= -1→y.dR.length≠0):=by
 rw[hr.2.1,hr.2.2.1]
 exact⟨h.1,h.2.1,h.2.2.1,fun a=>⟨(h.2.2.2.1 a).1,by rw[(h.2.2.2.1 a).2];rfl⟩,fun a b c=>h.2.2.2.2 a b (List.eq_nil_of_length_eq_zero c)⟩
theorem aty{v:Value}(hc:bC ro v 2 pd cs)(hT:lJ cs hd)(hi:i <cs.length):dr zT 163 [v,zI (i:Int)] ro (zI 0):=by
 obtain⟨eg,AJ,AI,dV,rfl,DC,yU,yT⟩:=hc
 have DN:=hT.nc
 refine zE<|zD 8 ?_
 obtain⟨x8,hx8⟩:=zG cs i
 refine gY dV 2 yU hx8<|jl 0 (yT _ _ hx8)<|jn fun b5=>jd 5 [0] ?_
 have iL:=hT.cls _ _ hx8
 have hcn:bR (EM x8) (cs.take (i:Int).toNat) 0 <0:=apl hT hx8
 have htk:(cs.take (i:Int).toNat).length≤cs.length:=by rw[List.length_take];omega
 refine jd 3 [0]<|jp (vs:=[.string x8.name]) [] [] (fun aG hs hZ=>(aee iL.1))<|zD 8<|jcH (hi:=(i:Int)) (show bC _ _ _ _ _ from ⟨eg,AJ,AI,dV,rfl,DC,yU,yT⟩) (by omega) (fun v18 av8=>?_)
 obtain⟨aqK,aCE,aCA,aqJ,rfl,aCC,aCD,aCB⟩:=av8
 refine zD 1<|jp (vs:=[.slice aqK ((((cs).take (i:Int).toNat)).length) aqJ,.func (.func 199) ⟨[]⟩ ⟨[zP b5]⟩]) [0] [(b5,.cells ⟨[.string x8.name,zI x8.under]⟩ 142 (0,0))] (fun aG hs hZ=>amf (x:=x8) ((show bC _ _ _ _ _ from ⟨aqK,aCE,aCA,aqJ,rfl,aCC,aCD,aCB⟩).up hs) (by first|omega| (simp only[List.length_set,zM];omega)) hZ.head) ?_
 refine zD 2<|js 15 (decide (bR (EM x8) ((cs).take (i:Int).toNat) 0≥0)) (fun h1=>?_) (fun h1=>?_)
 ·
  exfalso;have:=of_decide_eq_true h1;omega
 refine jd 7 [0]<|ja ((cs.length:Int)-1) (by omega)<|jp (vs:=[zI x8.under,zI (-1),zI ((cs.length:Int)-1)]) [] [] (fun aG hs hZ=>iZ)<|zD 3<|js 21 (!(iI x8.under (-1) ((cs.length:Int)-1))) (fun h2=>?_) (fun h2=>?_)
 ·
  try simp only[zB] at h2
  exfalso;simp only[iI,Bool.and_eq_false_iff,decide_eq_false_iff_not] at h2;omega
 try simp only[zB] at h2
 refine jd 9 [0]<|zJ 29 (x8.under≥(i:Int)) (fun h3=>?_) fun h3=>?_
 ·
  exfalso;omega
 refine zD 7<|zX (zI 0) ⟨rfl,rfl⟩
theorem aBJ{hv:List bA}(hR:jb ro vc vh cs hv hd)(nJ:di dq hv hd)(hT:lJ cs hd)(hi:i <hv.length):dr zT 164 [.agg ⟨[vc,vh]⟩,zI (i:Int)] ro (zI 0):=by
 obtain⟨hc,hh,dg⟩:=id hR
 obtain⟨eg,AJ,AI,dV,rfl,DC,yU,yT⟩:=hc
 obtain⟨dI,u4,u3,du,rfl,xw,qR,qQ⟩:=hh
 have DN:=hT.nc
 have hnh:=hT.nh
 have hlen:=nJ.len
 refine zE<|zD 2<|jn fun b2=>jd 9 [0,0] ?_
 obtain⟨fG,eE⟩:=zG hv i
 refine gY du 4 qR eE<|jl 0 (qQ _ _ eE)<|aS 7 fun BV B3 An=>jn fun b6=>eo An [1]<|zD 1<|aS 9 fun yD yK ya=>jsx 0 b6 0 [.string ByteArray.empty,zI 0,zI 0,zS] [.string fG.word,zI fG.cls,zI fG.oy,fG.dR] 145 (mJ dg _ (zL eE)) rfl<|fU ya<|zD 4 ?_
 obtain⟨EX,aEo,awe⟩:=dg.get eE
 obtain⟨fw,rQ,rP,eL,hqe,tO,lM,mC⟩:=awe.2.2.2
 have aPb:=(hT.A8 _ _ aEo).1
 have hsh:=aeu (hT.A8 _ _ aEo).2 awe
 obtain⟨cg,qj,BO,ko,hs5⟩:=hsh
 have hwb:As fG.word=true:=by rw[awe.1];exact aPb
 have hcn:bR (hdP fG) (hv.take (i:Int).toNat) 0 <0:=axs hT nJ eE
 have htk:(hv.take (i:Int).toNat).length≤hv.length:=by rw[List.length_take];omega
 refine jmw 0 [.b b6 (.cells ⟨[.string fG.word,zI fG.cls,zI fG.oy,.slice fw EX.dR.length eL]⟩ 145 (0,0))] (L:=[(b6,.cells ⟨[.string fG.word,zI fG.cls,zI fG.oy,fG.dR]⟩ 145 (0,0))]) (by rw[hqe];rfl) ?_
 refine jd 3 [0]<|jp (vs:=[.string fG.word]) [] [] (fun aG hs hZ=>(aee hwb))<|zD 8<|jcH (hi:=(i:Int)) (show bC _ _ _ _ _ from ⟨dI,u4,u3,du,rfl,xw,qR,qQ⟩) (by omega) (fun v24 aPx=>?_)
 obtain⟨aqI,aCz,aCv,aqH,rfl,aCx,aCy,aCw⟩:=aPx
 refine zD 1<|jp (vs:=[.slice aqI ((((hv).take (i:Int).toNat)).length) aqH,.func (.func 202) ⟨[]⟩ ⟨[zP b6]⟩]) [0] [(b6,.cells ⟨[.string fG.word,zI fG.cls,zI fG.oy,.slice fw EX.dR.length eL]⟩ 145 (0,0))] (fun aG hs hZ=>atr (x:=fG) ((show bC _ _ _ _ _ from ⟨aqI,aCz,aCv,aqH,rfl,aCx,aCy,aCw⟩).up hs) (by first|omega| (simp only[List.length_set,zM];omega)) (by rw[hqe];exact hZ.head)) ?_
 refine zD 2<|js 21 (decide (bR (hdP fG) ((hv).take (i:Int).toNat) 0≥0)) (fun h3=>?_) (fun h3=>?_)
 ·
  exfalso;have:=of_decide_eq_true h3;omega
 refine zD 6<|js 2 (decide ((i:Int)>0)) (fun h4=>?_) (fun h4=>?_)
 ·
  have uR:=h4
  replace uR:=of_decide_eq_true uR
  refine jd 4 [0]<|ja ((i:Int)-1) (by omega) ?_
  obtain⟨x36,za⟩:=zG hv (((i:Int)-1).toNat)
  refine IU ((i:Int)-1) du 4 qR za (by omega)<|zD 1<|jl 0 (qQ _ _ za)<|zD 4<|js 27 (strLt fG.word x36.word) (fun h5=>?_) (fun h5=>?_)
  ·
   exfalso;rw[aGa hT nJ (by omega) eE za] at h5;cases h5
  refine jd 9 [0,1]<|ja ((cs.length:Int)-1) (by omega)<|jp (vs:=[zI fG.cls,zI (-1),zI ((cs.length:Int)-1)]) [] [] (fun aG hs hZ=>iZ)<|zD 3<|js 41 (!(iI fG.cls (-1) ((cs.length:Int)-1))) (fun h6=>?_) (fun h6=>?_)
  ·
   try simp only[zB] at h6
   exfalso;simp only[iI,Bool.and_eq_false_iff,decide_eq_false_iff_not] at h6;omega
  try simp only[zB] at h6
  refine jd 6 [0]<|ja ((hv.length:Int)-1) (by omega)<|jp (vs:=[zI fG.oy,zI (-1),zI ((hv.length:Int)-1)]) [] [] (fun aG hs hZ=>iZ)<|zD 3<|js 41 (!(iI fG.oy (-1) ((hv.length:Int)-1))) (fun h7=>?_) (fun h7=>?_)
  ·
   try simp only[zB] at h7
   exfalso;simp only[iI,Bool.and_eq_false_iff,decide_eq_false_iff_not] at h7;omega
  try simp only[zB] at h7
  refine jd 9 [0]<|zJ 57 (fG.oy=(i:Int)) (fun h8=>?_) fun h8=>?_
  ·
   exfalso;omega
  refine jd 11 [0]<|dB [1,1,1,0,1,0,0] [] (fun(zz:Nat)=>[(1,zI (i:Int)),(5,.slice dI hv.length du),(6,zP b6),(63,.slice fw EX.dR.length eL),(64,zI (EX.dR.length:Int)),(65,zI (zz:Int))]) (fun zz=>[.b b6 (.cells ⟨[.string fG.word,zI fG.cls,zI fG.oy,.slice fw EX.dR.length eL]⟩ 145 (0,0))]) (fun zz=>zz≤EX.dR.length) (fun zz=>EX.dR.length-zz) 0 (by omega) [0] ?_
  rintro k hI K3 hK3 rest
  refine zD 5<|zJ 66 ((k:Int) <(EX.dR.length:Int)) (fun h9=>?_) fun h9=>?_
  ·
   refine zD 7 ?_
   obtain⟨x68,Nx⟩:=zG EX.dR k
   refine gY eL 1 lM Nx<|jl 0 (mC _ _ Nx)<|zD 5 ?_
   have aR9:=BO.2.2 _ (zL Nx)
   refine zD 4<|ja ((hv.length:Int)-1) (by omega)<|jp (vs:=[zI x68,zI 0,zI ((hv.length:Int)-1)]) [] [] (fun aG hs hZ=>iZ)<|zD 3<|js 70 (!(iI x68 0 ((hv.length:Int)-1))) (fun EH=>?_) (fun EH=>?_)
   ·
    try simp only[zB] at EH
    exfalso;simp only[iI,Bool.and_eq_false_iff,decide_eq_false_iff_not] at EH;omega
   try simp only[zB] at EH
   refine zD 8<|zJ 77 (x68=(i:Int)) (fun V5=>?_) fun V5=>?_
   ·
    exfalso;omega
   refine zD 6<|js 84 (decide ((k:Int)>0)) (fun zp=>?_) (fun zp=>?_)
   ·
    have HL:=zp
    replace HL:=of_decide_eq_true HL
    refine jd 4 [0]<|ja ((k:Int)-1) (by omega) ?_
    obtain⟨x90,Vd⟩:=zG EX.dR (((k:Int)-1).toNat)
    refine IU ((k:Int)-1) eL 1 lM Vd (by omega)<|jl 0 (mC _ _ Vd)<|zD 4<|zJ 81 (x68≤x90) (fun uU=>?_) fun uU=>?_
    ·
     exfalso;have:=qd BO.2.1 (show ((k:Int)-1).toNat <k by omega) Vd Nx;omega
    refine zD 3<|ja ((k:Int)+1) (by omega)<|zD 2<|bE hK3 (k+1) (by omega) (by omega) [0] (Sub.refl _)
   have HL:=zp
   replace HL:=of_decide_eq_false HL
   refine zD 14<|ja ((k:Int)+1) (by omega)<|zD 2<|bE hK3 (k+1) (by omega) (by omega) [0] (Sub.refl _)
  refine jd 9 [0]<|js 98 (!decide (fG.oy=(-1))) (fun h14=>?_) (fun h14=>?_)
  ·
   have ajb:=h14
   replace ajb:=of_decide_eq_false (by simpa using ajb)
   refine jd 4 [0]<|js 102 (!decide (fG.cls=(-1))) (fun N0=>?_) (fun N0=>?_)
   ·
    have HJ:=N0
    replace HJ:=of_decide_eq_false (by simpa using HJ)
    refine zD 29 ?_
    exfalso;omega
   have HJ:=N0
   replace HJ:=of_decide_eq_true (by simpa using HJ)
   refine jd 7 [0]<|js 109 (decide ((EX.dR.length:Int)>0)) (fun V4=>?_) (fun V4=>?_)
   ·
    have aja:=V4
    replace aja:=of_decide_eq_true aja
    refine zD 22 ?_
    exfalso;omega
   have aja:=V4
   replace aja:=of_decide_eq_false aja
   refine jd 4 [0]<|js 113 (decide (fG.oy=(-1))) (fun h17=>?_) (fun h17=>?_)
   ·
    have HI:=h17
    replace HI:=of_decide_eq_true HI
    refine jd 5 [0]<|js 118 (decide (fG.cls=(-1))) (fun h18=>?_) (fun h18=>?_)
    ·
     have ai8:=h18
     replace ai8:=of_decide_eq_true ai8
     refine jd 7 [0]<|zJ 124 ((EX.dR.length:Int)=0) (fun h19=>?_) fun h19=>?_
     ·
      exfalso;(try simp only[Bool.or_eq_true,Bool.and_eq_true,decide_eq_true_eq,Bool.not_eq_true',decide_eq_false_iff_not] at h19);omega
     refine zD 7<|zX (zI 0) ⟨rfl,rfl⟩
    have ai8:=h18
    replace ai8:=of_decide_eq_false ai8
    refine zD 14<|zX (zI 0) ⟨rfl,rfl⟩
   have HI:=h17
   replace HI:=of_decide_eq_false HI
   refine zD 19<|zX (zI 0) ⟨rfl,rfl⟩
  have ajb:=h14
  replace ajb:=of_decide_eq_true (by simpa using ajb)
  refine jd 15 [0]<|js 113 (decide (fG.oy=(-1))) (fun h20=>?_) (fun h20=>?_)
  ·
   have ai7:=h20
   replace ai7:=of_decide_eq_true ai7
   refine jd 5 [0]<|js 118 (decide (fG.cls=(-1))) (fun h21=>?_) (fun h21=>?_)
   ·
    have ai6:=h21
    replace ai6:=of_decide_eq_true ai6
    refine jd 7 [0]<|zJ 124 ((EX.dR.length:Int)=0) (fun Ln=>?_) fun Ln=>?_
    ·
     exfalso;(try simp only[Bool.or_eq_true,Bool.and_eq_true,decide_eq_true_eq,Bool.not_eq_true',decide_eq_false_iff_not] at Ln);omega
    refine zD 7<|zX (zI 0) ⟨rfl,rfl⟩
   have ai6:=h21
   replace ai6:=of_decide_eq_false ai6
   refine zD 14<|zX (zI 0) ⟨rfl,rfl⟩
  have ai7:=h20
  replace ai7:=of_decide_eq_false ai7
  refine zD 19<|zX (zI 0) ⟨rfl,rfl⟩
 have uR:=h4
 replace uR:=of_decide_eq_false uR
 refine jd 21 [0,1]<|ja ((cs.length:Int)-1) (by omega)<|jp (vs:=[zI fG.cls,zI (-1),zI ((cs.length:Int)-1)]) [] [] (fun aG hs hZ=>iZ)<|zD 3<|js 41 (!(iI fG.cls (-1) ((cs.length:Int)-1))) (fun Fi=>?_) (fun Fi=>?_)
 ·
  try simp only[zB] at Fi
  exfalso;simp only[iI,Bool.and_eq_false_iff,decide_eq_false_iff_not] at Fi;omega
 try simp only[zB] at Fi
 refine jd 6 [0]<|ja ((hv.length:Int)-1) (by omega)<|jp (vs:=[zI fG.oy,zI (-1),zI ((hv.length:Int)-1)]) [] [] (fun aG hs hZ=>iZ)<|zD 3<|js 41 (!(iI fG.oy (-1) ((hv.length:Int)-1))) (fun h24=>?_) (fun h24=>?_)
 ·
  try simp only[zB] at h24
  exfalso;simp only[iI,Bool.and_eq_false_iff,decide_eq_false_iff_not] at h24;omega
 try simp only[zB] at h24
 refine jd 9 [0]<|zJ 57 (fG.oy=(i:Int)) (fun h25=>?_) fun h25=>?_
 ·
  exfalso;omega
 refine jd 11 [0]<|dB [1,1,1,0,1,0,0] [] (fun(zz:Nat)=>[(1,zI (i:Int)),(5,.slice dI hv.length du),(6,zP b6),(63,.slice fw EX.dR.length eL),(64,zI (EX.dR.length:Int)),(65,zI (zz:Int))]) (fun zz=>[.b b6 (.cells ⟨[.string fG.word,zI fG.cls,zI fG.oy,.slice fw EX.dR.length eL]⟩ 145 (0,0))]) (fun zz=>zz≤EX.dR.length) (fun zz=>EX.dR.length-zz) 0 (by omega) [0] ?_
 rintro k hI K4 hK4 rest
 refine zD 5<|zJ 66 ((k:Int) <(EX.dR.length:Int)) (fun h26=>?_) fun h26=>?_
 ·
  refine zD 7 ?_
  obtain⟨x68,Nx⟩:=zG EX.dR k
  refine gY eL 1 lM Nx<|jl 0 (mC _ _ Nx)<|zD 5 ?_
  have aR9:=BO.2.2 _ (zL Nx)
  refine zD 4<|ja ((hv.length:Int)-1) (by omega)<|jp (vs:=[zI x68,zI 0,zI ((hv.length:Int)-1)]) [] [] (fun aG hs hZ=>iZ)<|zD 3<|js 70 (!(iI x68 0 ((hv.length:Int)-1))) (fun h27=>?_) (fun h27=>?_)
  ·
   try simp only[zB] at h27
   exfalso;simp only[iI,Bool.and_eq_false_iff,decide_eq_false_iff_not] at h27;omega
  try simp only[zB] at h27
  refine zD 8<|zJ 77 (x68=(i:Int)) (fun h28=>?_) fun h28=>?_
  ·
   exfalso;omega
  refine zD 6<|js 84 (decide ((k:Int)>0)) (fun h29=>?_) (fun h29=>?_)
  ·
   have ai1:=h29
   replace ai1:=of_decide_eq_true ai1
   refine jd 4 [0]<|ja ((k:Int)-1) (by omega) ?_
   obtain⟨x90,Vd⟩:=zG EX.dR (((k:Int)-1).toNat)
   refine IU ((k:Int)-1) eL 1 lM Vd (by omega)<|jl 0 (mC _ _ Vd)<|zD 4<|zJ 81 (x68≤x90) (fun h30=>?_) fun h30=>?_
   ·
    exfalso;have:=qd BO.2.1 (show ((k:Int)-1).toNat <k by omega) Vd Nx;omega
   refine zD 3<|ja ((k:Int)+1) (by omega)<|zD 2<|bE hK4 (k+1) (by omega) (by omega) [0] (Sub.refl _)
  have ai1:=h29
  replace ai1:=of_decide_eq_false ai1
  refine zD 14<|ja ((k:Int)+1) (by omega)<|zD 2<|bE hK4 (k+1) (by omega) (by omega) [0] (Sub.refl _)
 refine jd 9 [0]<|js 98 (!decide (fG.oy=(-1))) (fun h31=>?_) (fun h31=>?_)
 ·
  have ai0:=h31
  replace ai0:=of_decide_eq_false (by simpa using ai0)
  refine jd 4 [0]<|js 102 (!decide (fG.cls=(-1))) (fun h32=>?_) (fun h32=>?_)
  ·
   have aiY:=h32
   replace aiY:=of_decide_eq_false (by simpa using aiY)
   refine zD 29 ?_
   exfalso;omega
  have aiY:=h32
  replace aiY:=of_decide_eq_true (by simpa using aiY)
  refine jd 7 [0]<|js 109 (decide ((EX.dR.length:Int)>0)) (fun h33=>?_) (fun h33=>?_)
  ·
   have aiX:=h33
   replace aiX:=of_decide_eq_true aiX
   refine zD 22 ?_
   exfalso;omega
  have aiX:=h33
  replace aiX:=of_decide_eq_false aiX
  refine jd 4 [0]<|js 113 (decide (fG.oy=(-1))) (fun h34=>?_) (fun h34=>?_)
  ·
   have aiW:=h34
   replace aiW:=of_decide_eq_true aiW
   refine jd 5 [0]<|js 118 (decide (fG.cls=(-1))) (fun h35=>?_) (fun h35=>?_)
   ·
    have aiU:=h35
    replace aiU:=of_decide_eq_true aiU
    refine jd 7 [0]<|zJ 124 ((EX.dR.length:Int)=0) (fun h36=>?_) fun h36=>?_
    ·
     exfalso;(try simp only[Bool.or_eq_true,Bool.and_eq_true,decide_eq_true_eq,Bool.not_eq_true',decide_eq_false_iff_not] at h36);omega
    refine zD 7<|zX (zI 0) ⟨rfl,rfl⟩
   have aiU:=h35
   replace aiU:=of_decide_eq_false aiU
   refine zD 14<|zX (zI 0) ⟨rfl,rfl⟩
  have aiW:=h34
  replace aiW:=of_decide_eq_false aiW
  refine zD 19<|zX (zI 0) ⟨rfl,rfl⟩
 have ai0:=h31
 replace ai0:=of_decide_eq_true (by simpa using ai0)
 refine jd 15 [0]<|js 113 (decide (fG.oy=(-1))) (fun h37=>?_) (fun h37=>?_)
 ·
  have aiT:=h37
  replace aiT:=of_decide_eq_true aiT
  refine jd 5 [0]<|js 118 (decide (fG.cls=(-1))) (fun h38=>?_) (fun h38=>?_)
  ·
   have aiS:=h38
   replace aiS:=of_decide_eq_true aiS
   refine jd 7 [0]<|zJ 124 ((EX.dR.length:Int)=0) (fun h39=>?_) fun h39=>?_
   ·
    exfalso;(try simp only[Bool.or_eq_true,Bool.and_eq_true,decide_eq_true_eq,Bool.not_eq_true',decide_eq_false_iff_not] at h39);omega
   refine zD 7<|zX (zI 0) ⟨rfl,rfl⟩
  have aiS:=h38
  replace aiS:=of_decide_eq_false aiS
  refine zD 14<|zX (zI 0) ⟨rfl,rfl⟩
 have aiT:=h37
 replace aiT:=of_decide_eq_false aiT
 refine zD 19<|zX (zI 0) ⟨rfl,rfl⟩
theorem Xt{hv:List bA}(hR:jb ro vc vh cs hv hd)(nJ:di dq hv hd)(hT:lJ cs hd):dr zT 121 [.agg ⟨[vc,vh]⟩] ro (zI 0):=by
 obtain⟨hc,hh,dg⟩:=id hR
 obtain⟨eg,AJ,AI,dV,rfl,DC,yU,yT⟩:=hc
 obtain⟨dI,u4,u3,du,rfl,xw,qR,qQ⟩:=hh
 have DN:=hT.nc
 have hnh:=hT.nh
 have hlen:=nJ.len
 refine zE<|zD 2<|jn fun b1=>jd 10 [0]<|jj 5 [(1,zP b1),(2,zI 0),(16,.bool ((decide ((cs.length:Int)>6))||(decide ((hv.length:Int)>6))))] (fun gH=>?_) (fun hj=>?_)
 rotate_left
 refine js 11 (decide ((cs.length:Int)>6)) (fun h1=>?_) (fun h1=>?_)
 ·
  have fp:=h1
  replace fp:=of_decide_eq_true fp
  refine zD 5<|jw 16 (.bool ((decide ((cs.length:Int)>6))||(decide ((hv.length:Int)>6)))) (w:= .bool true) (by rw[h1]<;>rfl) ?_
  exact zK hj
 ·
  have fp:=h1
  replace fp:=of_decide_eq_false fp
  refine jd 5 [0]<|jw 16 (.bool ((decide ((cs.length:Int)>6))||(decide ((hv.length:Int)>6)))) (w:= .bool (decide ((hv.length:Int)>6))) (by rw[h1]<;>rfl) ?_
  exact zK hj
 refine zD 1<|js 16 ((decide ((cs.length:Int)>6))||(decide ((hv.length:Int)>6))) (fun h2=>?_) (fun h2=>?_)
 ·
  try simp only[zB] at h2
  exfalso;omega
 try simp only[zB] at h2
 refine jd 11 [0]<|dB [1,1,0,1,0,0] [] (fun(zz:Nat)=>[(1,zP b1),(19,zI (cs.length:Int)),(20,zI (zz:Int))]) (fun zz=>[.b b1 (.cells ⟨[.slice eg cs.length dV,.slice dI hv.length du]⟩ 35 (0,0))]) (fun zz=>zz≤cs.length) (fun zz=>cs.length-zz) 0 (by omega) [0] ?_
 rintro k hI K1 bF rest
 refine zD 5<|zJ 21 ((k:Int) <(cs.length:Int)) (fun h3=>?_) fun h3=>?_
 ·
  refine jd 14 [0]<|jp (vs:=[.slice eg cs.length dV,zI (k:Int)]) [] [] (fun aG hs hZ=>aty ((show bC _ _ _ _ _ from ⟨eg,AJ,AI,dV,rfl,DC,yU,yT⟩).up hs) hT (by omega))<|zD 10<|ja ((k:Int)+1) (by omega)<|zD 2<|bE bF (k+1) (by omega) (by omega) [0] (Sub.refl _)
 refine jd 11 [0]<|dB [1,1,1,0,1,0,0] [] (fun(zz:Nat)=>[(1,zP b1),(33,zI (hv.length:Int)),(34,zI (zz:Int))]) (fun zz=>[.b b1 (.cells ⟨[.slice eg cs.length dV,.slice dI hv.length du]⟩ 35 (0,0))]) (fun zz=>zz≤hv.length) (fun zz=>hv.length-zz) 0 (by omega) [0] ?_
 rintro j hJ K2 kL rest
 refine zD 5<|zJ 35 ((j:Int) <(hv.length:Int)) (fun h4=>?_) fun h4=>?_
 ·
  refine jd 13 [0]<|jp (vs:=[.agg ⟨[.slice eg cs.length dV,.slice dI hv.length du]⟩,zI (j:Int)]) [] [] (fun aG hs hZ=>(aBJ (hR.up hs) nJ hT (by omega)))<|zD 10<|ja ((j:Int)+1) (by omega)<|zD 2<|bE kL (j+1) (by omega) (by omega) [0] (Sub.refl _)
 refine zD 7<|zX (zI 0) ⟨rfl,rfl⟩
theorem atz{hv:List bA}(hR:jb ro vc vh cs hv hd)(nJ:di dq hv hd)(hT:lJ cs hd):dr zT 96 [.agg ⟨[vc,vh]⟩] ro (zI 0):=by
 obtain⟨hc,hh,dg⟩:=id hR
 obtain⟨eg,AJ,AI,dV,rfl,DC,yU,yT⟩:=hc
 obtain⟨dI,u4,u3,du,rfl,xw,qR,qQ⟩:=hh
 have DN:=hT.nc
 have hnh:=hT.nh
 have hlen:=nJ.len
 refine zE<|zD 2<|jn fun b1=>jd 5 [0]<|jp (vs:=[.agg ⟨[.slice eg cs.length dV,.slice dI hv.length du]⟩]) [] [] (fun aG hs hZ=>(Xt (hR.up hs) nJ hT))<|zD 3<|zX (zI 0) ⟨rfl,rfl⟩
def JH(a b:ByteArray):Int:=bif strLt a b then-1 else bif !(strLt a b||cR a b) then 1 else 0
def Ok:List ByteArray→List ByteArray→Int
 | [],[]=>0
 | [],_::_=> -1
 |_::_,[]=>1
 |x::xs,y::ys=>if JH x y=0 then Ok xs ys else JH x y
theorem ZE{x y:ByteArray}(hx:xs[k]?=some x) (hy:ys[k]?=some y):Ok (xs.drop k) (ys.drop k)=if JH x y=0 then Ok (xs.drop (k+1)) (ys.drop (k+1)) else JH x y:=by rw[eB hx,eB hy];rfl
theorem aj2{x:ByteArray}(hx:xs[k]?=some x) (hy:¬k <ys.length):Ok (xs.drop k) (ys.drop k)=1:=by rw[eB hx,ep hy];rfl
theorem SQ(hx:¬k <xs.length):Ok (xs.drop k) (ys.drop k)=if k <ys.length then-1 else 0:=by
 rw[ep hx]
 split
 ·rename_i h
  rw[List.drop_eq_getElem_cons h];rfl
 rename_i h
 rw[ep h];rfl
def sR(s p:ByteArray):Bool:=decide (s.size≥p.size)&&cR (s.extract 0 p.size) p
structure an where
 h:Int
 n:Int
 l:Int
abbrev cK(x:an):List Value:=[zI x.h,zI x.n,zI x.l]
def pg(h n l:Int)(y:an):Bool:=h==y.h&&(n==y.n&&(l==y.l&&true)&&true)
theorem aH0{a:ByteArray}:dr zT 273 [.string a] ro (.bool false):=by
 refine zE<|zD 12<|zX (.bool (!(cR a a))) ⟨by rw[B4.2 rfl];rfl,rfl⟩
theorem aTN{a b:ByteArray}:dr zT 249 [.string a,.string b] ro (zI (JH a b)):=by
 refine zE<|zD 7<|jp (vs:=[.string a]) [] [] (fun aG hs hZ=>aH0)<|zD 5<|jp (vs:=[.string b]) [] [] (fun aG hs hZ=>aH0)<|zD 23<|js 16 (strLt a b) (fun h1=>?_) (fun h1=>?_)
 ·
  refine zD 6<|zX (zI (-1)) ⟨by simp_all[JH],rfl⟩
 refine zD 9<|js 19 (!(strLt a b||cR a b)) (fun h2=>?_) (fun h2=>?_)
 ·
  try simp only[zB] at h2
  refine zD 6<|zX (zI 1) ⟨by simp_all[JH],rfl⟩
 try simp only[zB] at h2
 refine zD 7<|zX (zI 0) ⟨by simp_all[JH],rfl⟩
theorem aMo{v w:Value}(hv:bC ro v 1 pM xs)(hw:bC ro w 1 pM ys)(hx:xs.length≤1000)(hy:ys.length≤1000):dr zT 228 [v,w] ro (zI (Ok xs ys)):=by
 obtain⟨ML,qvb,qvo,BN,rfl,qvk,Qe,Qd⟩:=hv
 obtain⟨UC,qwb,qwo,MK,rfl,qwk,qwh,qwl⟩:=hw
 refine zE<|zD 12<|dB [1,0,1,0,0] [] (fun(zz:Nat)=>[(0,.slice ML xs.length BN),(1,.slice UC ys.length MK),(9,.slice ML xs.length BN),(10,zI (xs.length:Int)),(11,zI (zz:Int))]) (fun zz=>[]) (fun zz=>(zz≤xs.length∧zz≤ys.length)∧Ok xs ys=Ok (xs.drop zz) (ys.drop zz)) (fun zz=>xs.length-zz) 0 ⟨by omega,rfl⟩ [] ?_
 rintro k hI K1 bF rest
 refine zD 5<|zJ 12 ((k:Int) <(xs.length:Int)) (fun h1=>?_) fun h1=>?_
 ·
  refine zD 7 ?_
  obtain⟨fG,eE⟩:=zG xs k
  refine gY BN 1 Qe eE<|jl 0 (Qd _ _ eE)<|zD 11<|zJ 19 ((k:Int)≥(ys.length:Int)) (fun h2=>?_) fun h2=>?_
  ·
   refine zD 6<|zX (zI 1) ⟨by rw[hI.2,aj2 eE (by omega)],rfl⟩
  refine zD 6 ?_
  obtain⟨sj,uf⟩:=zG ys k
  refine gY MK 1 qwh uf<|jl 0 (qwl _ _ uf)<|zD 6<|jp (vs:=[.string fG,.string sj]) [] [] (fun aG hs hZ=>aTN)<|zD 7<|js 28 (!decide ((JH fG sj)=0)) (fun h3=>?_) (fun h3=>?_)
  ·
   replace h3:=of_decide_eq_false (by simpa using h3)
   refine zD 7<|zX (zI (JH fG sj)) ⟨by rw[hI.2,ZE eE uf,if_neg (by omega)],rfl⟩
  replace h3:=of_decide_eq_true (by simpa using h3)
  refine zD 3<|ja ((k:Int)+1) (by omega)<|zD 2<|bE bF (k+1) ⟨by omega,by rw[hI.2,ZE eE uf,if_pos (by omega)]⟩ (by omega) [] (Sub.refl _)
 refine zD 11<|zJ 35 ((xs.length:Int) <(ys.length:Int)) (fun h4=>?_) fun h4=>?_
 ·
  refine zD 6<|zX (zI (-1)) ⟨by rw[hI.2,SQ (by omega),if_pos (by omega)],rfl⟩
 refine zD 7<|zX (zI 0) ⟨by rw[hI.2,SQ (by omega),if_neg (by omega)],rfl⟩
theorem abS{a b:ByteArray}(hn:a.size≤1000∧b.size≤1000):dr zT 298 [.string a,.string b] ro (.bool (sR a b)):=by
 refine zE<|zD 12<|js 10 (decide ((a.size:Int)≥(b.size:Int))) (fun h1=>?_) (fun h1=>?_)
 ·
  have fp:=h1
  replace fp:=of_decide_eq_true fp
  refine zD 3<|jtH (b:=a) (hi:=(b.size:Int)) (by omega)<|zD 6<|zX (.bool (cR (a.extract 0 (b.size:Int).toNat) b)) ⟨by simp_all[sR]<;>(intro;omega),rfl⟩
 have fp:=h1
 replace fp:=of_decide_eq_false fp
 refine zD 10<|zX (.bool false) ⟨by simp_all[sR]<;>(intro;omega),rfl⟩
theorem abT{a b:ByteArray}(hn:a.size≤1000∧b.size≤1000):dr zT 290 [.string a,.string b] ro (.bool (sR a b)):=by
 refine zE<|zD 8<|jp (vs:=[.string a,.string b]) [] [] (fun aG hs hZ=>(abS (by omega)))<|zD 3<|zX (.bool (sR a b)) ⟨rfl,rfl⟩
theorem agK{v:Value}{ps:List an}{h l:Int}(hp:bC ro v 3 cK ps)(hn:ps.length≤1000):dr zT 102 [v,.agg ⟨[zI h,zI n,zI l]⟩] ro (zI (bR (pg h n l) ps 0)):=by
 obtain⟨To,qpb,qpo,Kk,rfl,qpk,qph,qpl⟩:=hp
 refine zE<|zD 2<|jn fun b3=>zD 10<|dB [1,0,1,0,0] [] (fun(zz:Nat)=>[(0,.slice To ps.length Kk),(3,zP b3),(7,zI (ps.length:Int)),(8,zI (zz:Int))]) (fun zz=>[.b b3 (.cells ⟨[zI h,zI n,zI l]⟩ 158 (0,0))]) (fun zz=>zz≤ps.length∧bR (pg h n l) ps 0=bR (pg h n l) (ps.drop zz) zz) (fun zz=>ps.length-zz) 0 ⟨by omega,rfl⟩ [0] ?_
 rintro k hI K1 bF rest
 refine zD 5<|zJ 9 ((k:Int) <(ps.length:Int)) (fun h1=>?_) fun h1=>?_
 ·
  refine jd 14 [0] ?_
  obtain⟨fG,eE⟩:=zG ps k
  refine gY Kk 3 qph eE<|jl 0 (qpl _ _ eE)<|jeq aDA (ayC h n l fG.h fG.n fG.l)<|zD 1<|js 16 (h==fG.h&&(n==fG.n&&(l==fG.l&&true)&&true)) (fun h2=>?_) (fun h2=>?_)
  ·
   refine zD 7<|zX (zI (k:Int)) ⟨by rw[hI.2,jJ eE,show pg h n l fG=true from (by assumption)];rfl,rfl⟩
  refine zD 3<|ja ((k:Int)+1) (by omega)<|zD 2<|bE bF (k+1) ⟨by omega,by rw[hI.2,jJ eE,show pg h n l fG=false from (by assumption)];rfl⟩ (by omega) [0] (Sub.refl _)
 refine zD 7<|zX (zI (-1)) ⟨by rw[hI.2,qy (by omega)],rfl⟩
theorem KW{v:Value}{ps:List an}{h l:Int}(hp:bC ro v 3 cK ps)(hn:ps.length≤1000):dr zT 75 [v,.agg ⟨[zI h,zI n,zI l]⟩] ro (.bool (decide (bR (pg h n l) ps 0≥0))):=by
 obtain⟨To,qpb,qpo,Kk,rfl,qpk,qph,qpl⟩:=hp
 refine zE<|zD 2<|jn fun b3=>jd 6 [0]<|jp (vs:=[.slice To ps.length Kk,.agg ⟨[zI h,zI n,zI l]⟩]) [] [] (fun aG hs hZ=>agK ((show bC _ _ _ _ _ from ⟨To,qpb,qpo,Kk,rfl,qpk,qph,qpl⟩).up hs) (by first|omega| (simp only[List.length_set,zM];omega))) ?_
 refine zD 4<|zX (.bool (decide ((bR (pg h n l) ps 0)≥0))) ⟨rfl,rfl⟩
theorem afT{v:Value}{ws:List ByteArray}(hv:bC ro v 1 pM ws)(hn:ws.length≤1000)(hW:∀w∈ws,(1≤w.size∧w.size≤6)∧Script w):dr zT 204 [v] ro (zI 0):=by
 obtain⟨ML,qvb,qvo,BN,rfl,qvk,Qe,Qd⟩:=hv
 refine zE<|zD 12<|dB [1,0,1,0,0] [] (fun(zz:Nat)=>[(6,.slice ML ws.length BN),(7,zI (ws.length:Int)),(8,zI (zz:Int))]) (fun zz=>[]) (fun zz=>zz≤ws.length) (fun zz=>ws.length-zz) 0 (by omega) [] ?_
 rintro k hI K1 bF rest
 refine zD 5<|zJ 9 ((k:Int) <(ws.length:Int)) (fun h1=>?_) fun h1=>?_
 ·
  refine zD 6 ?_
  obtain⟨x10,rY⟩:=zG ws k
  refine gY BN 1 Qe rY<|jl 0 (Qd _ _ rY)<|zD 5<|jp (vs:=[.string x10]) [] [] (fun aG hs hZ=>(UT (hW _ (zL rY)).1 (hW _ (zL rY)).2))<|zD 10<|ja ((k:Int)+1) (by omega)<|zD 2<|bE bF (k+1) (by omega) (by omega) [] (Sub.refl _)
 refine zD 7<|zX (zI 0) ⟨rfl,rfl⟩
def xS(w:ByteArray):Prop:=∀b∈w.data.toList,b.toNat <128∧kindOf (b.toNat:Int)=1
def ano(w:ByteArray):Bool:=w.data.toList.all fun b=>Nat.blt b.toNat 128&&decide (kindOf (b.toNat:Int)=1)
theorem GV{w:ByteArray}(h:ano w=true):xS w:=fun b hb=>by
 have:=List.all_eq_true.1 h b hb
 simp only[Bool.and_eq_true,Nat.blt_eq,decide_eq_true_eq] at this
 exact this
def XE(r:bQ):Bool:=(Nat.ble 1 r.f.size&&Nat.ble r.f.size 2)&&(Nat.ble r.t.size 2&&(ano r.f&&(ano r.t&& !cR r.f r.t)))
theorem aaI:(ar3.all fun f=>toW.all fun t=>XE ⟨f,t⟩)=true:=by kernel_rfl
structure rF(r:bQ):Prop where
 f1:1≤r.f.size∧r.f.size≤2
 t1:r.t.size≤2
 fl:xS r.f
 tl:xS r.t
 ne:cR r.f r.t=false
theorem atT{r:bQ}(h:IG r):rF r:=by
 have:=List.all_eq_true.1 (List.all_eq_true.1 aaI r.f h.1) r.t h.2
 simp only[XE,Bool.and_eq_true,Nat.ble_eq,Bool.not_eq_true'] at this
 exact⟨this.1,this.2.1,GV this.2.2.1,GV this.2.2.2.1,this.2.2.2.2⟩
theorem aDE:dr zT 243 [.int .i32 r] ro (.bool (!decide (kindOf r=1))):=by
 refine zE<|zD 7<|jp (vs:=[.int .i32 r]) [] [] (fun aG hs hZ=>aqQ)<|zD 4<|zX (.bool (!decide ((kindOf r)=1))) ⟨rfl,rfl⟩
theorem aMn{w:ByteArray}(hK:xS w):dr zT 281 [.string w,.func (.func 243) ⟨[]⟩ ⟨[]⟩,.bool true] ro (zI (-1)):=by
 refine zE<|zD 8<|jn fun r10=>zD 2<|dB [1,0,1,0,0] [] (fun(zz:Nat)=>[(1,.func (.func 243) ⟨[]⟩ ⟨[]⟩),(2,.bool true),(10,zP r10)]) (fun zz=>[.b r10 (.stringIter w zz)]) (fun zz=>zz≤w.data.toList.length) (fun zz=>w.data.toList.length-zz) 0 (by omega) [0] ?_
 rintro p hI K1 bF rest
 refine zD 2 ?_
 cases abN:w.data.toList[p]? with
 |some x11=>
  refine jnA r10 0 abN (hK _ (zL abN)).1<|zD 14 ?_
  have Y1:=(hK _ (zL abN)).2
  refine zD 3<|jp (vs:=[.int .i32 (x11.toNat:Int)]) [] [] (fun aG hs hZ=>aDE)<|zD 1<|je (.bool ((!decide (kindOf (x11.toNat:Int)=1))==true)) rfl<|zD 1<|js 19 ((!decide (kindOf (x11.toNat:Int)=1))==true) (fun h1=>?_) (fun h1=>?_)
  ·
   exfalso;rw[Y1] at h1;cases h1
  refine zD 2<|bE bF (p+1) (by have:=(List.getElem?_eq_some_iff.1 abN).1;omega) (by have:=(List.getElem?_eq_some_iff.1 abN).1;omega) [0] (Sub.refl _)
 |none=>
  refine jnZ r10 0 abN<|zD 10<|zX (zI (-1)) ⟨rfl,rfl⟩
theorem aBZ{w:ByteArray}(hK:xS w):dr zT 264 [.string w,.func (.func 243) ⟨[]⟩ ⟨[]⟩] ro (zI (-1)):=by
 refine zE<|zD 8<|jp (vs:=[.string w,.func (.func 243) ⟨[]⟩ ⟨[]⟩,.bool true]) [] [] (fun aG hs hZ=>(aMn hK))<|zD 3<|zX (zI (-1)) ⟨rfl,rfl⟩
theorem aB1{w:ByteArray}(hK:xS w):dr zT 242 [.string w,.func (.func 243) ⟨[]⟩ ⟨[]⟩] ro (.bool false):=by
 refine zE<|zD 8<|jp (vs:=[.string w,.func (.func 243) ⟨[]⟩ ⟨[]⟩]) [] [] (fun aG hs hZ=>(aBZ hK))<|zD 4<|zX (.bool false) ⟨rfl,rfl⟩
theorem QT{w:ByteArray}(hK:xS w)(hn:w.size≤1000):dr zT 224 [.string w,zI lo,zI hi] ro (.bool (decide (lo≤w.size)&&decide ((w.size:Int)≤hi))):=by
 refine zE<|zD 11<|jj 5 [(0,.string w),(6,.bool false),(16,.bool ((decide (lo≤(w.size:Int)))&&(decide ((w.size:Int)≤hi))))] (fun gH=>?_) (fun hj=>?_)
 rotate_left
 refine js 11 (decide (lo≤(w.size:Int))) (fun h1=>?_) (fun h1=>?_)
 ·
  have fp:=h1
  replace fp:=of_decide_eq_true fp
  refine zD 5<|jw 16 (.bool ((decide (lo≤(w.size:Int)))&&(decide ((w.size:Int)≤hi)))) (w:= .bool (decide ((w.size:Int)≤hi))) (by rw[h1]<;>rfl) ?_
  exact zK hj
 ·
  have fp:=h1
  replace fp:=of_decide_eq_false fp
  refine zD 5<|jw 16 (.bool ((decide (lo≤(w.size:Int)))&&(decide ((w.size:Int)≤hi)))) (w:= .bool false) (by rw[h1]<;>rfl) ?_
  exact zK hj
 refine zD 1<|jj 4 [(6,.bool false),(21,.bool (((decide (lo≤(w.size:Int)))&&(decide ((w.size:Int)≤hi)))&&true))] (fun gH=>?_) (fun hj=>?_)
 rotate_left
 refine js 17 ((decide (lo≤(w.size:Int)))&&(decide ((w.size:Int)≤hi))) (fun h2=>?_) (fun h2=>?_)
 ·
  have k7:=h2
  try simp only[zB] at k7
  refine zD 1<|jp (vs:=[.string w,.func (.func 243) ⟨[]⟩ ⟨[]⟩]) [] [] (fun aG hs hZ=>(aB1 hK))<|zD 2<|jw 21 (.bool (((decide (lo≤(w.size:Int)))&&(decide ((w.size:Int)≤hi)))&&true)) (w:= .bool true) (by rw[h2]<;>rfl) ?_
  exact zK hj
 ·
  have k7:=h2
  try simp only[zB] at k7
  refine zD 4<|jw 21 (.bool (((decide (lo≤(w.size:Int)))&&(decide ((w.size:Int)≤hi)))&&true)) (w:= .bool false) (by rw[h2]<;>rfl) ?_
  exact zK hj
 refine zD 3<|zX (.bool (((decide (lo≤(w.size:Int)))&&(decide ((w.size:Int)≤hi)))&&true)) ⟨by simp_all,rfl⟩
theorem KE{w:ByteArray}(hK:xS w)(h1:lo≤w.size)(h2:(w.size:Int)≤hi)(h3:w.size≤1000):dr zT 224 [.string w,zI lo,zI hi] ro (.bool true):=by
 have:=QT (ro:=ro) hK h3 (lo:=lo) (hi:=hi)
 rw[decide_eq_true h1,decide_eq_true h2] at this
 exact this
theorem abg{v:Value}{rs:List bQ}(hv:bC ro v 2 iG rs)(hn:rs.length≤4)(hR:∀r∈rs,rF r):dr zT 203 [v] ro (zI 0):=by
 obtain⟨ML,qvb,qvo,BN,rfl,qvk,Qe,Qd⟩:=hv
 refine zE<|zD 11<|zJ 7 ((rs.length:Int)>4) (fun h1=>?_) fun h1=>?_
 ·
  exfalso;omega
 refine zD 10<|dB [1,1,0,1,0,0] [] (fun(zz:Nat)=>[(8,.slice ML rs.length BN),(9,zI (rs.length:Int)),(10,zI (zz:Int))]) (fun zz=>[]) (fun zz=>zz≤rs.length) (fun zz=>rs.length-zz) 0 (by omega) [] ?_
 rintro k hI K1 bF rest
 refine zD 5<|zJ 11 ((k:Int) <(rs.length:Int)) (fun h2=>?_) fun h2=>?_
 ·
  refine zD 6 ?_
  obtain⟨tD,qi⟩:=zG rs k
  refine gY BN 2 Qe qi<|jl 0 (Qd _ _ qi)<|jn fun b4=>jd 3 [0] ?_
  have hrp:=(hR _ (zL qi))
  have hrf:=hrp.f1
  have hrt:=hrp.t1
  refine jd 3 [0]<|jp (vs:=[.string tD.f,zI 1,zI 2]) [] [] (fun aG hs hZ=>(KE hrp.fl (by omega) (by omega) (by omega)))<|jd 4 [0]<|jp (vs:=[.string tD.t,zI 0,zI 2]) [] [] (fun aG hs hZ=>(KE hrp.tl (by omega) (by omega) (by omega)))<|jd 10 [0,0]<|js 30 (cR tD.f tD.t) (fun h3=>?_) (fun h3=>?_)
  ·
   exfalso;rw[hrp.ne] at h3;cases h3
  refine zD 3<|ja ((k:Int)+1) (by omega)<|zD 2<|bE bF (k+1) (by omega) (by omega) [] (Sub.refl _)
 refine zD 7<|zX (zI 0) ⟨rfl,rfl⟩
def u6:List Int→Int
 | []=>0
 |x::xs=>xs.foldl min x
def Ct:List Int→Int
 | []=>0
 |x::xs=>xs.foldl max x
theorem auT{xs:List Int}{x:Int}(h:xs[0]?=some x):u6 xs=(xs.drop 1).foldl min x:=by
 cases xs with
 |nil=>cases h
 |cons y l=>simp at h;subst h;rfl
theorem auU{xs:List Int}{x:Int}(h:xs[0]?=some x):Ct xs=(xs.drop 1).foldl max x:=by
 cases xs with
 |nil=>cases h
 |cons y l=>simp at h;subst h;rfl
def rR(l:List Int):Int:=(l.filter fun x=>decide (x>0)).length
theorem Kv{l:List Int}{x:Int}(h:l[k]?=some x):rR (l.take (k+1))=rR (l.take k)+if x>0 then 1 else 0:=by
 rw[dZ h,rR,List.filter_append,rR]
 by_cases hx:x>0<;>simp[hx]
structure aj where
 past:Int
 w0:Int
 w1:Int
 w2:Int
 w3:Int
 gone:Int
 new:Int
 af:Int
abbrev cQ(x:aj):List Value:=[zI x.past,zI x.w0,zI x.w1,zI x.w2,zI x.w3,zI x.gone,zI x.new,zI x.af]
def cB(g n m:Int)(x:aj):Bool:=decide (x.gone≤g)&&(decide (x.new≤n)&&decide (x.af≤m))
def hasB(f i:Int):Bool:=decide (Va .u8 (aT .u8 f i) 1=1)
theorem aMl{v:Value}{xs:List Int}(hl:bC ro v 1 cm xs)(hn:0 <xs.length∧xs.length≤1000000):dr zT 110 [v] ro (zI (u6 xs)):=by
 obtain⟨fw,rQ,rP,eL,rfl,tO,lM,mC⟩:=hl
 refine zE<|zD 11<|zJ 7 ((xs.length:Int) <1) (fun h1=>?_) fun h1=>?_
 ·
  exfalso;omega
 refine zD 5 ?_
 obtain⟨x10,rY⟩:=zG xs 0
 refine gY eL 1 lM rY<|jl 0 (mC _ _ rY)<|zD 8<|dB [1,1,1,0,1,0,0] [] (fun(zz:Nat×Int)=>[(0,.slice fw xs.length eL),(2,zI 0),(3,zI zz.2),(4,zI (zz.1:Int))]) (fun zz=>[]) (fun zz=>(1≤zz.1∧zz.1≤xs.length)∧u6 xs=(xs.drop zz.1).foldl min zz.2) (fun zz=>xs.length-zz.1) (⟨1,x10⟩) ⟨by dsimp only;omega,auT rY⟩ [] ?_
 rintro⟨k,m⟩ hI K1 bF rest
 dsimp only at hI
 refine zD 8<|zJ 15 ((k:Int) <(xs.length:Int)) (fun h2=>?_) fun h2=>?_
 ·
  refine zD 8 ?_
  obtain⟨vo,mG⟩:=zG xs k
  refine gY eL 1 lM mG<|jl 0 (mC _ _ mG)<|jmn (k:= .i64) (a:=m) (b:=vo)<|zD 4<|ja ((k:Int)+1) (by omega)<|zD 2<|bE bF (⟨k+1,(min m vo)⟩) ⟨by dsimp only;omega,by rw[hI.2,eB mG];rfl⟩ (by dsimp only;omega) [] (Sub.refl _)
 refine zD 8<|zX (zI m) ⟨by rw[hI.2,ep (by omega)];rfl,rfl⟩
theorem aMm{v:Value}{xs:List Int}(hl:bC ro v 1 cm xs)(hn:0 <xs.length∧xs.length≤1000000):dr zT 111 [v] ro (zI (Ct xs)):=by
 obtain⟨fw,rQ,rP,eL,rfl,tO,lM,mC⟩:=hl
 refine zE<|zD 11<|zJ 7 ((xs.length:Int) <1) (fun h1=>?_) fun h1=>?_
 ·
  exfalso;omega
 refine zD 5 ?_
 obtain⟨x10,rY⟩:=zG xs 0
 refine gY eL 1 lM rY<|jl 0 (mC _ _ rY)<|zD 8<|dB [1,1,1,0,1,0,0] [] (fun(zz:Nat×Int)=>[(0,.slice fw xs.length eL),(2,zI 0),(3,zI zz.2),(4,zI (zz.1:Int))]) (fun zz=>[]) (fun zz=>(1≤zz.1∧zz.1≤xs.length)∧Ct xs=(xs.drop zz.1).foldl max zz.2) (fun zz=>xs.length-zz.1) (⟨1,x10⟩) ⟨by dsimp only;omega,auU rY⟩ [] ?_
 rintro⟨k,m⟩ hI K1 bF rest
 dsimp only at hI
 refine zD 8<|zJ 15 ((k:Int) <(xs.length:Int)) (fun h2=>?_) fun h2=>?_
 ·
  refine zD 8 ?_
  obtain⟨vo,mG⟩:=zG xs k
  refine gY eL 1 lM mG<|jl 0 (mC _ _ mG)<|jmx (k:= .i64) (a:=m) (b:=vo)<|zD 4<|ja ((k:Int)+1) (by omega)<|zD 2<|bE bF (⟨k+1,(max m vo)⟩) ⟨by dsimp only;omega,by rw[hI.2,eB mG];rfl⟩ (by dsimp only;omega) [] (Sub.refl _)
 refine zD 8<|zX (zI m) ⟨by rw[hI.2,ep (by omega)];rfl,rfl⟩
theorem aq5{v:Value}{xs:List Int}(hl:bC ro v 1 cm xs)(hn:0 <xs.length∧xs.length≤1000000):dr zT 86 [v] ro (.agg ⟨[zI (u6 xs),zI (Ct xs)]⟩):=by
 obtain⟨fw,rQ,rP,eL,rfl,tO,lM,mC⟩:=hl
 refine zE<|zD 2<|jn fun b2=>zD 4<|jp (vs:=[.slice fw xs.length eL]) [] [] (fun aG hs hZ=>aMl ((show bC _ _ _ _ _ from ⟨fw,rQ,rP,eL,rfl,tO,lM,mC⟩).up hs) (by omega))<|zD 1<|jp (vs:=[.slice fw xs.length eL]) [] [] (fun aG hs hZ=>aMm ((show bC _ _ _ _ _ from ⟨fw,rQ,rP,eL,rfl,tO,lM,mC⟩).up hs) (by omega))<|jd 4 [0]<|zR (.agg ⟨[zI (u6 xs),zI (Ct xs)]⟩) [0] [] [] ⟨rfl,rfl⟩
theorem anI{x:aj}:dr zT 85 [.agg ⟨[zI x.past,zI x.w0,zI x.w1,zI x.w2,zI x.w3,zI x.gone,zI x.new,zI x.af]⟩] ro (.bool true):=by
 refine zE<|zD 2<|jn fun b1=>zD 7<|zX (.bool true) ⟨rfl,rfl⟩
theorem agI{f:Nat}{x:aj}{c2 c3 c4:Value}(hf:ro f=some (.cells ⟨[c0,c1,c2,c3,c4,c5,c6,c7,zI gone,zI new,zI af,c11,vt]⟩ 150 (0,0))):dr zT 77 [zP f,.agg ⟨[zI x.past,zI x.w0,zI x.w1,zI x.w2,zI x.w3,zI x.gone,zI x.new,zI x.af]⟩] ro (.bool (cB gone new af x)):=by
 refine zE<|zD 2<|jn fun b3=>jd 10 [0]<|jl (b:=f) (off:=0) (m:=13) (vs:=[c0,c1,c2,c3,c4,c5,c6,c7,zI gone,zI new,zI af,c11,vt]) 8 ⟨_,_,_,.inl hf,rfl⟩<|zD 2<|js 8 (decide (x.gone≤gone)) (fun h1=>?_) (fun h1=>?_)
 ·
  have fp:=h1
  replace fp:=of_decide_eq_true fp
  refine jd 6 [0]<|jl (b:=f) (off:=0) (m:=13) (vs:=[c0,c1,c2,c3,c4,c5,c6,c7,zI gone,zI new,zI af,c11,vt]) 9 ⟨_,_,_,.inl hf,rfl⟩<|zD 3<|js 18 (decide (x.new≤new)) (fun h2=>?_) (fun h2=>?_)
  ·
   have k7:=h2
   replace k7:=of_decide_eq_true k7
   refine jd 6 [0]<|jl (b:=f) (off:=0) (m:=13) (vs:=[c0,c1,c2,c3,c4,c5,c6,c7,zI gone,zI new,zI af,c11,vt]) 10 ⟨_,_,_,.inl hf,rfl⟩<|zD 5<|zX (.bool (decide (x.af≤af))) ⟨by simp_all[cB]<;>(intros;omega),rfl⟩
  have k7:=h2
  replace k7:=of_decide_eq_false k7
  refine zD 12<|zX (.bool false) ⟨by simp_all[cB]<;>(intros;omega),rfl⟩
 have fp:=h1
 replace fp:=of_decide_eq_false fp
 refine zD 22<|zX (.bool false) ⟨by simp_all[cB]<;>(intros;omega),rfl⟩
theorem avu{f i:Int}(hi:0≤i∧i≤8):dr zT 94 [.int .u8 f,zI i] ro (.bool (hasB f i)):=by
 refine zE<|zD 8<|jsr (k:= .u8) (k':= .i64) (a:=f) (b:=i) 105 (by omega)<|zD 5<|zX (.bool (decide ((Va .u8 (aT .u8 f i) 1)=1))) ⟨rfl,rfl⟩
theorem ave{p0 p1 p2 p3:Int}:dr zT 120 [.agg ⟨[zI p0,zI p1,zI p2,zI p3]⟩] ro (zI (rR [p0,p1,p2,p3])):=by
 refine zE<|zD 2<|jn fun b1=>jd 13 [0]<|dB [1,1,0,1,0,0] [] (fun(zz:Nat×Int)=>[(2,zI 0),(3,zI zz.2),(6,.agg ⟨[zI p0,zI p1,zI p2,zI p3]⟩),(7,zI (zz.1:Int))]) (fun zz=>[]) (fun zz=>zz.1≤4∧zz.2=rR ([p0,p1,p2,p3].take zz.1)∧(0≤zz.2∧zz.2≤zz.1)) (fun zz=>4-zz.1) (⟨0,0⟩) ⟨by omega,rfl,by omega⟩ [] ?_
 rintro⟨k,n⟩ hI K1 bF rest
 dsimp only at hI
 refine zD 5<|zJ 8 ((k:Int) <4) (fun h1=>?_) fun h1=>?_
 ·
  refine zD 6 ?_
  obtain⟨x9,hx9⟩:=zG ([p0,p1,p2,p3]:List Int) k (show k <4 from by omega)
  refine jai (l:=[zI p0,zI p1,zI p2,zI p3]) (k:Int) 4 1 false (by omega) (v:= zI x9) (show nth _ (k*1)=_ by rw[Nat.mul_one];exact aNX hx9) ?_
  refine zD 7<|zJ 11 (x9>0) (fun h2=>?_) fun h2=>?_
  ·
   refine zD 3<|ja (n+1) (by omega)<|zD 3<|ja ((k:Int)+1) (by omega)<|zD 2<|bE bF (⟨k+1,(n+1)⟩) ⟨by dsimp only;omega,by rw[Kv hx9,if_pos (by assumption),hI.2.1],by dsimp only;omega⟩ (by dsimp only;omega) [] (Sub.refl _)
  refine zD 3<|ja ((k:Int)+1) (by omega)<|zD 2<|bE bF (⟨k+1,n⟩) ⟨by dsimp only;omega,by rw[Kv hx9,if_neg (by assumption),hI.2.1,Int.add_zero],by dsimp only;omega⟩ (by dsimp only;omega) [] (Sub.refl _)
 refine zD 8<|zX (zI n) ⟨by rw[hI.2.1,show k=4 by omega];rfl,rfl⟩
theorem rh{xs:List α}{a:Option Addr}{o:Nat}(h:∀k,k <xs.length→a=some ⟨b,o,none⟩)(hn:a.isNone=true):xs=[]:=by
 cases xs with
 |nil=>rfl
 |cons x l=>rw[h 0 (by simp)] at hn;cases hn
theorem atF{v:Value}(hl:bC ro v 1 pM xs)(hn:xs.length≤1000):dE zT 247 [v] ro [] (fun r Y=>∃L,aw r 1 9 pM xs L∧Y=L):=by
 obtain⟨fw,rQ,rP,eL,rfl,tO,lM,mC⟩:=hl
 refine zE<|zD 8<|jsn 99 (a:=fw) (l:=xs.length) (c:=eL)<|zD 1<|js 4 (fw.isNone) (fun h1=>?_) (fun h1=>?_)
 ·
  refine zD 6<|zX (zS) ⟨[],by rw[rh lM (by assumption)];exact aw.nil _ _ _,rfl⟩
 refine zD 4<|jn fun b5=>zD 1<|iE (sz:=1) (ps:=[]) (qs:=xs) (enc:=pM) (w:= .slice fw xs.length eL) [0] [] [] (bB (b:=b5) (T:=9)) (fun s he _=>⟨fw,rQ,rP,eL,rfl,lM,fun i p hp=>(mC i p hp).ext he⟩) (fun p _=>ai rfl) (by simp<;>omega) (fun v7 L7 iF=>?_)
 rw[List.nil_append] at iF
 obtain⟨OU,OT,NM⟩:=iF.form
 subst NM
 refine zD 3<|zR ((.slice OU (xs).length OT)) [] [0] L7 ⟨_,iF,rfl⟩
theorem aOl{f:Nat}{c2 c3 c4:Value}(hx:bC ro c11 3 m8 fs)(hf:ro f=some (.cells ⟨[c0,c1,c2,c3,c4,c5,c6,c7,zI gone,zI new,zI af,c11,vt]⟩ 150 (0,0)))(hn:fs.length≤7):dr zT 42 [zP f] ro (.int .u8 (IntKind.u8.wrap (dv .u8 1 (fs.length:Int)-1))):=by
 obtain⟨qxa,qxb,qxo,qxc,rfl,qxk,qxh,qxl⟩:=hx
 refine zE<|zD 10<|jl (b:=f) (off:=0) (m:=13) (vs:=[c0,c1,c2,c3,c4,c5,c6,c7,zI gone,zI new,zI af,.slice qxa fs.length qxc,vt]) 11 ⟨_,_,_,.inl hf,rfl⟩<|zD 1<|jsh (k:= .u8) (k':= .i64) (a:=1) (b:=(fs.length:Int)) 105 (by omega)<|zD 4<|zX (.int .u8 (IntKind.u8.wrap ((dv .u8 1 (fs.length:Int))-1))) ⟨rfl,rfl⟩
theorem yb{r:Value}{A B:Prop}(h:(r= .bool true∧A)∨(r= .bool false∧B)):∃c,r= .bool c∧(c=true→A)∧(c=false→B):=by
 rcases h with ⟨rfl,h⟩| ⟨rfl,h⟩
 ·exact⟨true,rfl,fun _=>h,nofun⟩
 exact⟨false,rfl,nofun,fun _=>h⟩
def uF(w f t:ByteArray)(i:Nat):ByteArray:=w.extract 0 (i:Int).toNat++t++w.extract ((i:Int)+(f.size:Int)).toNat w.size
def p9(w f t:ByteArray)(i:Nat):Option ByteArray:=if sR (w.extract i w.size) f=true∧1≤(uF w f t i).size∧(uF w f t i).size≤12 then some (uF w f t i) else none
def u2(w f t:ByteArray)(k:Nat):List ByteArray:=(List.range k).filterMap (p9 w f t)
def Dz(w f t:ByteArray):List ByteArray:=u2 w f t (w.size+1)
theorem B9(w f t:ByteArray)(k:Nat):u2 w f t (k+1)=u2 w f t k++(p9 w f t k).toList:=by
 rw[u2,u2,List.range_succ,List.filterMap_append]
 cases h:p9 w f t k<;>simp[h]
theorem aeI(w f t:ByteArray){n:Nat}(h:k≤n):∃l,u2 w f t n=u2 w f t k++l:=by
 induction n with
 |zero=>exact⟨[],by rw[show k=0 by omega];simp⟩
 |succ n ih=>
  by_cases hk:k=n+1
  ·exact⟨[],by rw[hk];simp⟩
  obtain⟨l,hl⟩:=ih (by omega)
  exact⟨l++(p9 w f t n).toList,by rw[B9,hl,List.append_assoc]⟩
theorem Qa{w x:ByteArray}{n:Nat}(hk:k <n)(h:p9 w f t k=some x):(u2 w f t n)[(u2 w f t k).length]?=some x∧(u2 w f t (k+1)).length=(u2 w f t k).length+1:=by
 obtain⟨l,hl⟩:=aeI w f t (k:=k+1) (n:=n) hk
 rw[hl,B9,h]
 constructor
 ·rw[List.append_assoc,List.getElem?_append_right (Nat.le_refl _)];simp
 simp
theorem XI{w:ByteArray}(h:p9 w f t k=none):(u2 w f t (k+1)).length=(u2 w f t k).length:=by
 rw[B9,h];simp
abbrev ar8(l:List ByteArray):(Nat→Option Obj)→Nat→List Value→Cells→Prop:=fun _ k vs LL=>∃x,l[k]?=some x∧vs=[.string x]∧LL=[]
theorem xS.ext{w:ByteArray}(h:xS w)(i j:Nat):xS (w.extract i j):=by
 intro b hb
 refine h b ?_
 have:(w.extract i j).data.toList=(w.data.extract i j).toList:=by simp[ByteArray.data_extract]
 rw[this,Array.toList_extract] at hb
 simp only[List.extract_eq_drop_take] at hb
 exact List.mem_of_mem_drop (List.mem_of_mem_take hb)
theorem xS.app{v w:ByteArray}(h:xS v)(k:xS w):xS (v++w):=by
 intro b hb
 have:(v++w).data.toList=v.data.toList++w.data.toList:=by simp[ByteArray.data_append]
 rw[this] at hb
 exact(List.mem_append.1 hb).elim (h b) (k b)
theorem J7{w:ByteArray}(hw:xS w)(ht:xS t):xS (uF w f t i):=((hw.ext _ _).app ht).app (hw.ext _ _)
theorem afb{a b:ByteArray}(h:sR a b=true):b.size≤a.size:=by
 unfold sR at h
 simp only[Bool.and_eq_true,decide_eq_true_eq] at h
 omega
def agj(w:ByteArray):Bool:=decide ((1:Int)≤w.size)&&decide ((w.size:Int)≤12)
theorem Uw{w:ByteArray}(h:sR (w.extract (k:Int).toNat w.size) f=false):p9 w f t k=none:=if_neg fun x=>by
 have h1:sR (w.extract k w.size) f=false:=h
 rw[h1] at x;cases x.1
theorem aaL{w:ByteArray}(h:agj (uF w f t k)=false):p9 w f t k=none:=if_neg fun x=>by
 simp only[agj,Bool.and_eq_false_iff,decide_eq_false_iff_not] at h
 omega
theorem Uv{w:ByteArray}(h:sR (w.extract (k:Int).toNat w.size) f=true)(h2:agj (uF w f t k)=true):p9 w f t k=some (uF w f t k):=if_pos ⟨h,by
 simp only[agj,Bool.and_eq_true,decide_eq_true_eq] at h2
 omega⟩
theorem Uu{w:ByteArray}(h:w.size≤100∧f.size≤100∧t.size≤100):(uF w f t k).size≤1000:=by
 simp only[uF,ByteArray.size_append,ByteArray.size_extract];omega
theorem amu{w:ByteArray}(hk:k≤w.size)(h:p9 w f t k=some (uF w f t k)):(u2 w f t k).length <(Dz w f t).length∧(Dz w f t)[(u2 w f t k).length]?=some (uF w f t k):=by
 have:=(Qa (n:=w.size+1) (by omega) h).1
 exact⟨(List.getElem?_eq_some_iff.1 this).1,this⟩
theorem Wm(w:ByteArray)(a b:Nat):(w.extract a b).size≤w.size:=by simp;omega
theorem ajz(w:ByteArray)(i:Nat)(h:i≤w.size):(w.extract i w.size).size=w.size-i:=by simp
theorem am9{w:ByteArray}{b1 b2 b3:Nat}(g1:ro b1=some (.cells ⟨[.string w]⟩ 299 (0,0)))(g2:ro b2=some (.cells ⟨[.string f]⟩ 9 (0,0)))(g3:ro b3=some (.cells ⟨[.string t]⟩ 9 (0,0)))(hw:xS w)(ht:xS t)(hn:w.size≤100∧f.size≤100∧t.size≤100):ItX zT 289 [] [zP b1,zP b2,zP b3] ro [] (Dz w f t).length (ar8 (Dz w f t)) (fun Z=>Z=[]):=by
 intro bl aG Inv Stop hs hy B hB
 replace g1:=hs _ _ g1
 replace g2:=hs _ _ g2
 replace g3:=hs _ _ g3
 refine zC [.l B]<|zD 2<|jl (b:=b1) (off:=0) (m:=1) (vs:=[.string w]) 0 ⟨_,_,_,.inl g1,rfl⟩<|zD 1<|ja ((w.size:Int)+1) (by omega)<|zD 3<|dB [1,0,0] [] (fun(zz:Nat×Cells)=>[(0,(.func (.yield bl) #[] #[])),(1,zP b1),(2,zP b2),(3,zP b3),(9,zI ((w.size:Int)+1)),(10,zI (zz.1:Int))]) (fun zz=>[.l zz.2]) (fun zz=>zz.1≤w.size+1∧Inv (u2 w f t zz.1).length zz.2) (fun zz=>w.size+1-zz.1) (⟨0,B⟩) ⟨by dsimp only;omega,hB⟩ [0] ?_
 rintro⟨k,B⟩ hI K1 bF rest
 dsimp only at hI
 refine zD 5<|zJ 11 ((k:Int) <((w.size:Int)+1)) (fun h1=>?_) fun h1=>?_
 ·
  refine zD 11 ?_
  have uO:=Wm w (k:Int).toNat w.size
  refine zD 1<|jl (b:=b1) (off:=0) (m:=1) (vs:=[.string w]) 0 ⟨_,_,_,.inl g1,rfl⟩<|zD 1<|jtL (b:=w) (lo:=(k:Int)) (by omega)<|jl (b:=b2) (off:=0) (m:=1) (vs:=[.string f]) 0 ⟨_,_,_,.inl g2,rfl⟩<|jp (vs:=[.string (w.extract (k:Int).toNat w.size),.string f]) [] [] (fun aG hs hZ=>(abT (by omega)))<|zD 2<|js 18 (!(sR (w.extract (k:Int).toNat w.size) f)) (fun h2=>?_) (fun h2=>?_)
  ·
   try simp only[zB] at h2
   refine zD 3<|ja ((k:Int)+1) (by omega)<|zD 2<|bE bF (⟨k+1,B⟩) ⟨by dsimp only;omega,by dsimp only;rw[XI (Uw (by assumption))];exact hI.2⟩ (by dsimp only;omega) [0] (Sub.refl _)
  try simp only[zB] at h2
  refine zD 3 ?_
  have I4:=Wm w 0 (k:Int).toNat
  have he3:=Wm w ((k:Int)+(f.size:Int)).toNat w.size
  have he4:(w.extract 0 (k:Int).toNat++t).size=_:=ByteArray.size_append
  have hpr:sR (w.extract (k:Int).toNat w.size) f=true:=by assumption
  have Tv:=afb hpr
  rw[ajz _ _ (by omega)] at Tv
  refine zD 1<|jl (b:=b1) (off:=0) (m:=1) (vs:=[.string w]) 0 ⟨_,_,_,.inl g1,rfl⟩<|zD 1<|jtH (b:=w) (hi:=(k:Int)) (by omega)<|jl (b:=b3) (off:=0) (m:=1) (vs:=[.string t]) 0 ⟨_,_,_,.inl g3,rfl⟩<|jsa (a:=(w.extract 0 (k:Int).toNat)) (b:=t) 299 (by omega)<|jl (b:=b1) (off:=0) (m:=1) (vs:=[.string w]) 0 ⟨_,_,_,.inl g1,rfl⟩<|zD 1<|jl (b:=b2) (off:=0) (m:=1) (vs:=[.string f]) 0 ⟨_,_,_,.inl g2,rfl⟩<|zD 1<|ja ((k:Int)+(f.size:Int)) (by omega)<|jtL (b:=w) (lo:=((k:Int)+(f.size:Int))) (by omega)<|jsa (a:=((w.extract 0 (k:Int).toNat)++t)) (b:=(w.extract ((k:Int)+(f.size:Int)).toNat w.size)) 299 (by omega)<|zD 5<|jp (vs:=[.string (((w.extract 0 (k:Int).toNat)++t)++(w.extract ((k:Int)+(f.size:Int)).toNat w.size)),zI 1,zI 12]) [] [] (fun aG hs hZ=>(QT (J7 (i:=k) hw ht) (Uu hn)))<|zD 1<|js 33 (agj (uF w f t k)) (fun h3=>?_) (fun h3=>?_)
  ·
   have hry:=Uv (t:=t) hpr (by assumption)
   have Tu:=amu (by omega) hry
   refine zD 2<|jyc [0] (hy (u2 w f t k).length _ [] B aG Tu.1 ⟨_,Tu.2,rfl,rfl⟩ hI.2 (Sub.refl _)) (Sub.refl _) ?_
   intro v4 Y4 hy4
   obtain⟨c4,rfl,hc4,hd4⟩:=yb hy4
   refine zD 3<|js 38 (!c4) (fun h5=>?_) (fun h5=>?_)
   ·
    try simp only[zB] at h5
    refine zD 2<|zR (.tuple ⟨[]⟩) [] [0] Y4 ⟨[],Y4,rfl,rfl,.inr (hd4 (by simp_all))⟩
   try simp only[zB] at h5
   refine zD 3<|ja ((k:Int)+1) (by omega)<|zD 2<|bE bF (⟨k+1,Y4⟩) ⟨by dsimp only;omega,by dsimp only;rw[(Qa (n:=k+1) (by omega) hry).2];exact hc4 (by assumption)⟩ (by dsimp only;omega) [0] (Sub.refl _)
  refine zD 9<|ja ((k:Int)+1) (by omega)<|zD 2<|bE bF (⟨k+1,B⟩) ⟨by dsimp only;omega,by dsimp only;rw[XI (aaL (by assumption))];exact hI.2⟩ (by dsimp only;omega) [0] (Sub.refl _)
 refine zD 2<|zR (.tuple ⟨[]⟩) [] [0] B ⟨[],B,rfl,rfl,.inl (by have:=hI.2;rwa[show k=w.size+1 by omega] at this)⟩
end Go.L
