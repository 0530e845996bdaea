/- Part 4 of the proof. -/
import Derived.Test.YthegconjacjohaaGreatDoorL3
set_option maxRecDepth 100000
set_option linter.all false
namespace Go.L
open Go Go.Conc Go.Proofs
variable {ro aF:Nat→Option Obj} {hd:List cF} {rs:List dq} {cs:List cm} {K:aE} {b k i b1 b2 bL bl many bt br bg b3 j bm b4 sz bf bo:Nat} {p:Nat→Int} {l:List Value} {f t x na nb:ByteArray} {vl vc vh vp c11 vd c0 c1 c5 c6 c7 vt:Value} {xs:List Int} {α:Type} {ys:List ByteArray} {Stop:Cells→Prop} {fs:List eY} {n r h af gone new lo hi:Int} {T:TypeId} {y:aI}
set_option maxHeartbeats 2000000 in
theorem aZh {d:Nat} {X:Cells} {np nf:Int} (hN:Dn ro vd xs) (hD:bQ vd xs d X) (hnp:0≤np∧np≤4) (hnf:0≤nf∧nf≤4):FnG zT 6 [zP d,zI np,zI nf] ro X (fun r aJ Y=>∃(K:aE) (l:List Value),r= .agg ⟨l⟩∧Uc K∧(K.facts.length:Int)≤nf∧fO aJ l K∧bQ vd xs d Y):=by
 refine aFO (hm:=av) [.l X] [] bp<|zD 2<|jn fun b6=>zD 4<|jc [1] (aqd hN hD) ?_
 rintro _ _ ⟨lu,kH,WO,amY,bgg,Z18,X18,rfl,Iv,Ei,aXo,rfl,S6⟩
 refine jg 0 [.l Z18,.l X18]<|jf [0] Z18 (fun ya cu iX=>?_)
 have py:=aXo _ iX
 obtain⟨hc,hh,dk⟩:=id py
 obtain⟨dF,Ak,Aj,dB,rfl,CQ,yP,yO⟩:=hc
 obtain⟨di,uQ,uP,cP,rfl,wF,pM,pK⟩:=hh
 refine zD 2<|jn fun b21=>zD 2<|jn fun Nt=>jn fun oI=>zD 3<|jn fun b7=>jd 5 [0]<|jf [1,2,3] ((oI,.cells ⟨[.slice (some ⟨b21,0,none⟩) 2 2,.slice (some ⟨Nt,0,none⟩) 2 2]⟩ 82 (0,0))::((Nt,.cells ⟨[zI 1,zI 0,zI 3,zI 0]⟩ 81 (0,0))::[(b21,.cells ⟨[zI 1,zI 0,zI 2,zI 0]⟩ 81 (0,0))])) (fun ro6 kX Z6=>?_)
 have aXp:=Va (Z6 _ (.tail _ (.tail _ (.head _)))) (Z6 _ (.tail _ (.head _))) (Z6 _ (.head _))
 refine zD 1<|jc (vs:=[zP d,zI 2]) [1] (uk (hN.up (cu.trans kX)) S6 (by omega)) ?_
 rintro _ X30 ⟨w30,rfl,aJJ⟩
 refine zD 1<|GD [1,1,1] [] (fun(zz:Value×Cells×(List (List aO))×Cells)=>[(0,zP d),(1,zI np),(2,zI nf),(6,zP b6),(7,zP b7)]) (fun(zz:Value×Cells×(List (List aO))×Cells)=>[.l zz.2.1,.l zz.2.2.2,.b b7 (.cells ⟨[.slice (some ⟨oI,0,none⟩) 2 2,zz.1,zS,.slice dF lu.length dB,.slice di kH.length cP,zS,zS,zS,zI 0,zI 0,zI 0,zS]⟩ 38 (0,0)),.b b6 (.cells ⟨zO⟩ 38 (0,0))]) (fun(zz:Value×Cells×(List (List aO))×Cells)=>(∀k7,Knows k7 zz.2.1→oz k7 zz.1 zz.2.2.1)∧(zz.2.2.1.length≤1∧∀l∈zz.2.2.1,(1≤l.length∧l.length≤2)∧∀c∈l,gv c)∧bQ vd xs d zz.2.2.2) ?_ (fun K1 bP=>?_)
 ·
  rintro⟨vT,LT,ways,X⟩ UB rest
  dsimp only at UB
  refine zD 2<|jf [0] LT (fun ro9 px hk8=>?_)
  have aIr:=UB.1 _ hk8
  obtain⟨UJ,ht,_⟩:=id aIr
  obtain⟨fx,BA,By,ez,rfl,Bz,tx,tw⟩:=ht
  refine zD 1<|jc (vs:=[zP d,zI 2]) [0] (azK (hN.up ((cu.trans kX).trans px)) UB.2.2 (by decide)) ?_
  rintro v60 _ ⟨N9,L60,X60,OX,bki,aie,rfl,aYk⟩
  refine jg 0 [.l L60,.l X60]<|zD 8<|my<|dH [1,1,1,1,0,1,0,0] [] (fun(zz:Nat×Value×Cells×(List dq))=>[(0,zP d),(1,zI np),(2,zI nf),(6,zP b6),(7,zP b7),(8,v60),(9,zI (zz.1:Int))]) (fun zz=>[.l zz.2.2.1,.l X60,.b b7 (.cells ⟨[.slice (some ⟨oI,0,none⟩) 2 2,.slice fx UJ.length ez,zS,.slice dF lu.length dB,.slice di kH.length cP,zz.2.1,zS,zS,zI 0,zI 0,zI 0,zS]⟩ 38 (0,0)),.l L60,.b b6 (.cells ⟨zO⟩ 38 (0,0))]) (fun zz=>(zz.1≤N9.length∧zz.2.2.2.length≤zz.1)∧aA zz.2.1 2 92 lE zz.2.2.2 zz.2.2.1∧∀r∈zz.2.2.2,JB r) (fun zz=>N9.length-zz.1) (⟨0,zS,[],[]⟩) ⟨by simp,aA.nil _ _ _,(fun _ h=>by cases h)⟩ [0,2,3,1,4] ?_
  rintro⟨i,vR,LR,rs⟩ hR K2 lL rest
  dsimp only at hR
  refine zD 5<|FP OX<|zD 2<|zJ 64 ((i:Int) <(N9.length:Int)) (fun Bb=>?_) fun Bb=>?_
  ·
   refine zD 8 ?_
   obtain⟨UG,ack⟩:=zG N9 i
   refine Un 2 OX ack fun b69 ayE=>zD 1<|n7 0 [3] L60 (fun s _ hZ=>cB OX ayE hZ ack)<|zD 2 ?_
   obtain⟨x74,aF6⟩:=zG N9 i
   refine Un 2 OX aF6 fun b74 aWM=>zD 1<|n7 1 [3] L60 (fun s _ hZ=>cB OX aWM hZ aF6)<|zD 2<|js 77 (!(c8 UG.f x74.t)) (fun h11=>?_) (fun h11=>?_)
   ·
    try simp only[zB] at h11
    refine jd 6 [2] ?_
    obtain⟨Lh,Wj⟩:=zG N9 i
    refine Un 2 OX Wj fun b82 aWJ=>n7 0 [3] L60 (fun s _ hZ=>cB OX aWJ hZ Wj)<|aP 6 fun tA tH q5=>jn fun b84=>dW q5 (zN 1 5)<|aP 7 fun sR sX qZ=>cH lE b84 (⟨Lh.f,Lh.t⟩:dq) 1 0 hR.2.1 rfl rfl (by omega) fun aPx aPa L85 axh=>eW qZ []<|zD 1<|aP 9 fun Bg Br B7=>jd 1 [3]<|eB B7<|zD 3<|zW ((i:Int)+1)<|zD 2<|zY lL (⟨i+1,(.slice aPx ((rs++[(⟨Lh.f,Lh.t⟩:dq)])).length aPa),L85,(rs++[(⟨Lh.f,Lh.t⟩:dq)])⟩) ⟨by simp only[zM];omega,axh,rF hR.2.2 (aie _ (zL Wj))⟩ [0,2,3,4,5]
   try simp only[zB] at h11
   refine zD 4<|zW ((i:Int)+1)<|zD 2<|zF lL (⟨i+1,vR,LR,rs⟩) hR.2 [0,1,2,3,4]
  refine zD 4<|jf [0] LR (fun bgW jz aVH=>?_)
  have hRU:=hR.2.1.jR aVH
  refine jd 3 [1]<|jn fun pX=>jd 7 [0]<|jc (vs:=[zP d,zI np]) [1] (Gd (hN.up (((cu.trans kX).trans px).trans jz)) aYk (by omega)) ?_
  rintro _ X92 ⟨w92,rfl,bje,bi6,aYf⟩
  refine zD 3<|my<|dH [1,1,1,1,1,1,0,1,0,0] [] (fun(zz:Int×Value×Cells×(List aI)×Cells)=>[(0,zP d),(1,zI np),(2,zI nf),(6,zP b6),(7,zP b7),(10,zP pX),(11,zI zz.1)]) (fun zz=>[.l zz.2.2.1,.l zz.2.2.2.2,.b pX (.cells ⟨[zI 2,zI 0,zI 0,.slice dF lu.length dB,.slice di kH.length cP,zS,zS]⟩ 94 (0,0)),.b b7 (.cells ⟨[.slice (some ⟨oI,0,none⟩) 2 2,.slice fx UJ.length ez,zS,.slice dF lu.length dB,.slice di kH.length cP,vR,zz.2.1,zS,zI 0,zI 0,zI 0,zS]⟩ 38 (0,0)),.b b6 (.cells ⟨zO⟩ 38 (0,0))]) (fun zz=>(0≤zz.1∧zz.2.2.2.1.length+zz.1≤4)∧aA zz.2.1 5 76 fX zz.2.2.2.1 zz.2.2.1∧(∀p∈zz.2.2.2.1,alC WO p)∧bQ vd xs d zz.2.2.2.2) (fun zz=>zz.1.toNat) (⟨w92,zS,[],[],X92⟩) ⟨by simp only[List.length_nil];omega,aA.nil _ _ _,(fun _ h=>by cases h),aYf⟩ [0,1,2,3,5] ?_
  rintro⟨j,vB,LB,wD,X⟩ hB K6 hK6 rest
  dsimp only at hB
  refine zD 6<|zJ 94 (j>0) (fun KP=>?_) fun KP=>?_
  ·
   refine zD 5<|GD [1,1,1,1,1,1,0,1,0,0,1,0,0,1] [K6] (fun(zz:Nat×aI×Cells)=>[(0,zP d),(1,zI np),(2,zI nf),(6,zP b6),(7,zP b7),(10,zP pX),(11,zI j),(12,zP zz.1)]) (fun zz=>[.b zz.1 (.cells ⟨[.string zz.2.1.name,zI zz.2.1.st,zI zz.2.1.no,zI zz.2.1.head,.bool zz.2.1.bold]⟩ 76 (0,0)),.l LB,.l zz.2.2,.b pX (.cells ⟨[zI 2,zI 0,zI 0,.slice dF lu.length dB,.slice di kH.length cP,zS,zS]⟩ 94 (0,0)),.b b7 (.cells ⟨[.slice (some ⟨oI,0,none⟩) 2 2,.slice fx UJ.length ez,zS,.slice dF lu.length dB,.slice di kH.length cP,vR,vB,zS,zI 0,zI 0,zI 0,zS]⟩ 38 (0,0)),.b b6 (.cells ⟨zO⟩ 38 (0,0))]) (fun zz=>(PY zz.2.1.name∧oB WO zz.2.1.head∧(0≤zz.2.1.st∧zz.2.1.st≤1))∧bQ vd xs d zz.2.2) ?_ (fun K7 hK7=>?_)
   ·
    rintro⟨xS,pp,X⟩ ajD rest
    dsimp only at ajD
    refine zD 3<|jc (vs:=[zP d,zI 1,zI 2]) [2] (Cn (hN.up (((cu.trans kX).trans px).trans jz)) ajD.2 (by omega) (by omega)) ?_
    rintro _ bae ⟨aO7,rfl,bdN,bdD,asM⟩
    refine jd 10 [1,1]<|GD [1,1,1,1,1,1,0,1,0,0,1,0,0,1,1,1] [K6] (fun(zz:Int×Cells)=>[(0,zP d),(1,zI np),(2,zI nf),(6,zP b6),(7,zP b7),(10,zP pX),(11,zI j),(12,zP xS)]) (fun zz=>[.b xS (.cells ⟨[.string pp.name,zI pp.st,zI zz.1,zI pp.head,.bool pp.bold]⟩ 76 (0,0)),.l LB,.l zz.2,.b pX (.cells ⟨[zI 2,zI 0,zI 0,.slice dF lu.length dB,.slice di kH.length cP,zS,zS]⟩ 94 (0,0)),.b b7 (.cells ⟨[.slice (some ⟨oI,0,none⟩) 2 2,.slice fx UJ.length ez,zS,.slice dF lu.length dB,.slice di kH.length cP,vR,vB,zS,zI 0,zI 0,zI 0,zS]⟩ 38 (0,0)),.b b6 (.cells ⟨zO⟩ 38 (0,0))]) (fun zz=>((pp.st=0→zz.1=1∨zz.1=2)∧(pp.st=1→zz.1=1∨zz.1=3))∧bQ vd xs d zz.2) ?_ (fun K8 hK8=>?_)
    ·
     rintro⟨q,X⟩ apN rest
     dsimp only at apN
     refine jd 7 [0]<|GD [1,1,1,1,1,1,0,1,0,0,1,0,0,1,1,1,1,0,1] [K6] (fun(zz:Bool×Cells)=>[(0,zP d),(1,zI np),(2,zI nf),(6,zP b6),(7,zP b7),(10,zP pX),(11,zI j),(12,zP xS),(120,.bool zz.1)]) (fun zz=>[.b xS (.cells ⟨[.string pp.name,zI pp.st,zI q,zI pp.head,.bool false]⟩ 76 (0,0)),.l LB,.l zz.2,.b pX (.cells ⟨[zI 2,zI 0,zI 0,.slice dF lu.length dB,.slice di kH.length cP,zS,zS]⟩ 94 (0,0)),.b b7 (.cells ⟨[.slice (some ⟨oI,0,none⟩) 2 2,.slice fx UJ.length ez,zS,.slice dF lu.length dB,.slice di kH.length cP,vR,vB,zS,zI 0,zI 0,zI 0,zS]⟩ 38 (0,0)),.b b6 (.cells ⟨zO⟩ 38 (0,0))]) (fun zz=>(zz.1=true→0 <wD.length)∧bQ vd xs d zz.2) ?_ (fun K9 hK9=>?_)
     ·
      rintro⟨g,X⟩ ajC rest
      dsimp only at ajC
      refine GD [1,1,1,1,1,1,0,1,0,0,1,0,0,1,1,1,1,1] [K6] (fun(zz:aI×Cells)=>[(0,zP d),(1,zI np),(2,zI nf),(6,zP b6),(7,zP b7),(10,zP pX),(11,zI j),(12,zP xS)]) (fun zz=>[.b xS (.cells ⟨[.string zz.1.name,zI zz.1.st,zI zz.1.no,zI zz.1.head,.bool zz.1.bold]⟩ 76 (0,0)),.l LB,.l zz.2,.b pX (.cells ⟨[zI 2,zI 0,zI 0,.slice dF lu.length dB,.slice di kH.length cP,zS,zS]⟩ 94 (0,0)),.b b7 (.cells ⟨[.slice (some ⟨oI,0,none⟩) 2 2,.slice fx UJ.length ez,zS,.slice dF lu.length dB,.slice di kH.length cP,vR,vB,zS,zI 0,zI 0,zI 0,zS]⟩ 38 (0,0)),.b b6 (.cells ⟨zO⟩ 38 (0,0))]) (fun zz=>alC WO zz.1∧bQ vd xs d zz.2) ?_ (fun K10 apL=>?_)
      ·
       rintro⟨p2,X⟩ azb rest
       dsimp only at azb
       refine jd 4 [4,0]<|jn fun aZL=>cH fX aZL (⟨p2.name,p2.st,p2.no,p2.head,p2.bold⟩:aI) 2 0 hB.2.1 rfl rfl (by omega) fun aCi aB4 baC ao8=>jd 5 [5]<|zW (j-1)<|zD 2<|zY hK6 (⟨j-1,(.slice aCi ((wD++[(⟨p2.name,p2.st,p2.no,p2.head,p2.bold⟩:aI)])).length aB4),baC,(wD++[(⟨p2.name,p2.st,p2.no,p2.head,p2.bold⟩:aI)]),X⟩) ⟨by simp only[zM];omega,ao8,rF hB.2.2.1 azb.1,azb.2⟩ [0,3,4,5,6]
      refine js 120 g (fun M1=>?_) (fun M1=>?_)
      ·
       subst M1
       refine jd 7 [4,4]<|FP hB.2.1<|zW ((wD.length:Int)-1)<|aP 7 fun Lf Lx Ej=>jc (vs:=[zP d,zI ((wD.length:Int)-1)]) [2] (Gd (hN.up (((cu.trans kX).trans px).trans jz)) ajC.2 (by omega)) ?_
       rintro _ baa ⟨aes,rfl,bdM,ahV,aJW⟩
       refine eW Ej [[4],[4]] ?_
       obtain⟨aON,ahU⟩:=zG wD (aes.toNat) (by have:=ajC.1 rfl;omega)
       refine qg aes 5 hB.2.1 ahU (Int.toNat_of_nonneg (show 0≤aes∧aes <((wD).length:Int) from (by have:=ajC.1 rfl;omega)).1).symm (fun bmf aIg=>?_)
       refine n7 0 [2] LB (fun s _ hZ=>cB hB.2.1 aIg hZ ahU)<|aP 10 fun Le Lu AO=>jd 1 [1]<|eB AO<|zD 1<|bF apL ⟨aON,baa⟩ ⟨hB.2.2.1 _ (zL ahU),aJW⟩ Nat.zero_lt_one [1,2,0,3,4,5] (Sub.refl _)
      subst M1
      refine zD 2<|bF apL ⟨⟨pp.name,pp.st,q,pp.head,false⟩,X⟩ ⟨⟨⟨ajD.1.1,ajD.1.2.1,ajD.1.2.2,rfl⟩,apN.1⟩,ajC.2⟩ Nat.zero_lt_one (zN 0 6) (Sub.refl _)
     refine jd 3 [4]<|FP hB.2.1<|zD 2<|js 117 (decide ((wD.length:Int)>0)) (fun GP=>?_) (fun GP=>?_)
     ·
      have IB:=GP
      replace IB:=of_decide_eq_true IB
      refine zD 1<|jc (vs:=[zP d,zI 5]) [2] (uk (hN.up (((cu.trans kX).trans px).trans jz)) apN.2 (by omega)) ?_
      rintro _ bab ⟨aO4,rfl,aJX⟩
      refine zD 2<|bF hK9 ⟨aO4,bab⟩ ⟨fun _=>by omega,aJX⟩ Nat.zero_lt_one [1,2,0,3,4,5] (Sub.refl _)
     have IB:=GP
     replace IB:=of_decide_eq_false IB
     refine zD 4<|bF hK9 ⟨false,X⟩ ⟨(fun h=>by cases h),apN.2⟩ Nat.zero_lt_one (zN 0 6) (Sub.refl _)
    refine zJ 107 (pp.st=1) (fun CZ=>?_) fun CZ=>?_
    ·
     refine zD 3<|jn fun aLf=>jcL (vs:=[zP d,.slice (some ⟨aLf,0,none⟩) 2 2]) [1] [0] [(aLf,.cells ⟨([1,3].map aS).flatten⟩ 3 (0,0))] (fun aJ hs hZ=>akW ((hN.up (((cu.trans kX).trans px).trans jz)).up hs) asM (bX [1,3] hZ.head (by intro p hp;rfl)) (by simp)) ?_
     rintro _ bac ⟨aO5,rfl,aGe,aJY⟩
     refine jd 3 [2]<|bF hK8 ⟨aO5,bac⟩ ⟨⟨(fun h=>by omega),(fun _=>by simpa using aGe)⟩,aJY⟩ Nat.zero_lt_one [2,3,0,4,5,6] (Sub.refl _)
    refine zD 2<|bF hK8 ⟨aO7,bae⟩ ⟨⟨(fun _=>by dsimp only;omega),(fun h=>by omega)⟩,asM⟩ Nat.zero_lt_one [1,2,0,3,4,5] (Sub.refl _)
   refine jd 4 [2]<|ze [3,5] ⟨fun z13 t14 Xc=>?_,fun z16 t17 Xb=>?_,trivial⟩
   ·
    refine jc [1] (aaC (hN.up (((cu.trans kX).trans px).trans jz)) hB.2.2.2) ?_
    rintro _ baf ⟨amT,rfl,ZU,aaj⟩
    refine eW Xc [[2]]<|ze [4,5] ⟨fun z19 t20 acK=>?_,fun z22 t23 ajw=>?_,trivial⟩
    ·
     refine jc (vs:=[zP d,.agg ⟨[zI 2,zI 0,zI 0,.slice dF lu.length dB,.slice di kH.length cP,zS,zS]⟩,.string amT]) [0] (yB (hN.up (((cu.trans kX).trans px).trans jz)) aaj ((((show bJ _ _ _ _ _ from ⟨di,uQ,uP,cP,rfl,wF,pM,pK⟩).up kX).up px).up jz) (by have:=Ei.len;have:=Iv.nh;omega)) ?_
     rintro _ aly ⟨aBW,rfl,SK,SB,SV,S8⟩
     refine eB acK<|aP 5 fun aBz aCM W9=>jn fun xS=>eB W9<|aP 6 fun ad5 aeR KL=>jd 1 [0]<|eB KL<|zD 1<|bF hK7 ⟨xS,_,aly⟩ ⟨⟨SK▸ZU,yu Ei SV,SB⟩,S8⟩ Nat.zero_lt_one [0,2,1,3,4,5] (Sub.refl _)
    refine jn fun xS=>dW ajw (zN 1 5)<|aP 4 fun Ye Yo Iw=>jc (vs:=[zP d,.agg ⟨[zI 2,zI 0,zI 0,.slice dF lu.length dB,.slice di kH.length cP,zS,zS]⟩,.string amT]) [1] (yB (hN.up (((cu.trans kX).trans px).trans jz)) aaj ((((show bJ _ _ _ _ _ from ⟨di,uQ,uP,cP,rfl,wF,pM,pK⟩).up kX).up px).up jz) (by have:=Ei.len;have:=Iv.nh;omega)) ?_
    rintro _ aly ⟨aBW,rfl,SK,SB,SV,S8⟩
    refine eB Iw<|aP 6 fun Yd Yn O9=>jd 1 [1]<|eB O9<|zD 1<|bF hK7 ⟨xS,_,aly⟩ ⟨⟨SK▸ZU,yu Ei SV,SB⟩,S8⟩ Nat.zero_lt_one [1,2,0,3,4,5] (Sub.refl _)
   refine jn fun xS=>dW Xb (zN 1 5)<|aP 3 fun Yc Ym O8=>jc [2] (aaC (hN.up (((cu.trans kX).trans px).trans jz)) hB.2.2.2) ?_
   rintro _ baf ⟨amT,rfl,ZU,aaj⟩
   refine eW O8 [[3]]<|aP 4 fun aqV arh W8=>jc (vs:=[zP d,.agg ⟨[zI 2,zI 0,zI 0,.slice dF lu.length dB,.slice di kH.length cP,zS,zS]⟩,.string amT]) [0] (yB (hN.up (((cu.trans kX).trans px).trans jz)) aaj ((((show bJ _ _ _ _ _ from ⟨di,uQ,uP,cP,rfl,wF,pM,pK⟩).up kX).up px).up jz) (by have:=Ei.len;have:=Iv.nh;omega)) ?_
   rintro _ aly ⟨aBW,rfl,SK,SB,SV,S8⟩
   refine eB W8<|aP 6 fun aqU arf acJ=>jd 1 [1]<|eB acJ<|zD 1<|bF hK7 ⟨xS,_,aly⟩ ⟨⟨SK▸ZU,yu Ei SV,SB⟩,S8⟩ Nat.zero_lt_one [1,2,0,3,4,5] (Sub.refl _)
  refine zD 7<|jc (vs:=[zP d,zI np]) [1] (Gd (hN.up (((cu.trans kX).trans px).trans jz)) hB.2.2.2 (by omega)) ?_
  rintro _ aZ9 ⟨aO2,rfl,bdL,bdC,aJV⟩
  refine zD 3<|my<|dH [1,1,1,1,1,1,1,0,1,0,0] [] (fun(zz:Int×Value×Cells×(List aI)×Cells)=>[(0,zP d),(2,zI nf),(6,zP b6),(7,zP b7),(10,zP pX),(13,zI zz.1)]) (fun zz=>[.l zz.2.2.1,.l zz.2.2.2.2,.l LB,.b pX (.cells ⟨[zI 2,zI 0,zI 0,.slice dF lu.length dB,.slice di kH.length cP,zS,zS]⟩ 94 (0,0)),.b b7 (.cells ⟨[.slice (some ⟨oI,0,none⟩) 2 2,.slice fx UJ.length ez,zS,.slice dF lu.length dB,.slice di kH.length cP,vR,vB,zz.2.1,zI 0,zI 0,zI 0,zS]⟩ 38 (0,0)),.b b6 (.cells ⟨zO⟩ 38 (0,0))]) (fun zz=>(0≤zz.1∧zz.2.2.2.1.length+zz.1≤4)∧aA zz.2.1 5 76 fX zz.2.2.2.1 zz.2.2.1∧(∀p∈zz.2.2.2.1,alD WO p)∧bQ vd xs d zz.2.2.2.2) (fun zz=>zz.1.toNat) (⟨aO2,zS,[],[],aZ9⟩) ⟨by simp only[List.length_nil];omega,aA.nil _ _ _,(fun _ h=>by cases h),aJV⟩ (zN 0 6) ?_
  rintro⟨j,vA,LA,PS,X⟩ hA K32 aX6 rest
  dsimp only at hA
  refine zD 6<|zJ 141 (j>0) (fun h35=>?_) fun h35=>?_
  ·
   refine zD 5<|GD [1,1,1,1,1,1,1,0,1,0,0,1,0,0,1] [K32] (fun(zz:Nat×aI×Cells)=>[(0,zP d),(2,zI nf),(6,zP b6),(7,zP b7),(10,zP pX),(13,zI j),(14,zP zz.1)]) (fun zz=>[.b zz.1 (.cells ⟨[.string zz.2.1.name,zI zz.2.1.st,zI zz.2.1.no,zI zz.2.1.head,.bool zz.2.1.bold]⟩ 76 (0,0)),.l LA,.l zz.2.2,.l LB,.b pX (.cells ⟨[zI 2,zI 0,zI 0,.slice dF lu.length dB,.slice di kH.length cP,zS,zS]⟩ 94 (0,0)),.b b7 (.cells ⟨[.slice (some ⟨oI,0,none⟩) 2 2,.slice fx UJ.length ez,zS,.slice dF lu.length dB,.slice di kH.length cP,vR,vB,vA,zI 0,zI 0,zI 0,zS]⟩ 38 (0,0)),.b b6 (.cells ⟨zO⟩ 38 (0,0))]) (fun zz=>(PY zz.2.1.name∧oB WO zz.2.1.head∧(0≤zz.2.1.st∧zz.2.1.st≤1))∧bQ vd xs d zz.2.2) ?_ (fun K33 ay8=>?_)
   ·
    rintro⟨b14,pp,X⟩ ajB rest
    dsimp only at ajB
    refine zD 3<|jc (vs:=[zP d,zI 1,zI 3]) [2] (Cn (hN.up (((cu.trans kX).trans px).trans jz)) ajB.2 (by omega) (by omega)) ?_
    rintro _ aZ7 ⟨aBU,rfl,bdK,bdB,asJ⟩
    refine jd 7 [1,1]<|GD [1,1,1,1,1,1,1,0,1,0,0,1,0,0,1,1,0,1] [K32] (fun(zz:Bool×Cells)=>[(0,zP d),(2,zI nf),(6,zP b6),(7,zP b7),(10,zP pX),(13,zI j),(14,zP b14),(161,.bool zz.1)]) (fun zz=>[.b b14 (.cells ⟨[.string pp.name,zI pp.st,zI aBU,zI pp.head,.bool false]⟩ 76 (0,0)),.l LA,.l zz.2,.l LB,.b pX (.cells ⟨[zI 2,zI 0,zI 0,.slice dF lu.length dB,.slice di kH.length cP,zS,zS]⟩ 94 (0,0)),.b b7 (.cells ⟨[.slice (some ⟨oI,0,none⟩) 2 2,.slice fx UJ.length ez,zS,.slice dF lu.length dB,.slice di kH.length cP,vR,vB,vA,zI 0,zI 0,zI 0,zS]⟩ 38 (0,0)),.b b6 (.cells ⟨zO⟩ 38 (0,0))]) (fun zz=>(zz.1=true→0 <wD.length)∧bQ vd xs d zz.2) ?_ (fun K34 aJA=>?_)
    ·
     rintro⟨g,X⟩ ajA rest
     dsimp only at ajA
     refine GD [1,1,1,1,1,1,1,0,1,0,0,1,0,0,1,1,1] [K32] (fun(zz:aI×Cells)=>[(0,zP d),(2,zI nf),(6,zP b6),(7,zP b7),(10,zP pX),(13,zI j),(14,zP b14)]) (fun zz=>[.b b14 (.cells ⟨[.string zz.1.name,zI zz.1.st,zI zz.1.no,zI zz.1.head,.bool zz.1.bold]⟩ 76 (0,0)),.l LA,.l zz.2,.l LB,.b pX (.cells ⟨[zI 2,zI 0,zI 0,.slice dF lu.length dB,.slice di kH.length cP,zS,zS]⟩ 94 (0,0)),.b b7 (.cells ⟨[.slice (some ⟨oI,0,none⟩) 2 2,.slice fx UJ.length ez,zS,.slice dF lu.length dB,.slice di kH.length cP,vR,vB,vA,zI 0,zI 0,zI 0,zS]⟩ 38 (0,0)),.b b6 (.cells ⟨zO⟩ 38 (0,0))]) (fun zz=>alD WO zz.1∧bQ vd xs d zz.2) ?_ (fun K35 ay7=>?_)
     ·
      rintro⟨p2,X⟩ aza rest
      dsimp only at aza
      refine jd 4 [5,0]<|jn fun aZK=>cH fX aZK (⟨p2.name,p2.st,p2.no,p2.head,p2.bold⟩:aI) 2 0 hA.2.1 rfl rfl (by omega) fun aCd aBZ baB ao7=>jd 5 [6]<|zW (j-1)<|zD 2<|zY aX6 (⟨j-1,(.slice aCd ((PS++[(⟨p2.name,p2.st,p2.no,p2.head,p2.bold⟩:aI)])).length aBZ),baB,(PS++[(⟨p2.name,p2.st,p2.no,p2.head,p2.bold⟩:aI)]),X⟩) ⟨by simp only[zM];omega,ao7,rF hA.2.2.1 aza.1,aza.2⟩ [0,3,4,5,6,7]
     refine js 161 g (fun h36=>?_) (fun h36=>?_)
     ·
      subst h36
      refine jd 8 [5,5]<|FP hB.2.1<|zW ((wD.length:Int)-1)<|aP 7 fun aqT are O7=>jc (vs:=[zP d,zI ((wD.length:Int)-1)]) [2] (Gd (hN.up (((cu.trans kX).trans px).trans jz)) ajA.2 (by omega)) ?_
      rintro _ bmY ⟨aer,rfl,bdJ,bdA,aJT⟩
      refine eW O7 [[5],[5]] ?_
      obtain⟨Fy,Sw⟩:=zG wD (aer.toNat) (by have:=ajA.1 rfl;omega)
      refine qg aer 5 hB.2.1 Sw (Int.toNat_of_nonneg (show 0≤aer∧aer <((wD).length:Int) from (by have:=ajA.1 rfl;omega)).1).symm (fun bmc aId=>?_)
      refine n7 0 [3] LB (fun s _ hZ=>cB hB.2.1 aId hZ Sw)<|aP 10 fun aqS ard aju=>jd 1 [1]<|eB aju<|zD 5<|jc (vs:=[zP d,zI 3]) [0] (uk (hN.up (((cu.trans kX).trans px).trans jz)) aJT (by omega)) ?_
      rintro _ aZ4 ⟨aOY,rfl,asI⟩
      refine zD 1<|GD [1,1,1,1,1,1,1,0,1,0,0,1,0,0,1,1,2,1,0,1,1] [K32,K35] (fun(zz:Int×Cells)=>[(0,zP d),(2,zI nf),(6,zP b6),(7,zP b7),(10,zP pX),(13,zI j),(14,zP b14)]) (fun zz=>[.b b14 (.cells ⟨[.string Fy.name,zI Fy.st,zI zz.1,zI Fy.head,.bool Fy.bold]⟩ 76 (0,0)),.l LA,.l zz.2,.l LB,.b pX (.cells ⟨[zI 2,zI 0,zI 0,.slice dF lu.length dB,.slice di kH.length cP,zS,zS]⟩ 94 (0,0)),.b b7 (.cells ⟨[.slice (some ⟨oI,0,none⟩) 2 2,.slice fx UJ.length ez,zS,.slice dF lu.length dB,.slice di kH.length cP,vR,vB,vA,zI 0,zI 0,zI 0,zS]⟩ 38 (0,0)),.b b6 (.cells ⟨zO⟩ 38 (0,0))]) (fun zz=>(1≤zz.1∧zz.1≤3)∧bQ vd xs d zz.2) ?_ (fun K38 aJz=>?_)
      ·
       rintro⟨q,X⟩ apM rest
       dsimp only at apM
       have hO:=hB.2.2.1 _ (zL Sw)
       have hO2:=hO.1.2.2.1
       have hO3:=hO.2
       refine zD 3<|jc (vs:=[zP d,zI 4]) [2] (uk (hN.up (((cu.trans kX).trans px).trans jz)) apM.2 (by omega)) ?_
       rintro _ aLw ⟨aOW,rfl,asH⟩
       refine zD 1<|js 178 aOW (fun h39=>?_) (fun h39=>?_)
       ·
        subst h39
        refine jd 5 [1]<|bF ay7 ⟨⟨Fy.name,Fy.st,q,-1,Fy.bold⟩,aLw⟩ ⟨⟨⟨hO.1.1,.inl rfl,hO.1.2.2.1,hO.1.2.2.2⟩,apM.1⟩,asH⟩ Nat.zero_lt_one [1,2,0,3,4,5,6] (Sub.refl _)
       subst h39
       refine zD 2<|bF ay7 ⟨⟨Fy.name,Fy.st,q,Fy.head,Fy.bold⟩,aLw⟩ ⟨⟨⟨hO.1.1,hO.1.2.1,hO.1.2.2.1,hO.1.2.2.2⟩,apM.1⟩,asH⟩ Nat.zero_lt_one [1,2,0,3,4,5,6] (Sub.refl _)
      refine js 173 aOY (fun h40=>?_) (fun h40=>?_)
      ·
       subst h40
       have hO:=hB.2.2.1 _ (zL Sw)
       have hO2:=hO.1.2.2.1
       have hO3:=hO.2
       refine zD 3<|jc (vs:=[zP d,zI 1,zI 3]) [0] (Cn (hN.up (((cu.trans kX).trans px).trans jz)) asI (by omega) (by omega)) ?_
       rintro _ aZ3 ⟨aOX,rfl,bdI,ZQ,aJS⟩
       refine jd 3 [1]<|bF aJz ⟨aOX,aZ3⟩ ⟨by dsimp only;omega,aJS⟩ Nat.zero_lt_one [1,2,0,3,4,5,6] (Sub.refl _)
      subst h40
      have hO:=hB.2.2.1 _ (zL Sw)
      have hO2:=hO.1.2.2.1
      have hO3:=hO.2
      refine zD 2<|bF aJz ⟨Fy.no,aZ4⟩ ⟨by dsimp only;omega,asI⟩ Nat.zero_lt_one [1,2,0,3,4,5,6] (Sub.refl _)
     subst h36
     refine zD 2<|bF ay7 ⟨⟨pp.name,pp.st,aBU,pp.head,false⟩,X⟩ ⟨⟨⟨ajB.1.1,ajB.1.2.1,ajB.1.2.2,rfl⟩,by dsimp only;omega⟩,ajA.2⟩ Nat.zero_lt_one (zN 0 7) (Sub.refl _)
    refine jd 3 [5]<|FP hB.2.1<|zD 2<|js 157 (decide ((wD.length:Int)>0)) (fun h41=>?_) (fun h41=>?_)
    ·
     have ajN:=h41
     replace ajN:=of_decide_eq_true ajN
     refine zD 1<|jc (vs:=[zP d,zI 3]) [0] (uk (hN.up (((cu.trans kX).trans px).trans jz)) asJ (by omega)) ?_
     rintro _ aZ6 ⟨aO1,rfl,aJU⟩
     refine zD 3<|bF aJA ⟨!aO1,aZ6⟩ ⟨fun _=>by omega,aJU⟩ Nat.zero_lt_one [1,2,0,3,4,5,6] (Sub.refl _)
    have ajN:=h41
    replace ajN:=of_decide_eq_false ajN
    refine zD 5<|bF aJA ⟨false,aZ7⟩ ⟨(fun h=>by cases h),asJ⟩ Nat.zero_lt_one [1,2,0,3,4,5,6] (Sub.refl _)
   refine jd 4 [3]<|ze [3,5] ⟨fun z39 t40 ay3=>?_,fun z42 t43 aXZ=>?_,trivial⟩
   ·
    refine jc [1] (aaC (hN.up (((cu.trans kX).trans px).trans jz)) hA.2.2.2) ?_
    rintro _ aZ8 ⟨amS,rfl,ZS,aai⟩
    refine eW ay3 [[3]]<|ze [4,5] ⟨fun z45 t46 aXY=>?_,fun z48 t49 ay0=>?_,trivial⟩
    ·
     refine jc (vs:=[zP d,.agg ⟨[zI 2,zI 0,zI 0,.slice dF lu.length dB,.slice di kH.length cP,zS,zS]⟩,.string amS]) [0] (yB (hN.up (((cu.trans kX).trans px).trans jz)) aai ((((show bJ _ _ _ _ _ from ⟨di,uQ,uP,cP,rfl,wF,pM,pK⟩).up kX).up px).up jz) (by have:=Ei.len;have:=Iv.nh;omega)) ?_
     rintro _ alx ⟨aBV,rfl,SJ,SA,SU,S7⟩
     refine eB aXY<|aP 5 fun aBv aCI ajs=>jn fun b14=>eB ajs<|aP 6 fun aqR arc ajr=>jd 1 [0]<|eB ajr<|zD 1<|bF ay8 ⟨b14,_,alx⟩ ⟨⟨SJ▸ZS,yu Ei SU,SA⟩,S7⟩ Nat.zero_lt_one [0,2,1,3,4,5,6] (Sub.refl _)
    refine jn fun b14=>dW ay0 (zN 1 6)<|aP 4 fun aqQ arb ajq=>jc (vs:=[zP d,.agg ⟨[zI 2,zI 0,zI 0,.slice dF lu.length dB,.slice di kH.length cP,zS,zS]⟩,.string amS]) [1] (yB (hN.up (((cu.trans kX).trans px).trans jz)) aai ((((show bJ _ _ _ _ _ from ⟨di,uQ,uP,cP,rfl,wF,pM,pK⟩).up kX).up px).up jz) (by have:=Ei.len;have:=Iv.nh;omega)) ?_
    rintro _ alx ⟨aBV,rfl,SJ,SA,SU,S7⟩
    refine eB ajq<|aP 6 fun aqP ara ajp=>jd 1 [1]<|eB ajp<|zD 1<|bF ay8 ⟨b14,_,alx⟩ ⟨⟨SJ▸ZS,yu Ei SU,SA⟩,S7⟩ Nat.zero_lt_one [1,2,0,3,4,5,6] (Sub.refl _)
   refine jn fun b14=>dW aXZ (zN 1 6)<|aP 3 fun aqO aq9 ajo=>jc [2] (aaC (hN.up (((cu.trans kX).trans px).trans jz)) hA.2.2.2) ?_
   rintro _ aZ8 ⟨amS,rfl,ZS,aai⟩
   refine eW ajo [[4]]<|aP 4 fun aqN aq8 ajn=>jc (vs:=[zP d,.agg ⟨[zI 2,zI 0,zI 0,.slice dF lu.length dB,.slice di kH.length cP,zS,zS]⟩,.string amS]) [0] (yB (hN.up (((cu.trans kX).trans px).trans jz)) aai ((((show bJ _ _ _ _ _ from ⟨di,uQ,uP,cP,rfl,wF,pM,pK⟩).up kX).up px).up jz) (by have:=Ei.len;have:=Iv.nh;omega)) ?_
   rintro _ alx ⟨aBV,rfl,SJ,SA,SU,S7⟩
   refine eB ajn<|aP 6 fun aqM aq7 ajm=>jd 1 [1]<|eB ajm<|zD 1<|bF ay8 ⟨b14,_,alx⟩ ⟨⟨SJ▸ZS,yu Ei SU,SA⟩,S7⟩ Nat.zero_lt_one [1,2,0,3,4,5,6] (Sub.refl _)
  refine zD 4<|jf [2,0] (LB++LA) (fun bgP xp aHw=>?_)
  have hb:=hB.2.1.jR (Knows.left aHw)
  have ha:=hA.2.1.jR (Knows.right aHw)
  have hBF:=hb
  have hAF:=ha
  obtain⟨nJ,YY,YV,nE,rfl,YW,VI,VH⟩:=hb
  obtain⟨nF,VL,VJ,nB,rfl,VK,Ul,Uk⟩:=ha
  refine zD 2<|jc (vs:=[zP d,zI 4]) [0] (Gd (hN.up ((((cu.trans kX).trans px).trans jz).trans xp)) hA.2.2.2 (by omega)) ?_
  rintro _ bmX ⟨amR,rfl,bdH,bdz,aJR⟩
  refine jn fun aLc=>jcL (vs:=[zP d,.slice (some ⟨aLc,0,none⟩) 4 4]) [1] [0] [(aLc,.cells ⟨([1,2,4,amR].map aS).flatten⟩ 3 (0,0))] (fun aJ hs hZ=>akW ((hN.up ((((cu.trans kX).trans px).trans jz).trans xp)).up hs) aJR (bX [1,2,4,amR] hZ.head (by intro p hp;rfl)) (by simp)) ?_
  rintro _ bmW ⟨aeq,rfl,aGc,aJQ⟩
  refine zD 2<|jc (vs:=[zP d,zI 4]) [0] (Gd (hN.up ((((cu.trans kX).trans px).trans jz).trans xp)) aJQ (by omega)) ?_
  rintro _ bmV ⟨amQ,rfl,bdG,bdy,aJP⟩
  refine jn fun aLb=>jcL (vs:=[zP d,.slice (some ⟨aLb,0,none⟩) 4 4]) [1] [0] [(aLb,.cells ⟨([1,2,4,amQ].map aS).flatten⟩ 3 (0,0))] (fun aJ hs hZ=>akW ((hN.up ((((cu.trans kX).trans px).trans jz).trans xp)).up hs) aJP (bX [1,2,4,amQ] hZ.head (by intro p hp;rfl)) (by simp)) ?_
  rintro _ bmU ⟨aep,rfl,aGb,aJO⟩
  refine zD 2<|jc (vs:=[zP d,zI 4]) [0] (Gd (hN.up ((((cu.trans kX).trans px).trans jz).trans xp)) aJO (by omega)) ?_
  rintro _ bmT ⟨amP,rfl,bdF,bdx,aJN⟩
  refine jn fun aLa=>jcL (vs:=[zP d,.slice (some ⟨aLa,0,none⟩) 4 4]) [1] [0] [(aLa,.cells ⟨([1,2,4,amP].map aS).flatten⟩ 3 (0,0))] (fun aJ hs hZ=>akW ((hN.up ((((cu.trans kX).trans px).trans jz).trans xp)).up hs) aJN (bX [1,2,4,amP] hZ.head (by intro p hp;rfl)) (by simp)) ?_
  rintro _ bmS ⟨aeo,rfl,aGa,aJM⟩
  refine jd 6 [5,5,5] ?_
  have Ba:=avO aGc (by omega:0≤amR∧amR≤4)
  have yZ:=avO aGb (by omega:0≤amQ∧amQ≤4)
  have q5:=avO aGa (by omega:0≤amP∧amP≤4)
  refine zD 6<|jc (vs:=[zP d,zI nf]) [0] (Gd (hN.up ((((cu.trans kX).trans px).trans jz).trans xp)) aJM (by omega)) ?_
  rintro _ aZ2 ⟨aOV,rfl,bdE,bdw,aJL⟩
  refine zD 3<|my<|dH [1,1,1,1,1,1,1,1,1,0,1,0,0] [] (fun(zz:Int×Value×Cells×(List eY)×Cells)=>[(0,zP d),(6,zP b6),(7,zP b7),(15,zI zz.1)]) (fun zz=>[.l zz.2.2.1,.l zz.2.2.2.2,.b pX (.cells ⟨[zI 2,zI 0,zI 0,.slice dF lu.length dB,.slice di kH.length cP,zS,zS]⟩ 94 (0,0)),.b b7 (.cells ⟨[.slice (some ⟨oI,0,none⟩) 2 2,.slice fx UJ.length ez,zS,.slice dF lu.length dB,.slice di kH.length cP,vR,.slice nJ wD.length nE,.slice nF PS.length nB,zI aeq,zI aep,zI aeo,zz.2.1]⟩ 38 (0,0)),.b b6 (.cells ⟨zO⟩ 38 (0,0))]) (fun zz=>(0≤zz.1∧zz.2.2.2.1.length+zz.1≤nf)∧aA zz.2.1 3 100 y6 zz.2.2.2.1 zz.2.2.1∧CH wD.length PS.length zz.2.2.2.1∧bQ vd xs d zz.2.2.2.2) (fun zz=>zz.1.toNat) (⟨aOV,zS,[],[],aZ2⟩) ⟨by simp only[List.length_nil];omega,aA.nil _ _ _,⟨(fun _ h=>by cases h),List.Pairwise.nil⟩,aJL⟩ [0,1,5,6,7] ?_
  rintro⟨j,vF,LF,fs,X⟩ hF K58 aJy rest
  dsimp only at hF
  have axN:=hB.1
  have bdZ:=hA.1
  refine zD 6<|jj 5 [(0,zP d),(6,zP b6),(7,zP b7),(15,zI j),(214,.bool ((decide (j>0))&&(decide ((wD.length:Int)>0))))] (fun fA=>?_) (fun hj=>?_)
  rotate_left
  refine js 209 (decide (j>0)) (fun h56=>?_) (fun h56=>?_)
  ·
   have ajK:=h56
   replace ajK:=of_decide_eq_true ajK
   refine jd 5 [3]<|jw 214 (.bool ((decide (j>0))&&(decide ((wD.length:Int)>0)))) (w:= .bool (decide ((wD.length:Int)>0))) (by rw[h56]<;>rfl) ?_
   exact zK hj
  ·
   have ajK:=h56
   replace ajK:=of_decide_eq_false ajK
   refine zD 5<|jw 214 (.bool ((decide (j>0))&&(decide ((wD.length:Int)>0)))) (w:= .bool false) (by rw[h56]<;>rfl) ?_
   exact zK hj
  refine zD 1<|jj 5 [(0,zP d),(6,zP b6),(7,zP b7),(15,zI j),(220,.bool (((decide (j>0))&&(decide ((wD.length:Int)>0)))&&(decide ((PS.length:Int)>0))))] (fun fA=>?_) (fun hj=>?_)
  rotate_left
  refine js 215 ((decide (j>0))&&(decide ((wD.length:Int)>0))) (fun h57=>?_) (fun h57=>?_)
  ·
   have azh:=h57
   try simp only[zB] at azh
   refine jd 5 [3]<|jw 220 (.bool (((decide (j>0))&&(decide ((wD.length:Int)>0)))&&(decide ((PS.length:Int)>0)))) (w:= .bool (decide ((PS.length:Int)>0))) (by rw[h57]<;>rfl) ?_
   exact zK hj
  ·
   have azh:=h57
   try simp only[zB] at azh
   refine zD 5<|jw 220 (.bool (((decide (j>0))&&(decide ((wD.length:Int)>0)))&&(decide ((PS.length:Int)>0)))) (w:= .bool false) (by rw[h57]<;>rfl) ?_
   exact zK hj
  refine zD 1<|js 220 (((decide (j>0))&&(decide ((wD.length:Int)>0)))&&(decide ((PS.length:Int)>0))) (fun h58=>?_) (fun h58=>?_)
  ·
   try simp only[zB] at h58
   refine jd 8 [3]<|jc (vs:=[zP d,.agg ⟨[.slice (some ⟨oI,0,none⟩) 2 2,.slice fx UJ.length ez,zS,.slice dF lu.length dB,.slice di kH.length cP,vR,.slice nJ wD.length nE,.slice nF PS.length nB,zI aeq,zI aep,zI aeo,vF]⟩]) [1] (aZe (hN.up ((((cu.trans kX).trans px).trans jz).trans xp)) hF.2.2.2 (show bJ _ _ _ _ _ from ⟨nJ,YY,YV,nE,rfl,YW,VI,VH⟩) (show bJ _ _ _ _ _ from ⟨nF,VL,VJ,nB,rfl,VK,Ul,Uk⟩) (by omega)) ?_
   rintro _ aLv ⟨wJ,rfl,bej,bee,asG⟩
   refine jn fun b16=>jd 6 [0,4,0]<|jp (vs:=[.agg ⟨[.slice (some ⟨oI,0,none⟩) 2 2,.slice fx UJ.length ez,zS,.slice dF lu.length dB,.slice di kH.length cP,vR,.slice nJ wD.length nE,.slice nF PS.length nB,zI aeq,zI aep,zI aeo,vF]⟩,.agg ⟨[zI wJ.a,zI wJ.b,.bool wJ.same]⟩]) [2] LF (fun aJ hs hZ=>aFE (x:=⟨wJ.a,wJ.b,wJ.same⟩) (hF.2.1.jR hZ) (by omega))<|zD 2<|js 229 (!(EV fs wJ.a wJ.b)) (fun h59=>?_) (fun h59=>?_)
   ·
    try simp only[zB] at h59
    refine jd 5 [4,0]<|jn fun aZH=>cH y6 aZH (⟨wJ.a,wJ.b,wJ.same⟩:eY) 3 0 hF.2.1 rfl rfl (by omega) fun aCc aBY baz ao6=>jd 5 [5]<|zW (j-1)<|zD 2<|zY aJy (⟨j-1,(.slice aCc ((fs++[(⟨wJ.a,wJ.b,wJ.same⟩:eY)])).length aBY),baz,(fs++[(⟨wJ.a,wJ.b,wJ.same⟩:eY)]),aLv⟩) ⟨by simp only[zM];omega,ao6,CH.snoc hF.2.2.1 (by dsimp only;omega) (by dsimp only;omega) (by assumption),asG⟩ [0,3,4,5,6]
   try simp only[zB] at h59
   refine zD 4<|zW (j-1)<|zD 2<|zF aJy (⟨j-1,vF,LF,fs,aLv⟩) ⟨hF.2.1,hF.2.2.1,asG⟩ [2,1,3,4,5]
  try simp only[zB] at h58
  refine zD 4<|jf [0] LF (fun bgN Ws aVD=>?_)
  have hFA:=hF.2.1.jR aVD
  refine jd 1 [2] ?_
  obtain⟨aPB,aPe,aV5⟩:=hR.2.1.form
  subst aV5
  obtain⟨aPA,aPd,aV4⟩:=hF.2.1.form
  subst aV4
  refine jd 3 [3]<|aN q0.a.a.a.a.a.a (.agg ⟨[.slice (some ⟨oI,0,none⟩) 2 2,.slice fx UJ.length ez,zS,.slice dF lu.length dB,.slice di kH.length cP,(.slice aPB (rs).length aPe),.slice nJ wD.length nE,.slice nF PS.length nB,zI aeq,zI aep,zI aeo,(.slice aPA (fs).length aPd)]⟩) [3] [0] X (Sub.refl _) ⟨_,_,X,rfl,rfl,(((((cu.trans kX).trans px).trans jz).trans xp).trans Ws),⟨ways,lu,WO,rs,wD,PS,aeq,aep,aeo,fs,Ap⟩,_,rfl,⟨UB.2.1,Iv,⟨by dsimp only;omega,hR.2.2⟩,⟨by dsimp only;omega,hB.2.2.1⟩,⟨by dsimp only;omega,hA.2.2.1⟩,⟨Ba,yZ,q5⟩,⟨by dsimp only;omega,hF.2.2.1.1⟩,hF.2.2.1.2,rfl⟩,(by dsimp only;omega),⟨_,_,_,_,_,_,_,_,none,0,kH,rfl,(aXp.up (((px.trans jz).trans xp).trans Ws)),(aIr.up ((jz.trans xp).trans Ws)),(py.up ((((kX.trans px).trans jz).trans xp).trans Ws)),Ei,(hRU.up (xp.trans Ws)),(hBF.up Ws),(hAF.up Ws),hFA⟩,hF.2.2.2⟩
 refine js 30 w30 (fun h65=>?_) (fun h65=>?_)
 ·
  subst h65
  refine jd 7 [1]<|aP 4 fun aBt aCG ayY=>jc [0] (aKM (hN.up (cu.trans kX)) aJJ) ?_
  rintro _ X35 ⟨Aa,rfl,aF9,aYo⟩
  refine eW ayY [[1]]<|aP 5 fun aBs aCF ayX=>jn fun tv=>dW ayX [1,2,3]<|zD 1<|aP 7 fun aBr aCE ayW=>jn fun b38=>dW ayW (zN 1 4)<|aP 8 fun aBq aCD ayV=>aTH (E:=89) (sz:=1) gL (qs:=[(.slice (some ⟨tv,0,none⟩) 1 1:Value)]) (w:= .slice (some ⟨b38,0,none⟩) 1 1) [0] [(b38,.cells ⟨([(.slice (some ⟨tv,0,none⟩) 1 1:Value)].map gL).flatten⟩ 89 (0,0))] (fun s _ hZ=>NU [(.slice (some ⟨tv,0,none⟩) 1 1:Value)] (hZ _ (.head _)) (by intro p hp;rfl)) (by intro p hp;rw[List.mem_singleton] at hp;subst hp;exact bM rfl) (by simp<;>omega) (fun v39 L39 D9=>?_)
  obtain⟨aCb,aBX,aiX⟩:=D9.form
  subst aiX
  refine dW ayV (zN 1 5)<|zD 2<|aP 11 fun aBp aCC ayU=>jd 1 [4]<|eW ayU []<|zD 4<|jc (vs:=[zP d,zI 2]) [3] (uk (hN.up (cu.trans kX)) aYo (by omega)) ?_
  rintro _ X43 ⟨w43,rfl,aJI⟩
  refine zD 1<|js 43 w43 (fun h71=>?_) (fun h71=>?_)
  ·
   subst h71
   refine jd 8 [4,4]<|Un 1 D9 (show ([(.slice (some ⟨tv,0,none⟩) 1 1:Value)])[0]?=some (.slice (some ⟨tv,0,none⟩) 1 1:Value) from rfl) fun b50 aWR=>zD 1<|n7 0 [1] L39 (fun s _ hZ=>cB D9 aWR hZ (show ([(.slice (some ⟨tv,0,none⟩) 1 1:Value)])[0]?=some (.slice (some ⟨tv,0,none⟩) 1 1:Value) from rfl))<|zD 1<|aP 10 fun aBo aCB ayT=>jc [0] (aKM (hN.up (cu.trans kX)) aJI) ?_
   rintro _ X54 ⟨JH,rfl,aT9,aYl⟩
   refine eW ayT [[1],[4],[4]]<|aP 11 fun aBn aCA ayS=>jn fun b55=>dW ayS (zN 1 6)<|aP 12 fun aBm aCz ayR=>cH lq b55 (⟨JH.k,JH.st,JH.ot,JH.fn,JH.fl,JH.tn,JH.tl⟩:aO) 4 0 (wZ (b:=tv) (T:=85) [(⟨Aa.k,Aa.st,Aa.ot,Aa.fn,Aa.fl,Aa.tn,Aa.tl⟩:aO)] rfl (by intro p hp;rfl)) rfl rfl (by simp<;>omega) (fun QE QB L56 AH=>?_)
   refine eW ayR [[5],[5]]<|Un 1 D9 (show ([(.slice (some ⟨tv,0,none⟩) 1 1:Value)])[0]?=some (.slice (some ⟨tv,0,none⟩) 1 1:Value) from rfl) fun b57 aWQ=>zD 1<|aP 15 fun aBl aCy ajl=>Qc 3 0 [(.slice QE (([(⟨Aa.k,Aa.st,Aa.ot,Aa.fn,Aa.fl,Aa.tn,Aa.tl⟩:aO)]++[(⟨JH.k,JH.st,JH.ot,JH.fn,JH.fl,JH.tn,JH.tl⟩:aO)])).length QB)] ((.slice QE (([(⟨Aa.k,Aa.st,Aa.ot,Aa.fn,Aa.fl,Aa.tn,Aa.tl⟩:aO)]++[(⟨JH.k,JH.st,JH.ot,JH.fn,JH.fl,JH.tn,JH.tl⟩:aO)])).length QB):Value) D9 aWQ (show ([(.slice (some ⟨tv,0,none⟩) 1 1:Value)])[0]?=some (.slice (some ⟨tv,0,none⟩) 1 1:Value) from rfl) rfl rfl (Nat.le_of_ble_eq_true rfl) fun L76 aUZ=>eW ajl []<|zD 1<|FQ bP ⟨(.slice aCb ([(.slice (some ⟨tv,0,none⟩) 1 1:Value)]).length aBX),L76++L56,[[Aa,JH]],X54⟩ ⟨fun _ hk=>⟨_,aUZ.jR hk.left,.cons (AH.jR hk.right) .nil⟩,⟨by simp,by simpa using ⟨aF9,aT9⟩⟩,aYl⟩ Nat.zero_lt_one [[0,1],[3],[5],[6]] (Sub.refl _)
  subst h71
  refine zD 2<|FQ bP ⟨(.slice aCb ([(.slice (some ⟨tv,0,none⟩) 1 1:Value)]).length aBX),L39++[(tv,.cells ⟨[zI Aa.k,zI Aa.st,zI Aa.ot,zI Aa.fn,zI Aa.fl,zI Aa.tn,zI Aa.tl]⟩ 85 (0,0))],[[Aa]],X43⟩ ⟨fun _ hk=>⟨_,D9.jR hk.left,.cons (bX [Aa] (hk.right _ (.head _)) (fun _ _=>rfl)) .nil⟩,⟨by simp,by simpa using aF9⟩,aJI⟩ Nat.zero_lt_one [[1,3],[0],[4],[5]] (Sub.refl _)
 subst h65
 refine zD 2<|my<|bF bP ⟨zS,[],[],X30⟩ ⟨fun _ _=>Ve,⟨by simp,by simp⟩,aJJ⟩ Nat.zero_lt_one (zN 0 4) (Sub.refl _)
theorem aZg(hl:bJ ro vd 1 aS xs):ee zT 7 [vd] ro [] (fun r Y=>∃d,r= zP d∧bQ vd xs d Y):=by
 obtain⟨fU,sg,sb,eZ,rfl,uz,lA,lZ⟩:=hl
 refine zE<|zD 8<|jn fun b5=>zD 3<|zR (zP b5) [] [0] [(b5,.cells ⟨[.slice fU xs.length eZ,zI 0,zU 11400714819323198485]⟩ 105 (0,0))] ⟨_,rfl,0,_,Nat.zero_le _,rfl⟩
theorem dc.mem{β:Type}{R:α→β→Prop}{l:List α}{m:List β}(h:dc R l m){a:α}(ha:a∈l):∃b∈m,R a b:=by
 obtain⟨i,hi⟩:=List.getElem?_of_mem ha
 obtain⟨b,hb,hr⟩:=h.get hi
 exact⟨b,zL hb,hr⟩
theorem ng{hv:List bW}(h:dc (sO ro) hv hd):∀p∈hv,∀c∈qi p,single c=true:=fun p hp=>by
 obtain⟨y,_,h1⟩:=h.mem hp
 obtain⟨w,c,s,a⟩:=p
 obtain⟨_,_,_,_,e,_⟩:=h1.2.2.2
 dsimp only at e
 subst e
 exact bM rfl
structure eN where
 a:Int
 b:Int
 c:Int
 d:Int
 e:Int
 f:Int
abbrev pe(x:eN):List Value:=[zI x.a,zI x.b,zI x.c,zI x.d,zI x.e,zI x.f]
def adH(K:aE)(l:List Value):Prop:=∃v0 v1 v3 v4 v5 v6 v7 vb fa fc,l=[v0,v1,.slice fa 0 fc,v3,v4,v5,v6,v7,zI K.gone,zI K.new,zI K.af,vb]∧∀v∈[v0,v1,v3,v4,v5,v6,v7,vb],single v=true
theorem adH.all(h:adH K l):∀v∈l,single v=true:=by
 obtain⟨v0,v1,v3,v4,v5,v6,v7,vb,fa,fc,rfl,h⟩:=h
 simp only[List.mem_cons,List.not_mem_nil,or_false] at h ⊢
 rintro v (rfl|rfl|rfl|rfl|rfl|rfl|rfl|rfl|rfl|rfl|rfl|rfl)<;>first|rfl|exact h _ (by simp)
theorem gF{v:Value}{enc:α→List Value}{ps:List α}{L:Cells}(h:aA v sz T enc ps L):single v=true:=by
 obtain⟨a,c,rfl⟩:=h.form;rfl
theorem jJ{v:Value}{enc:α→List Value}{ps:List α}(h:bJ ro v sz enc ps):single v=true:=by
 obtain⟨a,b,o,c,rfl,_⟩:=h;rfl
theorem Hh{a b c d e f g h:Value}(h1:single a=true)(h2:single b=true)(h3:single c=true)(h4:single d=true)(h5:single e=true)(h6:single f=true)(h7:single g=true)(h8:single h=true):∀v∈[a,b,c,d,e,f,g,h],single v=true:=by
 simp only[List.mem_cons,List.not_mem_nil,or_false]
 rintro v (rfl|rfl|rfl|rfl|rfl|rfl|rfl|rfl)<;>assumption
theorem fO.L(h:fO ro l K):adH K l:=by
 obtain⟨v0,v1,v3,v4,v5,v6,v7,vb,fa,fc,hv,rfl,⟨_,h0,_⟩,⟨_,h1,_⟩,⟨h3,h4,_⟩,_,h5,h6,h7,hb⟩:=h
 exact⟨_,_,_,_,_,_,_,_,_,_,rfl,Hh (jJ h0) (jJ h1) (jJ h3) (jJ h4) (jJ h5) (jJ h6) (jJ h7) (jJ hb)⟩
theorem p8{P:Prop}{p:α}(h:([]:List α)[i]?=some p):P:=by simp at h
theorem cG{l:List α}{a:α}(h:l[i]?=some a):l.take (i+1)=l.take i++[a]:=by
 rw[List.take_succ,h];rfl
theorem yH{β:Type}{R:α→β→Prop}{ws:List α}{ls:List β}{w:α}{l:β}(h:dc R ws (ls.take i))(hl:ls[i]?=some l) (hr:R w l):dc R (ws++[w]) (ls.take (i+1)):=by
 rw[cG hl];exact h.snoc hr
def hqw:ByteArray:=bs [72,81,87]
def kindOf(r:Int):Int:=if 97≤r∧r≤122 then 1 else if (65≤r∧r≤90)∧Sm hqw (UInt8.ofNat (IntKind.u8.wrap r).toNat) <0 then 2 else 0
theorem aKG:EF zT 347 Extern.BytealgIndexByte.indexByte:=⟨Tryz.f347,Tryz.func347,by kernel_rfl,by kernel_rfl,by kernel_rfl,by kernel_rfl⟩
theorem acd{a:ByteArray}{b:Int}:dG zT 340 [.string a,.int .u8 b] ro (zI (Sm a (b).toNat.toUInt8)):=by
 refine zE<|zD 8<|jib (a:=a) (b:=b) aKG<|zD 3<|zX (zI (Sm a (b).toNat.toUInt8)) ⟨rfl,rfl⟩
theorem ace{a:ByteArray}{b:Int}:dG zT 326 [.string a,.int .u8 b] ro (zI (Sm a (b).toNat.toUInt8)):=by
 refine zE<|zD 8<|jp (vs:=[.string a,.int .u8 b]) [] [] (fun aJ hs hZ=>acd)<|zD 3<|zX (zI (Sm a (b).toNat.toUInt8)) ⟨rfl,rfl⟩
theorem aws{a:ByteArray}(hr:0≤r∧r <128):dG zT 313 [.string a,.int .i32 r] ro (zI (Sm a (IntKind.u8.wrap r).toNat.toUInt8)):=by
 refine zE<|zD 10<|jj 3 [(0,.string a),(1,.int .i32 r),(4,zI 0),(166,.bool ((decide (0≤r))&&(decide (r <128))))] (fun fA=>?_) (fun hj=>?_)
 rotate_left
 refine js 163 (decide (0≤r)) (fun h1=>?_) (fun h1=>?_)
 ·
  have gM:=h1
  replace gM:=of_decide_eq_true gM
  refine zD 3<|jw 166 (.bool ((decide (0≤r))&&(decide (r <128)))) (w:= .bool (decide (r <128))) (by rw[h1]<;>rfl) ?_
  exact zK hj
 ·
  have gM:=h1
  replace gM:=of_decide_eq_false gM
  refine zD 3<|jw 166 (.bool ((decide (0≤r))&&(decide (r <128)))) (w:= .bool false) (by rw[h1]<;>rfl) ?_
  exact zK hj
 refine zD 2<|js 160 ((decide (0≤r))&&(decide (r <128))) (fun h2=>?_) (fun h2=>?_)
 ·
  try simp only[zB] at h2
  refine zD 6<|jp (vs:=[.string a,.int .u8 (IntKind.u8.wrap r)]) [] [] (fun aJ hs hZ=>ace)<|zD 3<|zX (zI (Sm a ((IntKind.u8.wrap r)).toNat.toUInt8)) ⟨rfl,rfl⟩
 try simp only[zB] at h2
 exfalso;omega
theorem apA{a:ByteArray}(hr:0≤r∧r <128):dG zT 294 [.string a,.int .i32 r] ro (.bool (decide (Sm a (IntKind.u8.wrap r).toNat.toUInt8≥0))):=by
 refine zE<|zD 8<|jp (vs:=[.string a,.int .i32 r]) [] [] (fun aJ hs hZ=>aws (by omega))<|zD 4<|zX (.bool (decide ((Sm a (IntKind.u8.wrap r).toNat.toUInt8)≥0))) ⟨rfl,rfl⟩
theorem arO:dG zT 260 [.int .i32 r] ro (zI (kindOf r)):=by
 refine zE<|zD 11<|jj 3 [(0,.int .i32 r),(2,zI 0),(9,.bool ((decide (r≥97))&&(decide (r≤122))))] (fun fA=>?_) (fun hj=>?_)
 rotate_left
 refine js 6 (decide (r≥97)) (fun h1=>?_) (fun h1=>?_)
 ·
  have gM:=h1
  replace gM:=of_decide_eq_true gM
  refine zD 3<|jw 9 (.bool ((decide (r≥97))&&(decide (r≤122)))) (w:= .bool (decide (r≤122))) (by rw[h1]<;>rfl) ?_
  exact zK hj
 ·
  have gM:=h1
  replace gM:=of_decide_eq_false gM
  refine zD 3<|jw 9 (.bool ((decide (r≥97))&&(decide (r≤122)))) (w:= .bool false) (by rw[h1]<;>rfl) ?_
  exact zK hj
 refine zD 2<|js 3 ((decide (r≥97))&&(decide (r≤122))) (fun h2=>?_) (fun h2=>?_)
 ·
  try simp only[zB] at h2
  refine zD 6<|zX (zI 1) ⟨by simp only[kindOf,hqw];congr 1;(try simp at*);(repeat' split)<;>omega,rfl⟩
 try simp only[zB] at h2
 refine zD 6<|jj 3 [(0,.int .i32 r),(2,zI 0),(16,.bool ((decide (r≥65))&&(decide (r≤90))))] (fun fA=>?_) (fun hj=>?_)
 rotate_left
 refine js 13 (decide (r≥65)) (fun h3=>?_) (fun h3=>?_)
 ·
  have uf:=h3
  replace uf:=of_decide_eq_true uf
  refine zD 3<|jw 16 (.bool ((decide (r≥65))&&(decide (r≤90)))) (w:= .bool (decide (r≤90))) (by rw[h3]<;>rfl) ?_
  exact zK hj
 ·
  have uf:=h3
  replace uf:=of_decide_eq_false uf
  refine zD 3<|jw 16 (.bool ((decide (r≥65))&&(decide (r≤90)))) (w:= .bool false) (by rw[h3]<;>rfl) ?_
  exact zK hj
 refine zD 1<|jj 4 [(2,zI 0),(21,.bool (((decide (r≥65))&&(decide (r≤90)))&&(!(decide (Sm (bs [72,81,87]) (IntKind.u8.wrap r).toNat.toUInt8≥0)))))] (fun fA=>?_) (fun hj=>?_)
 rotate_left
 refine js 17 ((decide (r≥65))&&(decide (r≤90))) (fun h4=>?_) (fun h4=>?_)
 ·
  have zk:=h4
  try simp only[zB] at zk
  refine zD 1<|jp (vs:=[.string (bs [72,81,87]),.int .i32 r]) [] [] (fun aJ hs hZ=>apA (by omega))<|zD 2<|jw 21 (.bool (((decide (r≥65))&&(decide (r≤90)))&&(!(decide (Sm (bs [72,81,87]) (IntKind.u8.wrap r).toNat.toUInt8≥0))))) (w:= .bool (!(decide (Sm (bs [72,81,87]) (IntKind.u8.wrap r).toNat.toUInt8≥0)))) (by rw[h4]<;>rfl) ?_
  exact zK hj
 ·
  have zk:=h4
  try simp only[zB] at zk
  refine zD 4<|jw 21 (.bool (((decide (r≥65))&&(decide (r≤90)))&&(!(decide (Sm (bs [72,81,87]) (IntKind.u8.wrap r).toNat.toUInt8≥0))))) (w:= .bool false) (by rw[h4]<;>rfl) ?_
  exact zK hj
 refine zD 2<|js 10 (((decide (r≥65))&&(decide (r≤90)))&&(!(decide (Sm (bs [72,81,87]) (IntKind.u8.wrap r).toNat.toUInt8≥0)))) (fun h5=>?_) (fun h5=>?_)
 ·
  try simp only[zB] at h5
  refine zD 6<|zX (zI 2) ⟨by simp only[kindOf,hqw];congr 1;(try simp at*);(repeat' split)<;>omega,rfl⟩
 try simp only[zB] at h5
 refine zD 7<|zX (zI 0) ⟨by simp only[kindOf,hqw];congr 1;(try simp at*);(repeat' split)<;>omega,rfl⟩
theorem ag6:((List.range 256).all fun n=> !HY (UInt8.ofNat n)||decide (kindOf (n:Int)=1))=true:=by kernel_rfl
theorem ag5:((List.range 256).all fun n=> !HF (UInt8.ofNat n)||decide (kindOf (n:Int)=2))=true:=by kernel_rfl
def aa6(w:ByteArray)(k:Int):Prop:=∀b∈w.data.toList,b.toNat <128∧kindOf (b.toNat:Int)=k
theorem Rf{w:ByteArray}(h:Script w):∃k:Int,(k=1∨k=2)∧aa6 w k:=by
 have hb:∀b:UInt8,UInt8.ofNat b.toNat=b:=fun b=>by simp
 rcases h with h|h
 ·refine⟨1,.inl rfl,fun b mN=>?_⟩
  have h1:=h b mN
  have h2:=List.all_eq_true.1 ag6 b.toNat (List.mem_range.2 b.toNat_lt)
  rw[hb,h1] at h2
  simp only[HY,Bool.and_eq_true,Nat.ble_eq] at h1
  exact⟨by omega,by simpa using h2⟩
 refine⟨2,.inr rfl,fun b mN=>?_⟩
 have h1:=h b mN
 have h2:=List.all_eq_true.1 ag5 b.toNat (List.mem_range.2 b.toNat_lt)
 rw[hb,h1] at h2
 simp only[HF,Bool.and_eq_true,Nat.ble_eq] at h1
 exact⟨by omega,by simpa using h2⟩
theorem an8{w:ByteArray}{k:Int}(hs:1≤w.size∧w.size≤6)(hk:k=1∨k=2)(hK:aa6 w k):dG zT 233 [.string w] ro (zI 0):=by
 refine zE<|zD 11<|zJ 9 ((w.size:Int)=0) (fun h1=>?_) fun h1=>?_
 ·
  exfalso;omega
 refine zD 9<|zJ 12 ((w.size:Int)>6) (fun h2=>?_) fun h2=>?_
 ·
  exfalso;omega
 refine zD 10<|jn fun r14=>zD 2<|dH [1,1,1,1,0,1,0,0] [] (fun(zz:Nat×Int)=>[(3,zI zz.2),(14,zP r14)]) (fun zz=>[.b r14 (.stringIter w zz.1)]) (fun zz=>zz.1≤w.data.toList.length∧(zz.2=0∨zz.2=k)) (fun zz=>w.data.toList.length-zz.1) (⟨0,0⟩) ⟨by omega,.inl rfl⟩ [0] ?_
 rintro⟨p,sc⟩ hI K1 bP rest
 dsimp only at hI
 refine zD 2 ?_
 cases SI:w.data.toList[p]? with
 |some Bi=>
  refine jnA r14 0 SI (hK _ (zL SI)).1<|zD 7 ?_
  have Z5:=(hK _ (zL SI)).2
  refine zD 7<|jp (vs:=[.int .i32 (Bi.toNat:Int)]) [] [] (fun aJ hs hZ=>arO)<|zD 8<|zJ 21 (sc=0) (fun h3=>?_) fun h3=>?_
  ·
   refine zD 10<|jj 4 [(3,zI (kindOf (Bi.toNat:Int))),(14,zP r14),(29,.bool ((decide ((kindOf (Bi.toNat:Int))=0))||(!decide ((kindOf (Bi.toNat:Int))=(kindOf (Bi.toNat:Int))))))] (fun fA=>?_) (fun hj=>?_)
   rotate_left
   refine js 25 (decide ((kindOf (Bi.toNat:Int))=0)) (fun h4=>?_) (fun h4=>?_)
   ·
    have zk:=h4
    replace zk:=of_decide_eq_true zk
    refine zD 4<|jw 29 (.bool ((decide ((kindOf (Bi.toNat:Int))=0))||(!decide ((kindOf (Bi.toNat:Int))=(kindOf (Bi.toNat:Int)))))) (w:= .bool true) (by rw[h4]<;>rfl) ?_
    exact zK hj
   ·
    have zk:=h4
    replace zk:=of_decide_eq_false zk
    refine zD 4<|jw 29 (.bool ((decide ((kindOf (Bi.toNat:Int))=0))||(!decide ((kindOf (Bi.toNat:Int))=(kindOf (Bi.toNat:Int)))))) (w:= .bool (!decide ((kindOf (Bi.toNat:Int))=(kindOf (Bi.toNat:Int))))) (by rw[h4]<;>rfl) ?_
    exact zK hj
   refine zD 1<|js 29 ((decide ((kindOf (Bi.toNat:Int))=0))||(!decide ((kindOf (Bi.toNat:Int))=(kindOf (Bi.toNat:Int))))) (fun h5=>?_) (fun h5=>?_)
   ·
    try simp only[zB] at h5
    exfalso;omega
   try simp only[zB] at h5
   refine zD 2<|bF bP (⟨p+1,(kindOf (Bi.toNat:Int))⟩) ⟨by have:=(List.getElem?_eq_some_iff.1 SI).1;dsimp only;omega,by dsimp only;omega⟩ (by have:=(List.getElem?_eq_some_iff.1 SI).1;dsimp only;omega) [0] (Sub.refl _)
  refine zD 7<|jj 4 [(3,zI sc),(14,zP r14),(29,.bool ((decide ((kindOf (Bi.toNat:Int))=0))||(!decide ((kindOf (Bi.toNat:Int))=sc))))] (fun fA=>?_) (fun hj=>?_)
  rotate_left
  refine js 25 (decide ((kindOf (Bi.toNat:Int))=0)) (fun h6=>?_) (fun h6=>?_)
  ·
   have S9:=h6
   replace S9:=of_decide_eq_true S9
   refine zD 4<|jw 29 (.bool ((decide ((kindOf (Bi.toNat:Int))=0))||(!decide ((kindOf (Bi.toNat:Int))=sc)))) (w:= .bool true) (by rw[h6]<;>rfl) ?_
   exact zK hj
  ·
   have S9:=h6
   replace S9:=of_decide_eq_false S9
   refine zD 4<|jw 29 (.bool ((decide ((kindOf (Bi.toNat:Int))=0))||(!decide ((kindOf (Bi.toNat:Int))=sc)))) (w:= .bool (!decide ((kindOf (Bi.toNat:Int))=sc))) (by rw[h6]<;>rfl) ?_
   exact zK hj
  refine zD 1<|js 29 ((decide ((kindOf (Bi.toNat:Int))=0))||(!decide ((kindOf (Bi.toNat:Int))=sc))) (fun h7=>?_) (fun h7=>?_)
  ·
   try simp only[zB] at h7
   exfalso;omega
  try simp only[zB] at h7
  refine zD 2<|bF bP (⟨p+1,sc⟩) ⟨by have:=(List.getElem?_eq_some_iff.1 SI).1;dsimp only;omega,by dsimp only;omega⟩ (by have:=(List.getElem?_eq_some_iff.1 SI).1;dsimp only;omega) [0] (Sub.refl _)
 |none=>
  refine jnZ r14 0 SI<|zD 10<|zX (zI 0) ⟨rfl,rfl⟩
def kJ:=(mE Tryz.typeInfo3 Tryz.underlying3 rfl rfl rfl rfl rfl rfl:TF zT 3 _ 1 8 _ false)
theorem akE(a b c d:Int)(dep:Nat):EqD zT (dep+2) 81 (.agg ⟨[zI a,zI b]⟩) (.agg ⟨[zI c,zI d]⟩) (a==c&&(b==d&&true)):=
 rk (mE Tryz.typeInfo81 Tryz.underlying81 rfl rfl rfl rfl rfl rfl) Tryz.stoodInHeld81 (.cons (by decide) (gR kJ rfl) (gR kJ rfl) (mb kJ _ _) (.cons (by decide) (gR kJ rfl) (gR kJ rfl) (mb kJ _ _) .nil))
theorem xI(a b c d:Int):EqV zT 81 (.agg ⟨[zI a,zI b]⟩) (.agg ⟨[zI c,zI d]⟩) (a==c&&(b==d&&true)):=I0 (akE a b c d _)
theorem akD(a b c d e f:Int):EqV zT 132 (.agg ⟨[zI a,zI b,zI c]⟩) (.agg ⟨[zI d,zI e,zI f]⟩) (a==d&&(b==e&&(c==f&&true)&&true)):=
 I0 (rk (mE Tryz.typeInfo132 Tryz.underlying132 rfl rfl rfl rfl rfl rfl) Tryz.stoodInHeld132 (.cons (by decide) (gR kJ rfl) (gR kJ rfl) (mb kJ _ _) (.cons (by decide) (HC (mE Tryz.typeInfo81 Tryz.underlying81 rfl rfl rfl rfl rfl rfl) rfl) (HC (mE Tryz.typeInfo81 Tryz.underlying81 rfl rfl rfl rfl rfl rfl) rfl) (akE _ _ _ _ _) .nil)))
theorem HJ:nv zT 81:=Tryz.eqGuardType81
theorem arN:nv zT 132:=Tryz.eqGuardType132
def DC(n l:Int)(y:ar):Bool:=n==y.n&&(l==y.l&&true)
theorem VX{w:ByteArray}(hs:1≤w.size∧w.size≤6)(h:Script w):dG zT 233 [.string w] ro (zI 0):=by
 obtain⟨k,h1,h2⟩:=Rf h
 exact an8 hs h1 h2
theorem BR:dG zT 91 [zI 0] ro (.tuple ⟨[]⟩):=by
 refine zE<|zD 7<|zX (.tuple ⟨[]⟩) ⟨rfl,rfl⟩
theorem ZG{x:aI}:dG zT 90 [.agg ⟨[.string x.name,zI x.st,zI x.no,zI x.head,.bool x.bold]⟩] ro (.agg ⟨[zI x.st,zI x.no,zI 0]⟩):=by
 refine zE<|zD 2<|jn fun b1=>jn fun b2=>jd 12 [1,1,0]<|zR (.agg ⟨[zI x.st,zI x.no,zI 0]⟩) [0] [] [] ⟨rfl,rfl⟩
theorem ahs{v:Value}{ps:List ar}{l:Int}(hp:bJ ro v 2 dC ps)(hn:ps.length≤1000):dG zT 261 [v,.agg ⟨[zI n,zI l]⟩] ro (zI (bS (DC n l) ps 0)):=by
 obtain⟨Uj,qpb,qpo,Mi,rfl,qpk,qph,qpl⟩:=hp
 refine zE<|zD 2<|jn fun b3=>zD 10<|dH [1,0,1,0,0] [] (fun(zz:Nat)=>[(0,.slice Uj ps.length Mi),(3,zP b3),(7,zI (ps.length:Int)),(8,zI (zz:Int))]) (fun zz=>[.b b3 (.cells ⟨[zI n,zI l]⟩ 81 (0,0))]) (fun zz=>zz≤ps.length∧bS (DC n l) ps 0=bS (DC n l) (ps.drop zz) zz) (fun zz=>ps.length-zz) 0 ⟨by omega,rfl⟩ [0] ?_
 rintro k hI K1 bP rest
 refine zD 5<|zJ 9 ((k:Int) <(ps.length:Int)) (fun h1=>?_) fun h1=>?_
 ·
  refine jd 14 [0] ?_
  obtain⟨gk,eS⟩:=zG ps k
  refine fK Mi 2 qph eS<|jl 0 (qpl _ _ eS)<|jeq HJ (xI n l gk.n gk.l)<|zD 1<|js 16 (n==gk.n&&(l==gk.l&&true)) (fun h2=>?_) (fun h2=>?_)
  ·
   refine zD 7<|zX (zI (k:Int)) ⟨by rw[hI.2,kA eS,show DC n l gk=true from (by assumption)];rfl,rfl⟩
  refine zD 3<|zW ((k:Int)+1)<|zD 2<|zY bP (k+1) ⟨by omega,by rw[hI.2,kA eS,show DC n l gk=false from (by assumption)];rfl⟩ [0]
 refine zD 7<|zX (zI (-1)) ⟨by rw[hI.2,ri (by omega)],rfl⟩
theorem MK{v:Value}{ps:List ar}{l:Int}(hp:bJ ro v 2 dC ps)(hn:ps.length≤1000):dG zT 234 [v,.agg ⟨[zI n,zI l]⟩] ro (.bool (decide (bS (DC n l) ps 0≥0))):=by
 obtain⟨Uj,qpb,qpo,Mi,rfl,qpk,qph,qpl⟩:=hp
 refine zE<|zD 2<|jn fun b3=>jd 6 [0]<|jp (vs:=[.slice Uj ps.length Mi,.agg ⟨[zI n,zI l]⟩]) [] [] (fun aJ hs hZ=>ahs ((show bJ _ _ _ _ _ from ⟨Uj,qpb,qpo,Mi,rfl,qpk,qph,qpl⟩).up hs) (by first|omega| (simp only[List.length_set,zM];omega))) ?_
 refine zD 4<|zX (.bool (decide ((bS (DC n l) ps 0)≥0))) ⟨rfl,rfl⟩
theorem aab{i:Int}(h:oB hd i): -1≤i∧i <hd.length:=by
 rcases h with h| ⟨h0,x,h1,_⟩
 ·omega
 have:=(List.getElem?_eq_some_iff.1 h1).1
 omega
theorem SZ{hv:List bW}{i:Int}{x:bW}(h:dc dN hv hd)(hi:oB hd i)(h0:i≥0)(hx:hv[i.toNat]?=some x):0≤x.cls:=by
 rcases hi with hi| ⟨_,y,h1,h2⟩
 ·omega
 obtain⟨z,h3,h4⟩:=h.get hx
 rw[h1] at h3;cases h3
 rw[h4.2.1];exact h2
theorem Ml{S:List (List ar)}{x:aI}{l:List ar}(h:aqE S hd x)(hl:S[x.st.toNat]?=some l):bS (DC x.no 0) l 0≥0:=by
 obtain⟨l',h1,h2⟩:=h.2
 rw[h1] at hl;cases hl
 have key:∀(l:List ar) (k:Nat),(⟨x.no,0⟩:ar)∈l→bS (DC x.no 0) l k≥0:=by
  intro l
  induction l with
  |nil=>intro k h;cases h
  |cons y l ih=>
   intro k h
   simp only[bS]
   cases hx:DC x.no 0 y with
   |true=>simp
   |false=>
    simp only[cond_false]
    rcases List.mem_cons.1 h with rfl|h
    ·simp[DC] at hx
    exact ih _ h
 exact key _ 0 h2
theorem ahk{x:aI}(hK:fO ro l K)(hO:kg K)(hx:aqE K.str K.hd x):dG zT 177 [.agg ⟨l⟩,.agg ⟨[.string x.name,zI x.st,zI x.no,zI x.head,.bool x.bold]⟩,.bool true] ro (zI 0):=by
 obtain⟨vS,vT,vc,vh,vr,vb,va,vf,fa,fc,hv,rfl,hS,hT,py,kz,hr,hb,ha,hf⟩:=hK
 obtain⟨jF,hs,fP⟩:=id hS
 obtain⟨iZ,ht,fF⟩:=id hT
 obtain⟨hc,hh,Ix⟩:=id py
 obtain⟨mV,VG,VE,mo,rfl,VF,Qa,P9⟩:=hs
 obtain⟨fx,BA,By,ez,rfl,Bz,tx,tw⟩:=ht
 obtain⟨dF,Ak,Aj,dB,rfl,CQ,yP,yO⟩:=hc
 obtain⟨di,uQ,uP,cP,rfl,wF,pM,pK⟩:=hh
 obtain⟨iI,Gu,Gt,iH,rfl,JI,FL,FK⟩:=hr
 obtain⟨nJ,YY,YV,nE,rfl,YW,VI,VH⟩:=hb
 obtain⟨nF,VL,VJ,nB,rfl,VK,Ul,Uk⟩:=ha
 obtain⟨lP,JK,JJ,kO,rfl,N6,CN,CM⟩:=hf
 have Fe:=hO.rules
 have rO:=hO.before.1
 have SR:=hO.after.1
 have SQ:=hO.facts.1
 have SP:=hO.ways.1
 have KD:=fP.len
 have GK:=fF.len
 have hl8:=hO.qM.two
 have hl9:=hO.cR.nh
 have Ui:∀(i:Nat) (p:eN),([]:List eN)[i]?=some p→cK ⟨ro,[]⟩ 0 (0+i*6) 6 (pe p):=fun _ _ h=>p8 h
 have hNm:=hx.1.1
 have hNs:=hNm.1
 have hHd:=hx.1.2.1
 have hHl:=aab hHd
 have hSt:=hx.1.2.2.1
 have hBd:=hx.1.2.2.2
 have hlen:=kz.len
 refine zE<|zD 2<|jn fun b3=>jn fun b4=>jd 7 [0]<|jp (vs:=[.string x.name]) [] [] (fun aJ hs hZ=>(VX (by omega) hNm.2))<|jd 27 [1,0,1]<|zW ((hv.length:Int)-1)<|jp (vs:=[zI x.head,zI (-1),zI ((hv.length:Int)-1)]) [] [] (fun aJ hs hZ=>fJ)<|zD 3<|js 19 (!(ju x.head (-1) ((hv.length:Int)-1))) (fun h1=>?_) (fun h1=>?_)
 ·
  try simp only[zB] at h1
  exfalso;simp only[ju,Bool.and_eq_false_iff,decide_eq_false_iff_not] at h1;omega
 try simp only[zB] at h1
 refine jd 7 [0]<|js 33 (decide (x.head≥0)) (fun h2=>?_) (fun h2=>?_)
 ·
  have mU:=h2
  replace mU:=of_decide_eq_true mU
  refine jd 5 [1,0] ?_
  obtain⟨P6,yS⟩:=zG hv (x.head.toNat)
  refine CU x.head cP 4 pM yS (by omega)<|zD 1<|jl 1 (pK _ _ yS)<|zD 4<|zJ 29 (P6.cls=(-1)) (fun h3=>?_) fun h3=>?_
  ·
   exfalso;have:=SZ kz hHd (by omega) yS;omega
  refine jd 8 [0]<|zW ((jF.length:Int)-1)<|jp (vs:=[zI x.st,zI 0,zI ((jF.length:Int)-1)]) [] [] (fun aJ hs hZ=>fJ)<|zD 3<|js 44 (!(ju x.st 0 ((jF.length:Int)-1))) (fun h4=>?_) (fun h4=>?_)
  ·
   try simp only[zB] at h4
   exfalso;simp only[ju,Bool.and_eq_false_iff,decide_eq_false_iff_not] at h4;omega
  try simp only[zB] at h4
  refine jd 7 [0] ?_
  obtain⟨x57,yR⟩:=zG jF (x.st.toNat)
  refine CU x.st mo 1 Qa yR (by omega) ?_
  obtain⟨l58,aiF,h58⟩:=fP.get yR
  obtain aVp:=hO.qM.len _ (zL aiF)
  obtain⟨afM,ava,au6,afL,rfl,au8,au9,au7⟩:=h58
  refine jl 0 (P9 _ _ yR)<|jd 1 [0]<|jp (vs:=[.agg ⟨[.string x.name,zI x.st,zI x.no,zI x.head,.bool x.bold]⟩]) [] [] (fun aJ hs hZ=>(ZG (x:=(⟨x.name,x.st,x.no,x.head,x.bold⟩:aI))))<|zD 1<|jp (vs:=[.slice afM l58.length afL,.agg ⟨[zI x.no,zI 0]⟩]) [] [] (fun aJ hs hZ=>MK ((show bJ _ _ _ _ _ from ⟨afM,ava,au6,afL,rfl,au8,au9,au7⟩).up hs) (by first|omega| (simp only[List.length_set,zM];omega))) ?_
  refine zD 4<|js 44 (!(decide (bS (DC x.no 0) l58 0≥0))) (fun h5=>?_) (fun h5=>?_)
  ·
   try simp only[zB] at h5
   exfalso;have:=Ml hx aiF;omega
  try simp only[zB] at h5
  refine jd 20 [0]<|js 74 x.bold (fun h6=>?_) (fun h6=>?_)
  ·
   exfalso;rw[hBd] at h6;cases h6
  refine zD 7<|zX (zI 0) ⟨rfl,rfl⟩
 have mU:=h2
 replace mU:=of_decide_eq_false mU
 refine jd 20 [0]<|zW ((jF.length:Int)-1)<|jp (vs:=[zI x.st,zI 0,zI ((jF.length:Int)-1)]) [] [] (fun aJ hs hZ=>fJ)<|zD 3<|js 44 (!(ju x.st 0 ((jF.length:Int)-1))) (fun h7=>?_) (fun h7=>?_)
 ·
  try simp only[zB] at h7
  exfalso;simp only[ju,Bool.and_eq_false_iff,decide_eq_false_iff_not] at h7;omega
 try simp only[zB] at h7
 refine jd 7 [0] ?_
 obtain⟨x57,yR⟩:=zG jF (x.st.toNat)
 refine CU x.st mo 1 Qa yR (by omega) ?_
 obtain⟨l58,aiF,h58⟩:=fP.get yR
 obtain aVp:=hO.qM.len _ (zL aiF)
 obtain⟨afM,ava,au6,afL,rfl,au8,au9,au7⟩:=h58
 refine jl 0 (P9 _ _ yR)<|jd 1 [0]<|jp (vs:=[.agg ⟨[.string x.name,zI x.st,zI x.no,zI x.head,.bool x.bold]⟩]) [] [] (fun aJ hs hZ=>(ZG (x:=(⟨x.name,x.st,x.no,x.head,x.bold⟩:aI))))<|zD 1<|jp (vs:=[.slice afM l58.length afL,.agg ⟨[zI x.no,zI 0]⟩]) [] [] (fun aJ hs hZ=>MK ((show bJ _ _ _ _ _ from ⟨afM,ava,au6,afL,rfl,au8,au9,au7⟩).up hs) (by first|omega| (simp only[List.length_set,zM];omega))) ?_
 refine zD 4<|js 44 (!(decide (bS (DC x.no 0) l58 0≥0))) (fun h8=>?_) (fun h8=>?_)
 ·
  try simp only[zB] at h8
  exfalso;have:=Ml hx aiF;omega
 try simp only[zB] at h8
 refine jd 20 [0]<|js 74 x.bold (fun h9=>?_) (fun h9=>?_)
 ·
  exfalso;rw[hBd] at h9;cases h9
 refine zD 7<|zX (zI 0) ⟨rfl,rfl⟩
theorem ahl{x:aI}(hK:fO ro l K)(hO:kg K)(hx:aLD K.hd x):dG zT 177 [.agg ⟨l⟩,.agg ⟨[.string x.name,zI x.st,zI x.no,zI x.head,.bool x.bold]⟩,.bool false] ro (zI 0):=by
 obtain⟨vS,vT,vc,vh,vr,vb,va,vf,fa,fc,hv,rfl,hS,hT,py,kz,hr,hb,ha,hf⟩:=hK
 obtain⟨jF,hs,fP⟩:=id hS
 obtain⟨iZ,ht,fF⟩:=id hT
 obtain⟨hc,hh,Ix⟩:=id py
 obtain⟨mV,VG,VE,mo,rfl,VF,Qa,P9⟩:=hs
 obtain⟨fx,BA,By,ez,rfl,Bz,tx,tw⟩:=ht
 obtain⟨dF,Ak,Aj,dB,rfl,CQ,yP,yO⟩:=hc
 obtain⟨di,uQ,uP,cP,rfl,wF,pM,pK⟩:=hh
 obtain⟨iI,Gu,Gt,iH,rfl,JI,FL,FK⟩:=hr
 obtain⟨nJ,YY,YV,nE,rfl,YW,VI,VH⟩:=hb
 obtain⟨nF,VL,VJ,nB,rfl,VK,Ul,Uk⟩:=ha
 obtain⟨lP,JK,JJ,kO,rfl,N6,CN,CM⟩:=hf
 have Fe:=hO.rules
 have rO:=hO.before.1
 have SR:=hO.after.1
 have SQ:=hO.facts.1
 have SP:=hO.ways.1
 have KD:=fP.len
 have GK:=fF.len
 have hl8:=hO.qM.two
 have hl9:=hO.cR.nh
 have Ui:∀(i:Nat) (p:eN),([]:List eN)[i]?=some p→cK ⟨ro,[]⟩ 0 (0+i*6) 6 (pe p):=fun _ _ h=>p8 h
 have hNm:=hx.1.1
 have hNs:=hNm.1
 have hHd:=hx.1.2.1
 have hHl:=aab hHd
 have hSt:=hx.1.2.2.1
 have hBd:=hx.1.2.2.2
 have hlen:=kz.len
 have hNo:=hx.2
 refine zE<|zD 2<|jn fun b3=>jn fun b4=>jd 7 [0]<|jp (vs:=[.string x.name]) [] [] (fun aJ hs hZ=>(VX (by omega) hNm.2))<|jd 27 [1,0,1]<|zW ((hv.length:Int)-1)<|jp (vs:=[zI x.head,zI (-1),zI ((hv.length:Int)-1)]) [] [] (fun aJ hs hZ=>fJ)<|zD 3<|js 19 (!(ju x.head (-1) ((hv.length:Int)-1))) (fun h1=>?_) (fun h1=>?_)
 ·
  try simp only[zB] at h1
  exfalso;simp only[ju,Bool.and_eq_false_iff,decide_eq_false_iff_not] at h1;omega
 try simp only[zB] at h1
 refine jd 7 [0]<|js 33 (decide (x.head≥0)) (fun h2=>?_) (fun h2=>?_)
 ·
  have mU:=h2
  replace mU:=of_decide_eq_true mU
  refine jd 5 [1,0] ?_
  obtain⟨P6,yS⟩:=zG hv (x.head.toNat)
  refine CU x.head cP 4 pM yS (by omega)<|zD 1<|jl 1 (pK _ _ yS)<|zD 4<|zJ 29 (P6.cls=(-1)) (fun h3=>?_) fun h3=>?_
  ·
   exfalso;have:=SZ kz hHd (by omega) yS;omega
  refine jd 8 [0]<|zW ((jF.length:Int)-1)<|jp (vs:=[zI x.st,zI 0,zI ((jF.length:Int)-1)]) [] [] (fun aJ hs hZ=>fJ)<|zD 3<|js 44 (!(ju x.st 0 ((jF.length:Int)-1))) (fun h4=>?_) (fun h4=>?_)
  ·
   try simp only[zB] at h4
   exfalso;simp only[ju,Bool.and_eq_false_iff,decide_eq_false_iff_not] at h4;omega
  try simp only[zB] at h4
  refine jd 25 [0]<|jp (vs:=[zI x.no,zI 1,zI 40]) [] [] (fun aJ hs hZ=>fJ)<|zD 4<|js 65 (!(ju x.no 1 40)) (fun h5=>?_) (fun h5=>?_)
  ·
   try simp only[zB] at h5
   exfalso;simp only[ju,Bool.and_eq_false_iff,decide_eq_false_iff_not] at h5;omega
  try simp only[zB] at h5
  refine jd 7 [0]<|js 74 x.bold (fun h6=>?_) (fun h6=>?_)
  ·
   exfalso;rw[hBd] at h6;cases h6
  refine zD 7<|zX (zI 0) ⟨rfl,rfl⟩
 have mU:=h2
 replace mU:=of_decide_eq_false mU
 refine jd 20 [0]<|zW ((jF.length:Int)-1)<|jp (vs:=[zI x.st,zI 0,zI ((jF.length:Int)-1)]) [] [] (fun aJ hs hZ=>fJ)<|zD 3<|js 44 (!(ju x.st 0 ((jF.length:Int)-1))) (fun h7=>?_) (fun h7=>?_)
 ·
  try simp only[zB] at h7
  exfalso;simp only[ju,Bool.and_eq_false_iff,decide_eq_false_iff_not] at h7;omega
 try simp only[zB] at h7
 refine jd 25 [0]<|jp (vs:=[zI x.no,zI 1,zI 40]) [] [] (fun aJ hs hZ=>fJ)<|zD 4<|js 65 (!(ju x.no 1 40)) (fun h8=>?_) (fun h8=>?_)
 ·
  try simp only[zB] at h8
  exfalso;simp only[ju,Bool.and_eq_false_iff,decide_eq_false_iff_not] at h8;omega
 try simp only[zB] at h8
 refine jd 7 [0]<|js 74 x.bold (fun h9=>?_) (fun h9=>?_)
 ·
  exfalso;rw[hBd] at h9;cases h9
 refine zD 7<|zX (zI 0) ⟨rfl,rfl⟩
theorem fO.up(h:fO ro l K)(hs:Sub ro aF):fO aF l K:=by
 obtain⟨vS,vT,vc,vh,vr,vb,va,vf,fa,fc,hv,rfl,h1,h2,h3,h4,h5,h6,h7,h8⟩:=h
 exact⟨_,_,_,_,_,_,_,_,_,_,_,rfl,h1.up hs,h2.up hs,h3.up hs,h4,h5.up hs,h6.up hs,h7.up hs,h8.up hs⟩
theorem ahm(hK:fO ro l K)(hO:kg K)(hp:bJ ro vp 5 fX K.before):dG zT 129 [.agg ⟨l⟩,vp,.bool true] ro (zI 0):=by
 have hK0:=hK
 obtain⟨vS,vT,vc,vh,vr,vb,va,vf,fa,fc,hv,rfl,hS,hT,py,kz,hr,hb,ha,hf⟩:=hK
 obtain⟨jF,hs,fP⟩:=id hS
 obtain⟨iZ,ht,fF⟩:=id hT
 obtain⟨hc,hh,Ix⟩:=id py
 obtain⟨mV,VG,VE,mo,rfl,VF,Qa,P9⟩:=hs
 obtain⟨fx,BA,By,ez,rfl,Bz,tx,tw⟩:=ht
 obtain⟨dF,Ak,Aj,dB,rfl,CQ,yP,yO⟩:=hc
 obtain⟨di,uQ,uP,cP,rfl,wF,pM,pK⟩:=hh
 obtain⟨iI,Gu,Gt,iH,rfl,JI,FL,FK⟩:=hr
 obtain⟨nJ,YY,YV,nE,rfl,YW,VI,VH⟩:=hb
 obtain⟨nF,VL,VJ,nB,rfl,VK,Ul,Uk⟩:=ha
 obtain⟨lP,JK,JJ,kO,rfl,N6,CN,CM⟩:=hf
 have Fe:=hO.rules
 have rO:=hO.before.1
 have SR:=hO.after.1
 have SQ:=hO.facts.1
 have SP:=hO.ways.1
 have KD:=fP.len
 have GK:=fF.len
 have hl8:=hO.qM.two
 have hl9:=hO.cR.nh
 have Ui:∀(i:Nat) (p:eN),([]:List eN)[i]?=some p→cK ⟨ro,[]⟩ 0 (0+i*6) 6 (pe p):=fun _ _ h=>p8 h
 obtain⟨Uj,qpb,qpo,Mi,rfl,qpk,qph,qpl⟩:=hp
 refine zE<|zD 2<|jn fun b3=>zD 9<|zJ 12 ((K.before.length:Int)>4) (fun h1=>?_) fun h1=>?_
 ·
  exfalso;omega
 refine zD 10<|dH [1,1,0,1,0,0] [] (fun(zz:Nat)=>[(2,.bool true),(3,zP b3),(13,.slice Uj K.before.length Mi),(14,zI (K.before.length:Int)),(15,zI (zz:Int))]) (fun zz=>[.b b3 (.cells ⟨[.slice mV jF.length mo,.slice fx iZ.length ez,.slice fa 0 fc,.slice dF K.cs.length dB,.slice di hv.length cP,.slice iI K.rules.length iH,.slice nJ K.before.length nE,.slice nF K.after.length nB,zI K.gone,zI K.new,zI K.af,.slice lP K.facts.length kO]⟩ 38 (0,0))]) (fun zz=>zz≤K.before.length) (fun zz=>K.before.length-zz) 0 (by omega) [0] ?_
 rintro k hI K1 bP rest
 refine zD 5<|zJ 16 ((k:Int) <(K.before.length:Int)) (fun h2=>?_) fun h2=>?_
 ·
  refine zD 6 ?_
  obtain⟨lF,jV⟩:=zG K.before k
  refine fK Mi 5 qph jV<|jl 0 (qpl _ _ jV)<|jn fun b8=>jd 7 [0,1,0]<|jp (vs:=[.agg ⟨[.slice mV jF.length mo,.slice fx iZ.length ez,.slice fa 0 fc,.slice dF K.cs.length dB,.slice di hv.length cP,.slice iI K.rules.length iH,.slice nJ K.before.length nE,.slice nF K.after.length nB,zI K.gone,zI K.new,zI K.af,.slice lP K.facts.length kO]⟩,.agg ⟨[.string lF.name,zI lF.st,zI lF.no,zI lF.head,.bool lF.bold]⟩,.bool true]) [] [] (fun aJ hs hZ=>(ahk (x:=lF) (hK0.up hs) hO (hO.before.2 _ (zL jV))))<|zD 10<|zW ((k:Int)+1)<|zD 2<|zY bP (k+1) (by omega) [1]
 refine zD 7<|zX (zI 0) ⟨rfl,rfl⟩
theorem ahn(hK:fO ro l K)(hO:kg K)(hp:bJ ro vp 5 fX K.after):dG zT 129 [.agg ⟨l⟩,vp,.bool false] ro (zI 0):=by
 have hK0:=hK
 obtain⟨vS,vT,vc,vh,vr,vb,va,vf,fa,fc,hv,rfl,hS,hT,py,kz,hr,hb,ha,hf⟩:=hK
 obtain⟨jF,hs,fP⟩:=id hS
 obtain⟨iZ,ht,fF⟩:=id hT
 obtain⟨hc,hh,Ix⟩:=id py
 obtain⟨mV,VG,VE,mo,rfl,VF,Qa,P9⟩:=hs
 obtain⟨fx,BA,By,ez,rfl,Bz,tx,tw⟩:=ht
 obtain⟨dF,Ak,Aj,dB,rfl,CQ,yP,yO⟩:=hc
 obtain⟨di,uQ,uP,cP,rfl,wF,pM,pK⟩:=hh
 obtain⟨iI,Gu,Gt,iH,rfl,JI,FL,FK⟩:=hr
 obtain⟨nJ,YY,YV,nE,rfl,YW,VI,VH⟩:=hb
 obtain⟨nF,VL,VJ,nB,rfl,VK,Ul,Uk⟩:=ha
 obtain⟨lP,JK,JJ,kO,rfl,N6,CN,CM⟩:=hf
 have Fe:=hO.rules
 have rO:=hO.before.1
 have SR:=hO.after.1
 have SQ:=hO.facts.1
 have SP:=hO.ways.1
 have KD:=fP.len
 have GK:=fF.len
 have hl8:=hO.qM.two
 have hl9:=hO.cR.nh
 have Ui:∀(i:Nat) (p:eN),([]:List eN)[i]?=some p→cK ⟨ro,[]⟩ 0 (0+i*6) 6 (pe p):=fun _ _ h=>p8 h
 obtain⟨Uj,qpb,qpo,Mi,rfl,qpk,qph,qpl⟩:=hp
 refine zE<|zD 2<|jn fun b3=>zD 9<|zJ 12 ((K.after.length:Int)>4) (fun h1=>?_) fun h1=>?_
 ·
  exfalso;omega
 refine zD 10<|dH [1,1,0,1,0,0] [] (fun(zz:Nat)=>[(2,.bool false),(3,zP b3),(13,.slice Uj K.after.length Mi),(14,zI (K.after.length:Int)),(15,zI (zz:Int))]) (fun zz=>[.b b3 (.cells ⟨[.slice mV jF.length mo,.slice fx iZ.length ez,.slice fa 0 fc,.slice dF K.cs.length dB,.slice di hv.length cP,.slice iI K.rules.length iH,.slice nJ K.before.length nE,.slice nF K.after.length nB,zI K.gone,zI K.new,zI K.af,.slice lP K.facts.length kO]⟩ 38 (0,0))]) (fun zz=>zz≤K.after.length) (fun zz=>K.after.length-zz) 0 (by omega) [0] ?_
 rintro k hI K1 bP rest
 refine zD 5<|zJ 16 ((k:Int) <(K.after.length:Int)) (fun h2=>?_) fun h2=>?_
 ·
  refine zD 6 ?_
  obtain⟨lF,jV⟩:=zG K.after k
  refine fK Mi 5 qph jV<|jl 0 (qpl _ _ jV)<|jn fun b8=>jd 7 [0,1,0]<|jp (vs:=[.agg ⟨[.slice mV jF.length mo,.slice fx iZ.length ez,.slice fa 0 fc,.slice dF K.cs.length dB,.slice di hv.length cP,.slice iI K.rules.length iH,.slice nJ K.before.length nE,.slice nF K.after.length nB,zI K.gone,zI K.new,zI K.af,.slice lP K.facts.length kO]⟩,.agg ⟨[.string lF.name,zI lF.st,zI lF.no,zI lF.head,.bool lF.bold]⟩,.bool false]) [] [] (fun aJ hs hZ=>(ahl (x:=lF) (hK0.up hs) hO (hO.after.2 _ (zL jV))))<|zD 10<|zW ((k:Int)+1)<|zD 2<|zY bP (k+1) (by omega) [1]
 refine zD 7<|zX (zI 0) ⟨rfl,rfl⟩
theorem avZ{x y:eY}(hb:ro b=some (.cells ⟨[zI y.a,zI y.b,.bool y.same]⟩ 100 (0,0))):dG zT 179 [.agg ⟨[zI x.a,zI x.b,.bool x.same]⟩,zP b] ro (.bool (decide (x.a=y.a)&&decide (x.b=y.b))):=by
 refine zE<|zD 2<|jn fun b2=>jd 7 [0]<|jl (b:=b) (off:=0) (m:=3) (vs:=[zI y.a,zI y.b,.bool y.same]) 0 ⟨_,_,_,.inl hb,rfl⟩<|zD 2<|jj 6 [(3,.bool false),(15,.bool ((decide (x.a=y.a))&&(decide (x.b=y.b))))] (fun fA=>?_) (fun hj=>?_)
 rotate_left
 refine js 9 (decide (x.a=y.a)) (fun h1=>?_) (fun h1=>?_)
 ·
  have gM:=h1
  replace gM:=of_decide_eq_true gM
  refine jd 3 [0]<|jl (b:=b) (off:=0) (m:=3) (vs:=[zI y.a,zI y.b,.bool y.same]) 1 ⟨_,_,_,.inl hb,rfl⟩<|zD 2<|jw 15 (.bool ((decide (x.a=y.a))&&(decide (x.b=y.b)))) (w:= .bool (decide (x.b=y.b))) (by rw[h1]<;>rfl) ?_
  exact zK hj
 ·
  have gM:=h1
  replace gM:=of_decide_eq_false gM
  refine zD 6<|jw 15 (.bool ((decide (x.a=y.a))&&(decide (x.b=y.b)))) (w:= .bool false) (by rw[h1]<;>rfl) ?_
  exact zK hj
 refine zD 3<|zX (.bool ((decide (x.a=y.a))&&(decide (x.b=y.b)))) ⟨rfl,rfl⟩
def FC(x y:eY):Bool:=decide (y.a=x.a)&&decide (y.b=x.b)
theorem Ep{p:α→Bool}:∀ {l:List α} {k:Nat},(∀y∈l,p y=false)→bS p l k= -1
 | [],_,_=>rfl
 |x::l,k,h=>by simp only[bS,h x (List.mem_cons_self ..),cond_false];exact Ep fun y hy=>h y (List.mem_cons_of_mem _ hy)
theorem akp{x:eY}(h:fs.Pairwise fun x y=>¬(x.a=y.a∧x.b=y.b))(hx:fs[i]?=some x):bS (FC x) (fs.take i) 0 <0:=by
 rw[Ep]
 ·omega
 intro y hy
 obtain⟨j,hj⟩:=List.getElem?_of_mem hy
 rw[List.getElem?_take] at hj
 split at hj
 ·rename_i A9
  have:=qL h A9 hj hx
  simp only[FC,Bool.and_eq_false_iff,decide_eq_false_iff_not]
  by_cases h1:y.a=x.a
  ·exact .inr fun h2=>this ⟨h1,h2⟩
  exact .inl h1
 cases hj
theorem awj{v:Value}{x:eY}(hf:bJ ro v 3 y6 fs)(hn:fs.length≤1000)(hb:ro b=some (.cells ⟨[zI x.a,zI x.b,.bool x.same]⟩ 100 (0,0))):dG zT 235 [v,.func (.func 179) ⟨[]⟩ ⟨[zP b]⟩] ro (zI (bS (FC x) fs 0)):=by
 obtain⟨lP,JK,JJ,kO,rfl,N6,CN,CM⟩:=hf
 refine zE<|zD 12<|dH [1,0,1,0,0] [] (fun(zz:Nat)=>[(0,.slice lP fs.length kO),(1,.func (.func 179) ⟨[]⟩ ⟨[zP b]⟩),(7,zI (fs.length:Int)),(8,zI (zz:Int))]) (fun zz=>[]) (fun zz=>zz≤fs.length∧bS (FC x) fs 0=bS (FC x) (fs.drop zz) zz) (fun zz=>fs.length-zz) 0 ⟨by omega,rfl⟩ [] ?_
 rintro k hI K1 bP rest
 refine zD 5<|zJ 9 ((k:Int) <(fs.length:Int)) (fun h1=>?_) fun h1=>?_
 ·
  refine zD 14 ?_
  obtain⟨gk,eS⟩:=zG fs k
  refine fK kO 3 CN eS<|jl 0 (CM _ _ eS)<|jp (vs:=[.agg ⟨[zI gk.a,zI gk.b,.bool gk.same]⟩,zP b]) [] [] (fun aJ hs hZ=>(avZ (hs _ _ hb)))<|zD 1<|js 16 (FC x gk) (fun h2=>?_) (fun h2=>?_)
  ·
   refine zD 7<|zX (zI (k:Int)) ⟨by rw[hI.2,kA eS,show FC x gk=true from (by assumption)];rfl,rfl⟩
  refine zD 3<|zW ((k:Int)+1)<|zD 2<|zY bP (k+1) ⟨by omega,by rw[hI.2,kA eS,show FC x gk=false from (by assumption)];rfl⟩ []
 refine zD 7<|zX (zI (-1)) ⟨by rw[hI.2,ri (by omega)],rfl⟩
theorem aoI{v:Value}{x:eY}(hf:bJ ro v 3 y6 fs)(hn:fs.length≤1000)(hb:ro b=some (.cells ⟨[zI x.a,zI x.b,.bool x.same]⟩ 100 (0,0))):dG zT 178 [v,.func (.func 179) ⟨[]⟩ ⟨[zP b]⟩] ro (.bool (decide (bS (FC x) fs 0≥0))):=by
 obtain⟨lP,JK,JJ,kO,rfl,N6,CN,CM⟩:=hf
 refine zE<|zD 8<|jp (vs:=[.slice lP fs.length kO,.func (.func 179) ⟨[]⟩ ⟨[zP b]⟩]) [] [] (fun aJ hs hZ=>awj ((show bJ _ _ _ _ _ from ⟨lP,JK,JJ,kO,rfl,N6,CN,CM⟩).up hs) (by first|omega| (simp only[List.length_set,zM];omega)) (hs _ _ hb)) ?_
 refine zD 4<|zX (.bool (decide ((bS (FC x) fs 0)≥0))) ⟨rfl,rfl⟩
theorem aFJ{x:eY}(hK:fO ro l K)(hO:kg K)(hp:bJ ro vp 3 y6 fs)(hn:fs.length≤1000)(hx:(0≤x.a∧x.a <K.before.length)∧(0≤x.b∧x.b <K.after.length))(hw:bS (FC x) fs 0 <0):dG zT 130 [.agg ⟨l⟩,vp,.agg ⟨[zI x.a,zI x.b,.bool x.same]⟩] ro (zI 0):=by
 obtain⟨vS,vT,vc,vh,vr,vb,va,vf,fa,fc,hv,rfl,hS,hT,py,kz,hr,hb,ha,hf⟩:=hK
 obtain⟨jF,hs,fP⟩:=id hS
 obtain⟨iZ,ht,fF⟩:=id hT
 obtain⟨hc,hh,Ix⟩:=id py
 obtain⟨mV,VG,VE,mo,rfl,VF,Qa,P9⟩:=hs
 obtain⟨fx,BA,By,ez,rfl,Bz,tx,tw⟩:=ht
 obtain⟨dF,Ak,Aj,dB,rfl,CQ,yP,yO⟩:=hc
 obtain⟨di,uQ,uP,cP,rfl,wF,pM,pK⟩:=hh
 obtain⟨iI,Gu,Gt,iH,rfl,JI,FL,FK⟩:=hr
 obtain⟨nJ,YY,YV,nE,rfl,YW,VI,VH⟩:=hb
 obtain⟨nF,VL,VJ,nB,rfl,VK,Ul,Uk⟩:=ha
 obtain⟨lP,JK,JJ,kO,rfl,N6,CN,CM⟩:=hf
 have Fe:=hO.rules
 have rO:=hO.before.1
 have SR:=hO.after.1
 have SQ:=hO.facts.1
 have SP:=hO.ways.1
 have KD:=fP.len
 have GK:=fF.len
 have hl8:=hO.qM.two
 have hl9:=hO.cR.nh
 have Ui:∀(i:Nat) (p:eN),([]:List eN)[i]?=some p→cK ⟨ro,[]⟩ 0 (0+i*6) 6 (pe p):=fun _ _ h=>p8 h
 obtain⟨Uj,qpb,qpo,Mi,rfl,qpk,qph,qpl⟩:=hp
 refine zE<|zD 2<|jn fun b3=>jn fun b5=>jd 12 [0,1]<|zW ((K.before.length:Int)-1)<|jp (vs:=[zI x.a,zI 0,zI ((K.before.length:Int)-1)]) [] [] (fun aJ hs hZ=>fJ)<|zD 3<|js 7 (!(ju x.a 0 ((K.before.length:Int)-1))) (fun h1=>?_) (fun h1=>?_)
 ·
  try simp only[zB] at h1
  exfalso;simp only[ju,Bool.and_eq_false_iff,decide_eq_false_iff_not] at h1;omega
 try simp only[zB] at h1
 refine jd 7 [0,1]<|zW ((K.after.length:Int)-1)<|jp (vs:=[zI x.b,zI 0,zI ((K.after.length:Int)-1)]) [] [] (fun aJ hs hZ=>fJ)<|zD 3<|js 7 (!(ju x.b 0 ((K.after.length:Int)-1))) (fun h2=>?_) (fun h2=>?_)
 ·
  try simp only[zB] at h2
  exfalso;simp only[ju,Bool.and_eq_false_iff,decide_eq_false_iff_not] at h2;omega
 try simp only[zB] at h2
 refine zD 5<|jp (vs:=[.slice Uj fs.length Mi,.func (.func 179) ⟨[]⟩ ⟨[zP b5]⟩]) [0] [(b5,.cells ⟨[zI x.a,zI x.b,.bool x.same]⟩ 100 (0,0))] (fun aJ hs hZ=>aoI ((show bJ _ _ _ _ _ from ⟨Uj,qpb,qpo,Mi,rfl,qpk,qph,qpl⟩).up hs) (by first|omega| (simp only[List.length_set,zM];omega)) hZ.head) ?_
 refine zD 2<|js 24 (decide (bS (FC x) fs 0≥0)) (fun h3=>?_) (fun h3=>?_)
 ·
  exfalso;have:=of_decide_eq_true h3;omega
 refine zD 7<|zX (zI 0) ⟨rfl,rfl⟩
theorem aCT{w:ByteArray}(hs:1≤w.size∧w.size≤12)(hc:c8 w (bs [99,108,97,115,115])=false)(hf:c8 w (bs [102,105,110,105,115])=false)(hK:∀b∈w.data.toList,97≤b.toNat∧b.toNat≤122):dG zT 255 [.string w] ro (.bool true):=by
 refine zE<|zD 11<|jj 4 [(0,.string w),(2,.bool false),(12,.bool ((decide ((w.size:Int)=0))||(decide ((w.size:Int)>12))))] (fun fA=>?_) (fun hj=>?_)
 rotate_left
 refine js 8 (decide ((w.size:Int)=0)) (fun h1=>?_) (fun h1=>?_)
 ·
  have gM:=h1
  replace gM:=of_decide_eq_true gM
  refine zD 4<|jw 12 (.bool ((decide ((w.size:Int)=0))||(decide ((w.size:Int)>12)))) (w:= .bool true) (by rw[h1]<;>rfl) ?_
  exact zK hj
 ·
  have gM:=h1
  replace gM:=of_decide_eq_false gM
  refine zD 4<|jw 12 (.bool ((decide ((w.size:Int)=0))||(decide ((w.size:Int)>12)))) (w:= .bool (decide ((w.size:Int)>12))) (by rw[h1]<;>rfl) ?_
  exact zK hj
 refine zD 1<|jj 3 [(0,.string w),(2,.bool false),(16,.bool (((decide ((w.size:Int)=0))||(decide ((w.size:Int)>12)))||(c8 w (bs [99,108,97,115,115]))))] (fun fA=>?_) (fun hj=>?_)
 rotate_left
 refine js 13 ((decide ((w.size:Int)=0))||(decide ((w.size:Int)>12))) (fun h2=>?_) (fun h2=>?_)
 ·
  have mU:=h2
  try simp only[zB] at mU
  refine zD 3<|jw 16 (.bool (((decide ((w.size:Int)=0))||(decide ((w.size:Int)>12)))||(c8 w (bs [99,108,97,115,115])))) (w:= .bool true) (by rw[h2]<;>rfl) ?_
  exact zK hj
 ·
  have mU:=h2
  try simp only[zB] at mU
  refine zD 3<|jw 16 (.bool (((decide ((w.size:Int)=0))||(decide ((w.size:Int)>12)))||(c8 w (bs [99,108,97,115,115])))) (w:= .bool (c8 w (bs [99,108,97,115,115]))) (by rw[h2]<;>rfl) ?_
  exact zK hj
 refine zD 1<|jj 3 [(0,.string w),(2,.bool false),(20,.bool ((((decide ((w.size:Int)=0))||(decide ((w.size:Int)>12)))||(c8 w (bs [99,108,97,115,115])))||(c8 w (bs [102,105,110,105,115]))))] (fun fA=>?_) (fun hj=>?_)
 rotate_left
 refine js 17 (((decide ((w.size:Int)=0))||(decide ((w.size:Int)>12)))||(c8 w (bs [99,108,97,115,115]))) (fun h3=>?_) (fun h3=>?_)
 ·
  have uf:=h3
  try simp only[zB] at uf
  refine zD 3<|jw 20 (.bool ((((decide ((w.size:Int)=0))||(decide ((w.size:Int)>12)))||(c8 w (bs [99,108,97,115,115])))||(c8 w (bs [102,105,110,105,115])))) (w:= .bool true) (by rw[h3]<;>rfl) ?_
  exact zK hj
 ·
  have uf:=h3
  try simp only[zB] at uf
  refine zD 3<|jw 20 (.bool ((((decide ((w.size:Int)=0))||(decide ((w.size:Int)>12)))||(c8 w (bs [99,108,97,115,115])))||(c8 w (bs [102,105,110,105,115])))) (w:= .bool (c8 w (bs [102,105,110,105,115]))) (by rw[h3]<;>rfl) ?_
  exact zK hj
 refine zD 1<|js 20 ((((decide ((w.size:Int)=0))||(decide ((w.size:Int)>12)))||(c8 w (bs [99,108,97,115,115])))||(c8 w (bs [102,105,110,105,115]))) (fun h4=>?_) (fun h4=>?_)
 ·
  try simp only[zB] at h4
  exfalso;simp only[hc,hf,Bool.or_false,Bool.or_eq_true,decide_eq_true_eq,Bool.false_eq_true,or_false] at h4;omega
 try simp only[zB] at h4
 refine zD 6<|jn fun r22=>zD 2<|dH [1,1,0,1,0,0] [] (fun(zz:Nat)=>[(22,zP r22)]) (fun zz=>[.b r22 (.stringIter w zz)]) (fun zz=>zz≤w.data.toList.length) (fun zz=>w.data.toList.length-zz) 0 (by omega) [0] ?_
 rintro p hI K1 bP rest
 refine zD 2 ?_
 cases acy:w.data.toList[p]? with
 |some A5=>
  refine jnA r22 0 acy (by have:=hK _ (zL acy);omega) ?_
  refine zD 7 ?_
  have Z5:=hK _ (zL acy)
  refine zD 9<|jj 3 [(22,zP r22),(31,.bool ((decide ((A5.toNat:Int) <97))||(decide ((A5.toNat:Int)>122))))] (fun fA=>?_) (fun hj=>?_)
  rotate_left
  refine js 28 (decide ((A5.toNat:Int) <97)) (fun h5=>?_) (fun h5=>?_)
  ·
   have F8:=h5
   replace F8:=of_decide_eq_true F8
   refine zD 3<|jw 31 (.bool ((decide ((A5.toNat:Int) <97))||(decide ((A5.toNat:Int)>122)))) (w:= .bool true) (by rw[h5]<;>rfl) ?_
   exact zK hj
  ·
   have F8:=h5
   replace F8:=of_decide_eq_false F8
   refine zD 3<|jw 31 (.bool ((decide ((A5.toNat:Int) <97))||(decide ((A5.toNat:Int)>122)))) (w:= .bool (decide ((A5.toNat:Int)>122))) (by rw[h5]<;>rfl) ?_
   exact zK hj
  refine zD 1<|js 31 ((decide ((A5.toNat:Int) <97))||(decide ((A5.toNat:Int)>122))) (fun h6=>?_) (fun h6=>?_)
  ·
   try simp only[zB] at h6
   exfalso;omega
  try simp only[zB] at h6
  refine zD 2<|bF bP (p+1) (by have:=(List.getElem?_eq_some_iff.1 acy).1;omega) (by have:=(List.getElem?_eq_some_iff.1 acy).1;omega) [0] (Sub.refl _)
 |none=>
  refine jnZ r22 0 acy<|zD 10<|zX (.bool true) ⟨rfl,rfl⟩
def Ge(x y:cm):Bool:=c8 y.name x.name
theorem aut{x y:cm}(hb:ro b=some (.cells ⟨[.string x.name,zI x.under]⟩ 170 (0,0))):dG zT 257 [.agg ⟨[.string y.name,zI y.under]⟩,zP b] ro (.bool (c8 y.name x.name)):=by
 refine zE<|zD 2<|jn fun b2=>jd 7 [0]<|jl (b:=b) (off:=0) (m:=2) (vs:=[.string x.name,zI x.under]) 0 ⟨_,_,_,.inl hb,rfl⟩<|zD 4<|zX (.bool (c8 y.name x.name)) ⟨rfl,rfl⟩
theorem aus{v:Value}{fs:List cm}{x:cm}(hf:bJ ro v 2 rq fs)(hn:fs.length≤1000)(hb:ro b=some (.cells ⟨[.string x.name,zI x.under]⟩ 170 (0,0))):dG zT 292 [v,.func (.func 257) ⟨[]⟩ ⟨[zP b]⟩] ro (zI (bS (Ge x) fs 0)):=by
 obtain⟨lP,JK,JJ,kO,rfl,N6,CN,CM⟩:=hf
 refine zE<|zD 12<|dH [1,0,1,0,0] [] (fun(zz:Nat)=>[(0,.slice lP fs.length kO),(1,.func (.func 257) ⟨[]⟩ ⟨[zP b]⟩),(7,zI (fs.length:Int)),(8,zI (zz:Int))]) (fun zz=>[]) (fun zz=>zz≤fs.length∧bS (Ge x) fs 0=bS (Ge x) (fs.drop zz) zz) (fun zz=>fs.length-zz) 0 ⟨by omega,rfl⟩ [] ?_
 rintro k hI K1 bP rest
 refine zD 5<|zJ 9 ((k:Int) <(fs.length:Int)) (fun h1=>?_) fun h1=>?_
 ·
  refine zD 14 ?_
  obtain⟨gk,eS⟩:=zG fs k
  refine fK kO 2 CN eS<|jl 0 (CM _ _ eS)<|jp (vs:=[.agg ⟨[.string gk.name,zI gk.under]⟩,zP b]) [] [] (fun aJ hs hZ=>(aut (y:=gk) (hs _ _ hb)))<|zD 1<|js 16 (Ge x gk) (fun h2=>?_) (fun h2=>?_)
  ·
   refine zD 7<|zX (zI (k:Int)) ⟨by rw[hI.2,kA eS,show Ge x gk=true from (by assumption)];rfl,rfl⟩
  refine zD 3<|zW ((k:Int)+1)<|zD 2<|zY bP (k+1) ⟨by omega,by rw[hI.2,kA eS,show Ge x gk=false from (by assumption)];rfl⟩ []
 refine zD 7<|zX (zI (-1)) ⟨by rw[hI.2,ri (by omega)],rfl⟩
theorem anb{v:Value}{fs:List cm}{x:cm}(hf:bJ ro v 2 rq fs)(hn:fs.length≤1000)(hb:ro b=some (.cells ⟨[.string x.name,zI x.under]⟩ 170 (0,0))):dG zT 256 [v,.func (.func 257) ⟨[]⟩ ⟨[zP b]⟩] ro (.bool (decide (bS (Ge x) fs 0≥0))):=by
 obtain⟨lP,JK,JJ,kO,rfl,N6,CN,CM⟩:=hf
 refine zE<|zD 8<|jp (vs:=[.slice lP fs.length kO,.func (.func 257) ⟨[]⟩ ⟨[zP b]⟩]) [] [] (fun aJ hs hZ=>aus ((show bJ _ _ _ _ _ from ⟨lP,JK,JJ,kO,rfl,N6,CN,CM⟩).up hs) (by first|omega| (simp only[List.length_set,zM];omega)) (hs _ _ hb)) ?_
 refine zD 4<|zX (.bool (decide ((bS (Ge x) fs 0)≥0))) ⟨rfl,rfl⟩
def hdP(x y:bW):Bool:=c8 y.word x.word
theorem aC1{x y:bW}(hb:ro b=some (.cells ⟨[.string x.word,zI x.cls,zI x.pG,x.eX]⟩ 173 (0,0))):dG zT 259 [.agg ⟨[.string y.word,zI y.cls,zI y.pG,y.eX]⟩,zP b] ro (.bool (c8 y.word x.word)):=by
 refine zE<|zD 2<|jn fun b2=>jd 7 [0]<|jl (b:=b) (off:=0) (m:=4) (vs:=[.string x.word,zI x.cls,zI x.pG,x.eX]) 0 ⟨_,_,_,.inl hb,rfl⟩<|zD 4<|zX (.bool (c8 y.word x.word)) ⟨rfl,rfl⟩
theorem aC0{v:Value}{fs:List bW}{x:bW}(hf:bJ ro v 4 qi fs)(hn:fs.length≤1000)(hb:ro b=some (.cells ⟨[.string x.word,zI x.cls,zI x.pG,x.eX]⟩ 173 (0,0))):dG zT 293 [v,.func (.func 259) ⟨[]⟩ ⟨[zP b]⟩] ro (zI (bS (hdP x) fs 0)):=by
 obtain⟨lP,JK,JJ,kO,rfl,N6,CN,CM⟩:=hf
 refine zE<|zD 12<|dH [1,0,1,0,0] [] (fun(zz:Nat)=>[(0,.slice lP fs.length kO),(1,.func (.func 259) ⟨[]⟩ ⟨[zP b]⟩),(7,zI (fs.length:Int)),(8,zI (zz:Int))]) (fun zz=>[]) (fun zz=>zz≤fs.length∧bS (hdP x) fs 0=bS (hdP x) (fs.drop zz) zz) (fun zz=>fs.length-zz) 0 ⟨by omega,rfl⟩ [] ?_
 rintro k hI K1 bP rest
 refine zD 5<|zJ 9 ((k:Int) <(fs.length:Int)) (fun h1=>?_) fun h1=>?_
 ·
  refine zD 14 ?_
  obtain⟨gk,eS⟩:=zG fs k
  refine fK kO 4 CN eS<|jl 0 (CM _ _ eS)<|jp (vs:=[.agg ⟨[.string gk.word,zI gk.cls,zI gk.pG,gk.eX]⟩,zP b]) [] [] (fun aJ hs hZ=>(aC1 (y:=gk) (hs _ _ hb)))<|zD 1<|js 16 (hdP x gk) (fun h2=>?_) (fun h2=>?_)
  ·
   refine zD 7<|zX (zI (k:Int)) ⟨by rw[hI.2,kA eS,show hdP x gk=true from (by assumption)];rfl,rfl⟩
  refine zD 3<|zW ((k:Int)+1)<|zD 2<|zY bP (k+1) ⟨by omega,by rw[hI.2,kA eS,show hdP x gk=false from (by assumption)];rfl⟩ []
 refine zD 7<|zX (zI (-1)) ⟨by rw[hI.2,ri (by omega)],rfl⟩
theorem aup{v:Value}{fs:List bW}{x:bW}(hf:bJ ro v 4 qi fs)(hn:fs.length≤1000)(hb:ro b=some (.cells ⟨[.string x.word,zI x.cls,zI x.pG,x.eX]⟩ 173 (0,0))):dG zT 258 [v,.func (.func 259) ⟨[]⟩ ⟨[zP b]⟩] ro (.bool (decide (bS (hdP x) fs 0≥0))):=by
 obtain⟨lP,JK,JJ,kO,rfl,N6,CN,CM⟩:=hf
 refine zE<|zD 8<|jp (vs:=[.slice lP fs.length kO,.func (.func 259) ⟨[]⟩ ⟨[zP b]⟩]) [] [] (fun aJ hs hZ=>aC0 ((show bJ _ _ _ _ _ from ⟨lP,JK,JJ,kO,rfl,N6,CN,CM⟩).up hs) (by first|omega| (simp only[List.length_set,zM];omega)) (hs _ _ hb)) ?_
 refine zD 4<|zX (.bool (decide ((bS (hdP x) fs 0)≥0))) ⟨rfl,rfl⟩
def Bn(w:ByteArray):Bool:=Nat.ble 1 w.size&&(Nat.ble w.size 12&&(!c8 w (bs [99,108,97,115,115])&&(!c8 w (bs [102,105,110,105,115])&&w.data.toList.all fun b=>Nat.ble 97 b.toNat&&Nat.ble b.toNat 122)))
theorem abp:∀w∈nU,Bn w=true:=List.all_eq_true.1 (by kernel_rfl)
theorem adf:∀w∈qj,Bn w=true:=List.all_eq_true.1 (by kernel_rfl)
theorem aeV{w:ByteArray}(h:Bn w=true):dG zT 255 [.string w] ro (.bool true):=by
 simp only[Bn,Bool.and_eq_true,Nat.ble_eq,Bool.not_eq_true',List.all_eq_true] at h
 exact aCT ⟨h.1,h.2.1⟩ h.2.2.1 h.2.2.2.1 h.2.2.2.2
structure mf(cs:List cm)(hd:List cF):Prop where
 nc:0 <cs.length∧cs.length≤6
 nh:hd.length≤6
 cls:∀(i:Nat) (c:cm),cs[i]?=some c→Bn c.name=true∧ -1≤c.under∧c.under <i
 names:(cs.map (·.name)).Pairwise fun a b=>c8 a b=false
 B4:∀(i:Nat) (x:cF),hd[i]?=some x→Bn x.word=true∧iz cs.length hd.length i x
 words:(hd.map (·.word)).Pairwise fun a b=>c8 a b=false∧strLt b a=false
theorem xX.v(h:xX cs hd):mf cs hd:=
 ⟨⟨h.nc.1,by have:=h.nc.2;omega⟩,by have:=h.nh;omega,fun i c hc=>⟨abp _ (h.cls i c hc).1,(h.cls i c hc).2⟩,h.names,fun i x hx=>⟨adf _ (h.B4 i x hx).1,(h.B4 i x hx).2⟩,h.words⟩
theorem TA{p:α→α→Bool}{l:List α}{x:α}(h:l.Pairwise fun y x=>p x y=false)(hx:l[i]?=some x):bS (p x) (l.take i) 0 <0:=by
 rw[Ep]
 ·omega
 intro y hy
 obtain⟨j,hj⟩:=List.getElem?_of_mem hy
 rw[List.getElem?_take] at hj
 split at hj
 ·rename_i A9
  exact qL h A9 hj hx
 cases hj
theorem aql{x:cm}(h:mf cs hd)(hx:cs[i]?=some x):bS (Ge x) (cs.take i) 0 <0:=
 TA (p:=Ge) (List.pairwise_map.1 h.names) hx
theorem Qy{hv:List bW}(h:dc dN hv hd):hv.map (·.word)=hd.map (·.word):=by
 induction h with
 |nil=>rfl
 |cons h1 _ ih=>simp only[List.map_cons,h1.1,ih]
theorem ayt{hv:List bW}{x:bW}(h:mf cs hd)(hs:dc dN hv hd)(hx:hv[i]?=some x):bS (hdP x) (hv.take i) 0 <0:=
 TA (p:=hdP) ((List.pairwise_map.1 (Qy hs▸h.words)).imp fun h=>h.1) hx
theorem aHW{hv:List bW}{x y:bW}(h:mf cs hd)(hs:dc dN hv hd)(JU:j <i)(hx:hv[i]?=some x) (hy:hv[j]?=some y):strLt x.word y.word=false:=
 (qL (List.pairwise_map.1 (Qy hs▸h.words)) JU hy hx).2
theorem afb{nc nh:Nat}{x:bW}{y:cF}(h:iz nc nh i y)(hr:sO ro x y):
 (-1≤x.cls∧x.cls <nc)∧(-1≤x.pG∧x.pG <nh∧x.pG≠i)∧(y.eX.length≤nh∧y.eX.Pairwise (· < ·)∧∀z∈y.eX,0≤z∧z <nh∧z≠i)∧(x.pG≠ -1→x.cls= -1∧y.eX.length=0)∧(x.pG= -1→x.cls= -1→y.eX.length≠0):=by
 rw[hr.2.1,hr.2.2.1]
 exact⟨h.1,h.2.1,h.2.2.1,fun a=>⟨(h.2.2.2.1 a).1,by rw[(h.2.2.2.1 a).2];rfl⟩,fun a b c=>h.2.2.2.2 a b (List.eq_nil_of_length_eq_zero c)⟩
theorem auv{v:Value}(hc:bJ ro v 2 rq cs)(hT:mf cs hd)(hi:i <cs.length):dG zT 231 [v,zI (i:Int)] ro (zI 0):=by
 obtain⟨dF,Ak,Aj,dB,rfl,CQ,yP,yO⟩:=hc
 have Fc:=hT.nc
 refine zE<|zD 8 ?_
 obtain⟨x8,hx8⟩:=zG cs i
 refine fK dB 2 yP hx8<|jl 0 (yO _ _ hx8)<|jn fun b5=>jd 5 [0] ?_
 have iY:=hT.cls _ _ hx8
 have hcn:bS (Ge x8) (cs.take (i:Int).toNat) 0 <0:=aql hT hx8
 have htk:(cs.take (i:Int).toNat).length≤cs.length:=by rw[List.length_take];omega
 refine jd 3 [0]<|jp (vs:=[.string x8.name]) [] [] (fun aJ hs hZ=>(aeV iY.1))<|zD 8<|jcH (hi:=(i:Int)) (show bJ _ _ _ _ _ from ⟨dF,Ak,Aj,dB,rfl,CQ,yP,yO⟩) (by omega) (fun v18 awY=>?_)
 obtain⟨arF,aDS,aDO,arE,rfl,aDQ,aDR,aDP⟩:=awY
 refine zD 1<|jp (vs:=[.slice arF ((((cs).take (i:Int).toNat)).length) arE,.func (.func 257) ⟨[]⟩ ⟨[zP b5]⟩]) [0] [(b5,.cells ⟨[.string x8.name,zI x8.under]⟩ 170 (0,0))] (fun aJ hs hZ=>anb (x:=x8) ((show bJ _ _ _ _ _ from ⟨arF,aDS,aDO,arE,rfl,aDQ,aDR,aDP⟩).up hs) (by first|omega| (simp only[List.length_set,zM];omega)) hZ.head) ?_
 refine zD 2<|js 15 (decide (bS (Ge x8) ((cs).take (i:Int).toNat) 0≥0)) (fun h1=>?_) (fun h1=>?_)
 ·
  exfalso;have:=of_decide_eq_true h1;omega
 refine jd 7 [0]<|zW ((cs.length:Int)-1)<|jp (vs:=[zI x8.under,zI (-1),zI ((cs.length:Int)-1)]) [] [] (fun aJ hs hZ=>jP)<|zD 3<|js 21 (!(ju x8.under (-1) ((cs.length:Int)-1))) (fun h2=>?_) (fun h2=>?_)
 ·
  try simp only[zB] at h2
  exfalso;simp only[ju,Bool.and_eq_false_iff,decide_eq_false_iff_not] at h2;omega
 try simp only[zB] at h2
 refine jd 9 [0]<|zJ 29 (x8.under≥(i:Int)) (fun h3=>?_) fun h3=>?_
 ·
  exfalso;omega
 refine zD 7<|zX (zI 0) ⟨rfl,rfl⟩
theorem aCZ{hv:List bW}(hR:kF ro vc vh cs hv hd)(kz:dc dN hv hd)(hT:mf cs hd)(hi:i <hv.length):dG zT 232 [.agg ⟨[vc,vh]⟩,zI (i:Int)] ro (zI 0):=by
 obtain⟨hc,hh,dk⟩:=id hR
 obtain⟨dF,Ak,Aj,dB,rfl,CQ,yP,yO⟩:=hc
 obtain⟨di,uQ,uP,cP,rfl,wF,pM,pK⟩:=hh
 have Fc:=hT.nc
 have hnh:=hT.nh
 have hlen:=kz.len
 refine zE<|zD 2<|jn fun b2=>jd 9 [0,0] ?_
 obtain⟨gk,eS⟩:=zG hv i
 refine fK cP 4 pM eS<|jl 0 (pK _ _ eS)<|aP 7 fun C5 Dc Ba=>jn fun b6=>dW Ba [1]<|zD 1<|aP 9 fun zw Ab yZ=>jsx 0 b6 0 [.string ByteArray.empty,zI 0,zI 0,zS] [.string gk.word,zI gk.cls,zI gk.pG,gk.eX] 173 (ng dk _ (zL eS)) rfl<|eB yZ<|zD 4 ?_
 obtain⟨Gm,aF3,aw4⟩:=dk.get eS
 obtain⟨fU,sg,sb,eZ,hqe,uz,lA,lZ⟩:=aw4.2.2.2
 have aUd:=(hT.B4 _ _ aF3).1
 have hsh:=afb (hT.B4 _ _ aF3).2 aw4
 obtain⟨cu,mI,JN,kX,hs5⟩:=hsh
 have hwb:Bn gk.word=true:=by rw[aw4.1];exact aUd
 have hcn:bS (hdP gk) (hv.take (i:Int).toNat) 0 <0:=ayt hT kz eS
 have htk:(hv.take (i:Int).toNat).length≤hv.length:=by rw[List.length_take];omega
 refine jmw 0 [.b b6 (.cells ⟨[.string gk.word,zI gk.cls,zI gk.pG,.slice fU Gm.eX.length eZ]⟩ 173 (0,0))] (L:=[(b6,.cells ⟨[.string gk.word,zI gk.cls,zI gk.pG,gk.eX]⟩ 173 (0,0))]) (by rw[hqe];rfl) ?_
 refine jd 3 [0]<|jp (vs:=[.string gk.word]) [] [] (fun aJ hs hZ=>(aeV hwb))<|zD 8<|jcH (hi:=(i:Int)) (show bJ _ _ _ _ _ from ⟨di,uQ,uP,cP,rfl,wF,pM,pK⟩) (by omega) (fun v24 aUz=>?_)
 obtain⟨arD,aDN,aDJ,arC,rfl,aDL,aDM,aDK⟩:=aUz
 refine zD 1<|jp (vs:=[.slice arD ((((hv).take (i:Int).toNat)).length) arC,.func (.func 259) ⟨[]⟩ ⟨[zP b6]⟩]) [0] [(b6,.cells ⟨[.string gk.word,zI gk.cls,zI gk.pG,.slice fU Gm.eX.length eZ]⟩ 173 (0,0))] (fun aJ hs hZ=>aup (x:=gk) ((show bJ _ _ _ _ _ from ⟨arD,aDN,aDJ,arC,rfl,aDL,aDM,aDK⟩).up hs) (by first|omega| (simp only[List.length_set,zM];omega)) (by rw[hqe];exact hZ.head)) ?_
 refine zD 2<|js 21 (decide (bS (hdP gk) ((hv).take (i:Int).toNat) 0≥0)) (fun h3=>?_) (fun h3=>?_)
 ·
  exfalso;have:=of_decide_eq_true h3;omega
 refine zD 6<|js 2 (decide ((i:Int)>0)) (fun h4=>?_) (fun h4=>?_)
 ·
  have zk:=h4
  replace zk:=of_decide_eq_true zk
  refine jd 4 [0]<|zW ((i:Int)-1) ?_
  obtain⟨x36,AE⟩:=zG hv (((i:Int)-1).toNat)
  refine CU ((i:Int)-1) cP 4 pM AE (by omega)<|zD 1<|jl 0 (pK _ _ AE)<|zD 4<|js 27 (strLt gk.word x36.word) (fun h5=>?_) (fun h5=>?_)
  ·
   exfalso;rw[aHW hT kz (by omega) eS AE] at h5;cases h5
  refine jd 9 [0,1]<|zW ((cs.length:Int)-1)<|jp (vs:=[zI gk.cls,zI (-1),zI ((cs.length:Int)-1)]) [] [] (fun aJ hs hZ=>jP)<|zD 3<|js 41 (!(ju gk.cls (-1) ((cs.length:Int)-1))) (fun h6=>?_) (fun h6=>?_)
  ·
   try simp only[zB] at h6
   exfalso;simp only[ju,Bool.and_eq_false_iff,decide_eq_false_iff_not] at h6;omega
  try simp only[zB] at h6
  refine jd 6 [0]<|zW ((hv.length:Int)-1)<|jp (vs:=[zI gk.pG,zI (-1),zI ((hv.length:Int)-1)]) [] [] (fun aJ hs hZ=>jP)<|zD 3<|js 41 (!(ju gk.pG (-1) ((hv.length:Int)-1))) (fun h7=>?_) (fun h7=>?_)
  ·
   try simp only[zB] at h7
   exfalso;simp only[ju,Bool.and_eq_false_iff,decide_eq_false_iff_not] at h7;omega
  try simp only[zB] at h7
  refine jd 9 [0]<|zJ 57 (gk.pG=(i:Int)) (fun h8=>?_) fun h8=>?_
  ·
   exfalso;omega
  refine jd 11 [0]<|dH [1,1,1,0,1,0,0] [] (fun(zz:Nat)=>[(1,zI (i:Int)),(5,.slice di hv.length cP),(6,zP b6),(63,.slice fU Gm.eX.length eZ),(64,zI (Gm.eX.length:Int)),(65,zI (zz:Int))]) (fun zz=>[.b b6 (.cells ⟨[.string gk.word,zI gk.cls,zI gk.pG,.slice fU Gm.eX.length eZ]⟩ 173 (0,0))]) (fun zz=>zz≤Gm.eX.length) (fun zz=>Gm.eX.length-zz) 0 (by omega) [0] ?_
  rintro k hI K3 J0 rest
  refine zD 5<|zJ 66 ((k:Int) <(Gm.eX.length:Int)) (fun h9=>?_) fun h9=>?_
  ·
   refine zD 7 ?_
   obtain⟨x68,BT⟩:=zG Gm.eX k
   refine fK eZ 1 lA BT<|jl 0 (lZ _ _ BT)<|zD 5 ?_
   have aXf:=JN.2.2 _ (zL BT)
   refine zD 4<|zW ((hv.length:Int)-1)<|jp (vs:=[zI x68,zI 0,zI ((hv.length:Int)-1)]) [] [] (fun aJ hs hZ=>jP)<|zD 3<|js 70 (!(ju x68 0 ((hv.length:Int)-1))) (fun Bb=>?_) (fun Bb=>?_)
   ·
    try simp only[zB] at Bb
    exfalso;simp only[ju,Bool.and_eq_false_iff,decide_eq_false_iff_not] at Bb;omega
   try simp only[zB] at Bb
   refine zD 8<|zJ 77 (x68=(i:Int)) (fun h11=>?_) fun h11=>?_
   ·
    exfalso;omega
   refine zD 6<|js 84 (decide ((k:Int)>0)) (fun J1=>?_) (fun J1=>?_)
   ·
    have aj2:=J1
    replace aj2:=of_decide_eq_true aj2
    refine jd 4 [0]<|zW ((k:Int)-1) ?_
    obtain⟨x90,H5⟩:=zG Gm.eX (((k:Int)-1).toNat)
    refine CU ((k:Int)-1) eZ 1 lA H5 (by omega)<|jl 0 (lZ _ _ H5)<|zD 4<|zJ 81 (x68≤x90) (fun C1=>?_) fun C1=>?_
    ·
     exfalso;have:=qL JN.2.1 (show ((k:Int)-1).toNat <k by omega) H5 BT;omega
    refine zD 3<|zW ((k:Int)+1)<|zD 2<|zY J0 (k+1) (by omega) [0]
   have aj2:=J1
   replace aj2:=of_decide_eq_false aj2
   refine zD 14<|zW ((k:Int)+1)<|zD 2<|zY J0 (k+1) (by omega) [0]
  refine jd 9 [0]<|js 98 (!decide (gk.pG=(-1))) (fun IE=>?_) (fun IE=>?_)
  ·
   have ID:=IE
   replace ID:=of_decide_eq_false (by simpa using ID)
   refine jd 4 [0]<|js 102 (!decide (gk.cls=(-1))) (fun xz=>?_) (fun xz=>?_)
   ·
    have xy:=xz
    replace xy:=of_decide_eq_false (by simpa using xy)
    refine zD 29 ?_
    exfalso;omega
   have xy:=xz
   replace xy:=of_decide_eq_true (by simpa using xy)
   refine jd 7 [0]<|js 109 (decide ((Gm.eX.length:Int)>0)) (fun Ga=>?_) (fun Ga=>?_)
   ·
    have IC:=Ga
    replace IC:=of_decide_eq_true IC
    refine zD 22 ?_
    exfalso;omega
   have IC:=Ga
   replace IC:=of_decide_eq_false IC
   refine jd 4 [0]<|js 113 (decide (gk.pG=(-1))) (fun h17=>?_) (fun h17=>?_)
   ·
    have xw:=h17
    replace xw:=of_decide_eq_true xw
    refine jd 5 [0]<|js 118 (decide (gk.cls=(-1))) (fun KP=>?_) (fun KP=>?_)
    ·
     have y4:=KP
     replace y4:=of_decide_eq_true y4
     refine jd 7 [0]<|zJ 124 ((Gm.eX.length:Int)=0) (fun M1=>?_) fun M1=>?_
     ·
      exfalso;(try simp only[Bool.or_eq_true,Bool.and_eq_true,decide_eq_true_eq,Bool.not_eq_true',decide_eq_false_iff_not] at M1);omega
     refine zD 7<|zX (zI 0) ⟨rfl,rfl⟩
    have y4:=KP
    replace y4:=of_decide_eq_false y4
    refine zD 14<|zX (zI 0) ⟨rfl,rfl⟩
   have xw:=h17
   replace xw:=of_decide_eq_false xw
   refine zD 19<|zX (zI 0) ⟨rfl,rfl⟩
  have ID:=IE
  replace ID:=of_decide_eq_true (by simpa using ID)
  refine jd 15 [0]<|js 113 (decide (gk.pG=(-1))) (fun Xe=>?_) (fun Xe=>?_)
  ·
   have KO:=Xe
   replace KO:=of_decide_eq_true KO
   refine jd 5 [0]<|js 118 (decide (gk.cls=(-1))) (fun h21=>?_) (fun h21=>?_)
   ·
    have aj0:=h21
    replace aj0:=of_decide_eq_true aj0
    refine jd 7 [0]<|zJ 124 ((Gm.eX.length:Int)=0) (fun GP=>?_) fun GP=>?_
    ·
     exfalso;(try simp only[Bool.or_eq_true,Bool.and_eq_true,decide_eq_true_eq,Bool.not_eq_true',decide_eq_false_iff_not] at GP);omega
    refine zD 7<|zX (zI 0) ⟨rfl,rfl⟩
   have aj0:=h21
   replace aj0:=of_decide_eq_false aj0
   refine zD 14<|zX (zI 0) ⟨rfl,rfl⟩
  have KO:=Xe
  replace KO:=of_decide_eq_false KO
  refine zD 19<|zX (zI 0) ⟨rfl,rfl⟩
 have zk:=h4
 replace zk:=of_decide_eq_false zk
 refine jd 21 [0,1]<|zW ((cs.length:Int)-1)<|jp (vs:=[zI gk.cls,zI (-1),zI ((cs.length:Int)-1)]) [] [] (fun aJ hs hZ=>jP)<|zD 3<|js 41 (!(ju gk.cls (-1) ((cs.length:Int)-1))) (fun CZ=>?_) (fun CZ=>?_)
 ·
  try simp only[zB] at CZ
  exfalso;simp only[ju,Bool.and_eq_false_iff,decide_eq_false_iff_not] at CZ;omega
 try simp only[zB] at CZ
 refine jd 6 [0]<|zW ((hv.length:Int)-1)<|jp (vs:=[zI gk.pG,zI (-1),zI ((hv.length:Int)-1)]) [] [] (fun aJ hs hZ=>jP)<|zD 3<|js 41 (!(ju gk.pG (-1) ((hv.length:Int)-1))) (fun Qi=>?_) (fun Qi=>?_)
 ·
  try simp only[zB] at Qi
  exfalso;simp only[ju,Bool.and_eq_false_iff,decide_eq_false_iff_not] at Qi;omega
 try simp only[zB] at Qi
 refine jd 9 [0]<|zJ 57 (gk.pG=(i:Int)) (fun h25=>?_) fun h25=>?_
 ·
  exfalso;omega
 refine jd 11 [0]<|dH [1,1,1,0,1,0,0] [] (fun(zz:Nat)=>[(1,zI (i:Int)),(5,.slice di hv.length cP),(6,zP b6),(63,.slice fU Gm.eX.length eZ),(64,zI (Gm.eX.length:Int)),(65,zI (zz:Int))]) (fun zz=>[.b b6 (.cells ⟨[.string gk.word,zI gk.cls,zI gk.pG,.slice fU Gm.eX.length eZ]⟩ 173 (0,0))]) (fun zz=>zz≤Gm.eX.length) (fun zz=>Gm.eX.length-zz) 0 (by omega) [0] ?_
 rintro k hI K4 hK4 rest
 refine zD 5<|zJ 66 ((k:Int) <(Gm.eX.length:Int)) (fun Td=>?_) fun Td=>?_
 ·
  refine zD 7 ?_
  obtain⟨x68,BT⟩:=zG Gm.eX k
  refine fK eZ 1 lA BT<|jl 0 (lZ _ _ BT)<|zD 5 ?_
  have aXf:=JN.2.2 _ (zL BT)
  refine zD 4<|zW ((hv.length:Int)-1)<|jp (vs:=[zI x68,zI 0,zI ((hv.length:Int)-1)]) [] [] (fun aJ hs hZ=>jP)<|zD 3<|js 70 (!(ju x68 0 ((hv.length:Int)-1))) (fun h27=>?_) (fun h27=>?_)
  ·
   try simp only[zB] at h27
   exfalso;simp only[ju,Bool.and_eq_false_iff,decide_eq_false_iff_not] at h27;omega
  try simp only[zB] at h27
  refine zD 8<|zJ 77 (x68=(i:Int)) (fun Tc=>?_) fun Tc=>?_
  ·
   exfalso;omega
  refine zD 6<|js 84 (decide ((k:Int)>0)) (fun h29=>?_) (fun h29=>?_)
  ·
   have ajW:=h29
   replace ajW:=of_decide_eq_true ajW
   refine jd 4 [0]<|zW ((k:Int)-1) ?_
   obtain⟨x90,H5⟩:=zG Gm.eX (((k:Int)-1).toNat)
   refine CU ((k:Int)-1) eZ 1 lA H5 (by omega)<|jl 0 (lZ _ _ H5)<|zD 4<|zJ 81 (x68≤x90) (fun Pd=>?_) fun Pd=>?_
   ·
    exfalso;have:=qL JN.2.1 (show ((k:Int)-1).toNat <k by omega) H5 BT;omega
   refine zD 3<|zW ((k:Int)+1)<|zD 2<|zY hK4 (k+1) (by omega) [0]
  have ajW:=h29
  replace ajW:=of_decide_eq_false ajW
  refine zD 14<|zW ((k:Int)+1)<|zD 2<|zY hK4 (k+1) (by omega) [0]
 refine jd 9 [0]<|js 98 (!decide (gk.pG=(-1))) (fun Tb=>?_) (fun Tb=>?_)
 ·
  have ajV:=Tb
  replace ajV:=of_decide_eq_false (by simpa using ajV)
  refine jd 4 [0]<|js 102 (!decide (gk.cls=(-1))) (fun Ta=>?_) (fun Ta=>?_)
  ·
   have ajU:=Ta
   replace ajU:=of_decide_eq_false (by simpa using ajU)
   refine zD 29 ?_
   exfalso;omega
  have ajU:=Ta
  replace ajU:=of_decide_eq_true (by simpa using ajU)
  refine jd 7 [0]<|js 109 (decide ((Gm.eX.length:Int)>0)) (fun h33=>?_) (fun h33=>?_)
  ·
   have ajS:=h33
   replace ajS:=of_decide_eq_true ajS
   refine zD 22 ?_
   exfalso;omega
  have ajS:=h33
  replace ajS:=of_decide_eq_false ajS
  refine jd 4 [0]<|js 113 (decide (gk.pG=(-1))) (fun h34=>?_) (fun h34=>?_)
  ·
   have ajR:=h34
   replace ajR:=of_decide_eq_true ajR
   refine jd 5 [0]<|js 118 (decide (gk.cls=(-1))) (fun h35=>?_) (fun h35=>?_)
   ·
    have ajQ:=h35
    replace ajQ:=of_decide_eq_true ajQ
    refine jd 7 [0]<|zJ 124 ((Gm.eX.length:Int)=0) (fun h36=>?_) fun h36=>?_
    ·
     exfalso;(try simp only[Bool.or_eq_true,Bool.and_eq_true,decide_eq_true_eq,Bool.not_eq_true',decide_eq_false_iff_not] at h36);omega
    refine zD 7<|zX (zI 0) ⟨rfl,rfl⟩
   have ajQ:=h35
   replace ajQ:=of_decide_eq_false ajQ
   refine zD 14<|zX (zI 0) ⟨rfl,rfl⟩
  have ajR:=h34
  replace ajR:=of_decide_eq_false ajR
  refine zD 19<|zX (zI 0) ⟨rfl,rfl⟩
 have ajV:=Tb
 replace ajV:=of_decide_eq_true (by simpa using ajV)
 refine jd 15 [0]<|js 113 (decide (gk.pG=(-1))) (fun h37=>?_) (fun h37=>?_)
 ·
  have ajP:=h37
  replace ajP:=of_decide_eq_true ajP
  refine jd 5 [0]<|js 118 (decide (gk.cls=(-1))) (fun h38=>?_) (fun h38=>?_)
  ·
   have ajO:=h38
   replace ajO:=of_decide_eq_true ajO
   refine jd 7 [0]<|zJ 124 ((Gm.eX.length:Int)=0) (fun h39=>?_) fun h39=>?_
   ·
    exfalso;(try simp only[Bool.or_eq_true,Bool.and_eq_true,decide_eq_true_eq,Bool.not_eq_true',decide_eq_false_iff_not] at h39);omega
   refine zD 7<|zX (zI 0) ⟨rfl,rfl⟩
  have ajO:=h38
  replace ajO:=of_decide_eq_false ajO
  refine zD 14<|zX (zI 0) ⟨rfl,rfl⟩
 have ajP:=h37
 replace ajP:=of_decide_eq_false ajP
 refine zD 19<|zX (zI 0) ⟨rfl,rfl⟩
theorem Yv{hv:List bW}(hR:kF ro vc vh cs hv hd)(kz:dc dN hv hd)(hT:mf cs hd):dG zT 176 [.agg ⟨[vc,vh]⟩] ro (zI 0):=by
 obtain⟨hc,hh,dk⟩:=id hR
 obtain⟨dF,Ak,Aj,dB,rfl,CQ,yP,yO⟩:=hc
 obtain⟨di,uQ,uP,cP,rfl,wF,pM,pK⟩:=hh
 have Fc:=hT.nc
 have hnh:=hT.nh
 have hlen:=kz.len
 refine zE<|zD 2<|jn fun b1=>jd 10 [0]<|jj 5 [(1,zP b1),(2,zI 0),(16,.bool ((decide ((cs.length:Int)>6))||(decide ((hv.length:Int)>6))))] (fun fA=>?_) (fun hj=>?_)
 rotate_left
 refine js 11 (decide ((cs.length:Int)>6)) (fun h1=>?_) (fun h1=>?_)
 ·
  have gM:=h1
  replace gM:=of_decide_eq_true gM
  refine zD 5<|jw 16 (.bool ((decide ((cs.length:Int)>6))||(decide ((hv.length:Int)>6)))) (w:= .bool true) (by rw[h1]<;>rfl) ?_
  exact zK hj
 ·
  have gM:=h1
  replace gM:=of_decide_eq_false gM
  refine jd 5 [0]<|jw 16 (.bool ((decide ((cs.length:Int)>6))||(decide ((hv.length:Int)>6)))) (w:= .bool (decide ((hv.length:Int)>6))) (by rw[h1]<;>rfl) ?_
  exact zK hj
 refine zD 1<|js 16 ((decide ((cs.length:Int)>6))||(decide ((hv.length:Int)>6))) (fun h2=>?_) (fun h2=>?_)
 ·
  try simp only[zB] at h2
  exfalso;omega
 try simp only[zB] at h2
 refine jd 11 [0]<|dH [1,1,0,1,0,0] [] (fun(zz:Nat)=>[(1,zP b1),(19,zI (cs.length:Int)),(20,zI (zz:Int))]) (fun zz=>[.b b1 (.cells ⟨[.slice dF cs.length dB,.slice di hv.length cP]⟩ 33 (0,0))]) (fun zz=>zz≤cs.length) (fun zz=>cs.length-zz) 0 (by omega) [0] ?_
 rintro k hI K1 bP rest
 refine zD 5<|zJ 21 ((k:Int) <(cs.length:Int)) (fun h3=>?_) fun h3=>?_
 ·
  refine jd 14 [0]<|jp (vs:=[.slice dF cs.length dB,zI (k:Int)]) [] [] (fun aJ hs hZ=>auv ((show bJ _ _ _ _ _ from ⟨dF,Ak,Aj,dB,rfl,CQ,yP,yO⟩).up hs) hT (by omega))<|zD 10<|zW ((k:Int)+1)<|zD 2<|zY bP (k+1) (by omega) [0]
 refine jd 11 [0]<|dH [1,1,1,0,1,0,0] [] (fun(zz:Nat)=>[(1,zP b1),(33,zI (hv.length:Int)),(34,zI (zz:Int))]) (fun zz=>[.b b1 (.cells ⟨[.slice dF cs.length dB,.slice di hv.length cP]⟩ 33 (0,0))]) (fun zz=>zz≤hv.length) (fun zz=>hv.length-zz) 0 (by omega) [0] ?_
 rintro j hJ K2 lL rest
 refine zD 5<|zJ 35 ((j:Int) <(hv.length:Int)) (fun h4=>?_) fun h4=>?_
 ·
  refine jd 13 [0]<|jp (vs:=[.agg ⟨[.slice dF cs.length dB,.slice di hv.length cP]⟩,zI (j:Int)]) [] [] (fun aJ hs hZ=>(aCZ (hR.up hs) kz hT (by omega)))<|zD 10<|zW ((j:Int)+1)<|zD 2<|zY lL (j+1) (by omega) [0]
 refine zD 7<|zX (zI 0) ⟨rfl,rfl⟩
theorem auw{hv:List bW}(hR:kF ro vc vh cs hv hd)(kz:dc dN hv hd)(hT:mf cs hd):dG zT 128 [.agg ⟨[vc,vh]⟩] ro (zI 0):=by
 obtain⟨hc,hh,dk⟩:=id hR
 obtain⟨dF,Ak,Aj,dB,rfl,CQ,yP,yO⟩:=hc
 obtain⟨di,uQ,uP,cP,rfl,wF,pM,pK⟩:=hh
 have Fc:=hT.nc
 have hnh:=hT.nh
 have hlen:=kz.len
 refine zE<|zD 2<|jn fun b1=>jd 5 [0]<|jp (vs:=[.agg ⟨[.slice dF cs.length dB,.slice di hv.length cP]⟩]) [] [] (fun aJ hs hZ=>(Yv (hR.up hs) kz hT))<|zD 3<|zX (zI 0) ⟨rfl,rfl⟩
def KU(a b:ByteArray):Int:=bif strLt a b then-1 else bif !(strLt a b||c8 a b) then 1 else 0
def PC:List ByteArray→List ByteArray→Int
 | [],[]=>0
 | [],_::_=> -1
 |_::_,[]=>1
 |x::xs,y::ys=>if KU x y=0 then PC xs ys else KU x y
theorem aaG{xs:List ByteArray}{y:ByteArray}(hx:xs[k]?=some x) (hy:ys[k]?=some y):PC (xs.drop k) (ys.drop k)=if KU x y=0 then PC (xs.drop (k+1)) (ys.drop (k+1)) else KU x y:=by rw[fg hx,fg hy];rfl
theorem ak0{xs:List ByteArray}(hx:xs[k]?=some x) (hy:¬k <ys.length):PC (xs.drop k) (ys.drop k)=1:=by rw[fg hx,eo hy];rfl
theorem TQ{xs:List ByteArray}(hx:¬k <xs.length):PC (xs.drop k) (ys.drop k)=if k <ys.length then-1 else 0:=by
 rw[eo hx]
 split
 ·rename_i h
  rw[List.drop_eq_getElem_cons h];rfl
 rename_i h
 rw[eo h];rfl
def tO(s p:ByteArray):Bool:=decide (s.size≥p.size)&&c8 (s.extract 0 p.size) p
structure ak where
 h:Int
 n:Int
 l:Int
abbrev bY(x:ak):List Value:=[zI x.h,zI x.n,zI x.l]
def oO(h n l:Int)(y:ak):Bool:=h==y.h&&(n==y.n&&(l==y.l&&true)&&true)
theorem aKT{a:ByteArray}:dG zT 324 [.string a] ro (.bool false):=by
 refine zE<|zD 12<|zX (.bool (!(c8 a a))) ⟨by rw[Dd.2 rfl];rfl,rfl⟩
theorem aZr{a b:ByteArray}:dG zT 309 [.string a,.string b] ro (zI (KU a b)):=by
 refine zE<|zD 7<|jp (vs:=[.string a]) [] [] (fun aJ hs hZ=>aKT)<|zD 5<|jp (vs:=[.string b]) [] [] (fun aJ hs hZ=>aKT)<|zD 23<|js 16 (strLt a b) (fun h1=>?_) (fun h1=>?_)
 ·
  refine zD 6<|zX (zI (-1)) ⟨by simp_all[KU],rfl⟩
 refine zD 9<|js 19 (!(strLt a b||c8 a b)) (fun h2=>?_) (fun h2=>?_)
 ·
  try simp only[zB] at h2
  refine zD 6<|zX (zI 1) ⟨by simp_all[KU],rfl⟩
 try simp only[zB] at h2
 refine zD 7<|zX (zI 0) ⟨by simp_all[KU],rfl⟩
theorem aQ7{v w:Value}{xs:List ByteArray}(hv:bJ ro v 1 rn xs)(hw:bJ ro w 1 rn ys)(hx:xs.length≤1000)(hy:ys.length≤1000):dG zT 282 [v,w] ro (zI (PC xs ys)):=by
 obtain⟨Rn,qvb,qvo,FG,rfl,qvk,VD,VC⟩:=hv
 obtain⟨FE,qwb,qwo,yN,rfl,qwk,P8,P7⟩:=hw
 refine zE<|zD 12<|dH [1,0,1,0,0] [] (fun(zz:Nat)=>[(0,.slice Rn xs.length FG),(1,.slice FE ys.length yN),(9,.slice Rn xs.length FG),(10,zI (xs.length:Int)),(11,zI (zz:Int))]) (fun zz=>[]) (fun zz=>(zz≤xs.length∧zz≤ys.length)∧PC xs ys=PC (xs.drop zz) (ys.drop zz)) (fun zz=>xs.length-zz) 0 ⟨by omega,rfl⟩ [] ?_
 rintro k hI K1 bP rest
 refine zD 5<|zJ 12 ((k:Int) <(xs.length:Int)) (fun h1=>?_) fun h1=>?_
 ·
  refine zD 7 ?_
  obtain⟨gk,eS⟩:=zG xs k
  refine fK FG 1 VD eS<|jl 0 (VC _ _ eS)<|zD 11<|zJ 19 ((k:Int)≥(ys.length:Int)) (fun h2=>?_) fun h2=>?_
  ·
   refine zD 6<|zX (zI 1) ⟨by rw[hI.2,ak0 eS (by omega)],rfl⟩
  refine zD 6 ?_
  obtain⟨gN,ig⟩:=zG ys k
  refine fK yN 1 P8 ig<|jl 0 (P7 _ _ ig)<|zD 6<|jp (vs:=[.string gk,.string gN]) [] [] (fun aJ hs hZ=>aZr)<|zD 7<|js 28 (!decide ((KU gk gN)=0)) (fun h3=>?_) (fun h3=>?_)
  ·
   replace h3:=of_decide_eq_false (by simpa using h3)
   refine zD 7<|zX (zI (KU gk gN)) ⟨by rw[hI.2,aaG eS ig,if_neg (by omega)],rfl⟩
  replace h3:=of_decide_eq_true (by simpa using h3)
  refine zD 3<|zW ((k:Int)+1)<|zD 2<|zY bP (k+1) ⟨by omega,by rw[hI.2,aaG eS ig,if_pos (by omega)]⟩ []
 refine zD 11<|zJ 35 ((xs.length:Int) <(ys.length:Int)) (fun h4=>?_) fun h4=>?_
 ·
  refine zD 6<|zX (zI (-1)) ⟨by rw[hI.2,TQ (by omega),if_pos (by omega)],rfl⟩
 refine zD 7<|zX (zI 0) ⟨by rw[hI.2,TQ (by omega),if_neg (by omega)],rfl⟩
theorem acH{a b:ByteArray}(hn:a.size≤1000∧b.size≤1000):dG zT 346 [.string a,.string b] ro (.bool (tO a b)):=by
 refine zE<|zD 12<|js 10 (decide ((a.size:Int)≥(b.size:Int))) (fun h1=>?_) (fun h1=>?_)
 ·
  have gM:=h1
  replace gM:=of_decide_eq_true gM
  refine zD 3<|jtH (b:=a) (hi:=(b.size:Int)) (by omega)<|zD 6<|zX (.bool (c8 (a.extract 0 (b.size:Int).toNat) b)) ⟨by simp_all[tO]<;>(intro;omega),rfl⟩
 have gM:=h1
 replace gM:=of_decide_eq_false gM
 refine zD 10<|zX (.bool false) ⟨by simp_all[tO]<;>(intro;omega),rfl⟩
theorem acI{a b:ByteArray}(hn:a.size≤1000∧b.size≤1000):dG zT 339 [.string a,.string b] ro (.bool (tO a b)):=by
 refine zE<|zD 8<|jp (vs:=[.string a,.string b]) [] [] (fun aJ hs hZ=>(acH (by omega)))<|zD 3<|zX (.bool (tO a b)) ⟨rfl,rfl⟩
theorem aht{v:Value}{ps:List ak}{l:Int}(hp:bJ ro v 3 bY ps)(hn:ps.length≤1000):dG zT 132 [v,.agg ⟨[zI h,zI n,zI l]⟩] ro (zI (bS (oO h n l) ps 0)):=by
 obtain⟨Uj,qpb,qpo,Mi,rfl,qpk,qph,qpl⟩:=hp
 refine zE<|zD 2<|jn fun b3=>zD 10<|dH [1,0,1,0,0] [] (fun(zz:Nat)=>[(0,.slice Uj ps.length Mi),(3,zP b3),(7,zI (ps.length:Int)),(8,zI (zz:Int))]) (fun zz=>[.b b3 (.cells ⟨[zI h,zI n,zI l]⟩ 132 (0,0))]) (fun zz=>zz≤ps.length∧bS (oO h n l) ps 0=bS (oO h n l) (ps.drop zz) zz) (fun zz=>ps.length-zz) 0 ⟨by omega,rfl⟩ [0] ?_
 rintro k hI K1 bP rest
 refine zD 5<|zJ 9 ((k:Int) <(ps.length:Int)) (fun h1=>?_) fun h1=>?_
 ·
  refine jd 14 [0] ?_
  obtain⟨gk,eS⟩:=zG ps k
  refine fK Mi 3 qph eS<|jl 0 (qpl _ _ eS)<|jeq arN (akD h n l gk.h gk.n gk.l)<|zD 1<|js 16 (h==gk.h&&(n==gk.n&&(l==gk.l&&true)&&true)) (fun h2=>?_) (fun h2=>?_)
  ·
   refine zD 7<|zX (zI (k:Int)) ⟨by rw[hI.2,kA eS,show oO h n l gk=true from (by assumption)];rfl,rfl⟩
  refine zD 3<|zW ((k:Int)+1)<|zD 2<|zY bP (k+1) ⟨by omega,by rw[hI.2,kA eS,show oO h n l gk=false from (by assumption)];rfl⟩ [0]
 refine zD 7<|zX (zI (-1)) ⟨by rw[hI.2,ri (by omega)],rfl⟩
theorem ML{v:Value}{ps:List ak}{l:Int}(hp:bJ ro v 3 bY ps)(hn:ps.length≤1000):dG zT 92 [v,.agg ⟨[zI h,zI n,zI l]⟩] ro (.bool (decide (bS (oO h n l) ps 0≥0))):=by
 obtain⟨Uj,qpb,qpo,Mi,rfl,qpk,qph,qpl⟩:=hp
 refine zE<|zD 2<|jn fun b3=>jd 6 [0]<|jp (vs:=[.slice Uj ps.length Mi,.agg ⟨[zI h,zI n,zI l]⟩]) [] [] (fun aJ hs hZ=>aht ((show bJ _ _ _ _ _ from ⟨Uj,qpb,qpo,Mi,rfl,qpk,qph,qpl⟩).up hs) (by first|omega| (simp only[List.length_set,zM];omega))) ?_
 refine zD 4<|zX (.bool (decide ((bS (oO h n l) ps 0)≥0))) ⟨rfl,rfl⟩
theorem agz{v:Value}{ws:List ByteArray}(hv:bJ ro v 1 rn ws)(hn:ws.length≤1000)(hW:∀w∈ws,(1≤w.size∧w.size≤6)∧Script w):dG zT 246 [v] ro (zI 0):=by
 obtain⟨Rn,qvb,qvo,FG,rfl,qvk,VD,VC⟩:=hv
 refine zE<|zD 12<|dH [1,0,1,0,0] [] (fun(zz:Nat)=>[(6,.slice Rn ws.length FG),(7,zI (ws.length:Int)),(8,zI (zz:Int))]) (fun zz=>[]) (fun zz=>zz≤ws.length) (fun zz=>ws.length-zz) 0 (by omega) [] ?_
 rintro k hI K1 bP rest
 refine zD 5<|zJ 9 ((k:Int) <(ws.length:Int)) (fun h1=>?_) fun h1=>?_
 ·
  refine zD 6 ?_
  obtain⟨x10,pS⟩:=zG ws k
  refine fK FG 1 VD pS<|jl 0 (VC _ _ pS)<|zD 5<|jp (vs:=[.string x10]) [] [] (fun aJ hs hZ=>(VX (hW _ (zL pS)).1 (hW _ (zL pS)).2))<|zD 10<|zW ((k:Int)+1)<|zD 2<|zY bP (k+1) (by omega) []
 refine zD 7<|zX (zI 0) ⟨rfl,rfl⟩
def yJ(w:ByteArray):Prop:=∀b∈w.data.toList,b.toNat <128∧kindOf (b.toNat:Int)=1
def aol(w:ByteArray):Bool:=w.data.toList.all fun b=>Nat.blt b.toNat 128&&decide (kindOf (b.toNat:Int)=1)
theorem HU{w:ByteArray}(h:aol w=true):yJ w:=fun b hb=>by
 have:=List.all_eq_true.1 h b hb
 simp only[Bool.and_eq_true,Nat.blt_eq,decide_eq_true_eq] at this
 exact this
def YH(r:dq):Bool:=(Nat.ble 1 r.f.size&&Nat.ble r.f.size 2)&&(Nat.ble r.t.size 2&&(aol r.f&&(aol r.t&& !c8 r.f r.t)))
theorem abz:(asT.all fun f=>toW.all fun t=>YH ⟨f,t⟩)=true:=by kernel_rfl
structure sM(r:dq):Prop where
 f1:1≤r.f.size∧r.f.size≤2
 t1:r.t.size≤2
 fl:yJ r.f
 tl:yJ r.t
 ne:c8 r.f r.t=false
theorem auG{r:dq}(h:JB r):sM r:=by
 have:=List.all_eq_true.1 (List.all_eq_true.1 abz r.f h.1) r.t h.2
 simp only[YH,Bool.and_eq_true,Nat.ble_eq,Bool.not_eq_true'] at this
 exact⟨this.1,this.2.1,HU this.2.2.1,HU this.2.2.2.1,this.2.2.2.2⟩
theorem aFd:dG zT 303 [.int .i32 r] ro (.bool (!decide (kindOf r=1))):=by
 refine zE<|zD 7<|jp (vs:=[.int .i32 r]) [] [] (fun aJ hs hZ=>arO)<|zD 4<|zX (.bool (!decide ((kindOf r)=1))) ⟨rfl,rfl⟩
theorem aQ6{w:ByteArray}(hK:yJ w):dG zT 330 [.string w,.func (.func 303) ⟨[]⟩ ⟨[]⟩,.bool true] ro (zI (-1)):=by
 refine zE<|zD 8<|jn fun r10=>zD 2<|dH [1,0,1,0,0] [] (fun(zz:Nat)=>[(1,.func (.func 303) ⟨[]⟩ ⟨[]⟩),(2,.bool true),(10,zP r10)]) (fun zz=>[.b r10 (.stringIter w zz)]) (fun zz=>zz≤w.data.toList.length) (fun zz=>w.data.toList.length-zz) 0 (by omega) [0] ?_
 rintro p hI K1 bP rest
 refine zD 2 ?_
 cases acz:w.data.toList[p]? with
 |some x11=>
  refine jnA r10 0 acz (hK _ (zL acz)).1<|zD 14 ?_
  have Z5:=(hK _ (zL acz)).2
  refine zD 3<|jp (vs:=[.int .i32 (x11.toNat:Int)]) [] [] (fun aJ hs hZ=>aFd)<|zD 1<|je (.bool ((!decide (kindOf (x11.toNat:Int)=1))==true)) rfl<|zD 1<|js 19 ((!decide (kindOf (x11.toNat:Int)=1))==true) (fun h1=>?_) (fun h1=>?_)
  ·
   exfalso;rw[Z5] at h1;cases h1
  refine zD 2<|bF bP (p+1) (by have:=(List.getElem?_eq_some_iff.1 acz).1;omega) (by have:=(List.getElem?_eq_some_iff.1 acz).1;omega) [0] (Sub.refl _)
 |none=>
  refine jnZ r10 0 acz<|zD 10<|zX (zI (-1)) ⟨rfl,rfl⟩
theorem aDf{w:ByteArray}(hK:yJ w):dG zT 315 [.string w,.func (.func 303) ⟨[]⟩ ⟨[]⟩] ro (zI (-1)):=by
 refine zE<|zD 8<|jp (vs:=[.string w,.func (.func 303) ⟨[]⟩ ⟨[]⟩,.bool true]) [] [] (fun aJ hs hZ=>(aQ6 hK))<|zD 3<|zX (zI (-1)) ⟨rfl,rfl⟩
theorem aDh{w:ByteArray}(hK:yJ w):dG zT 302 [.string w,.func (.func 303) ⟨[]⟩ ⟨[]⟩] ro (.bool false):=by
 refine zE<|zD 8<|jp (vs:=[.string w,.func (.func 303) ⟨[]⟩ ⟨[]⟩]) [] [] (fun aJ hs hZ=>(aDf hK))<|zD 4<|zX (.bool false) ⟨rfl,rfl⟩
theorem R2{w:ByteArray}(hK:yJ w)(hn:w.size≤1000):dG zT 278 [.string w,zI lo,zI hi] ro (.bool (decide (lo≤w.size)&&decide ((w.size:Int)≤hi))):=by
 refine zE<|zD 11<|jj 5 [(0,.string w),(6,.bool false),(16,.bool ((decide (lo≤(w.size:Int)))&&(decide ((w.size:Int)≤hi))))] (fun fA=>?_) (fun hj=>?_)
 rotate_left
 refine js 11 (decide (lo≤(w.size:Int))) (fun h1=>?_) (fun h1=>?_)
 ·
  have gM:=h1
  replace gM:=of_decide_eq_true gM
  refine zD 5<|jw 16 (.bool ((decide (lo≤(w.size:Int)))&&(decide ((w.size:Int)≤hi)))) (w:= .bool (decide ((w.size:Int)≤hi))) (by rw[h1]<;>rfl) ?_
  exact zK hj
 ·
  have gM:=h1
  replace gM:=of_decide_eq_false gM
  refine zD 5<|jw 16 (.bool ((decide (lo≤(w.size:Int)))&&(decide ((w.size:Int)≤hi)))) (w:= .bool false) (by rw[h1]<;>rfl) ?_
  exact zK hj
 refine zD 1<|jj 4 [(6,.bool false),(21,.bool (((decide (lo≤(w.size:Int)))&&(decide ((w.size:Int)≤hi)))&&true))] (fun fA=>?_) (fun hj=>?_)
 rotate_left
 refine js 17 ((decide (lo≤(w.size:Int)))&&(decide ((w.size:Int)≤hi))) (fun h2=>?_) (fun h2=>?_)
 ·
  have mU:=h2
  try simp only[zB] at mU
  refine zD 1<|jp (vs:=[.string w,.func (.func 303) ⟨[]⟩ ⟨[]⟩]) [] [] (fun aJ hs hZ=>(aDh hK))<|zD 2<|jw 21 (.bool (((decide (lo≤(w.size:Int)))&&(decide ((w.size:Int)≤hi)))&&true)) (w:= .bool true) (by rw[h2]<;>rfl) ?_
  exact zK hj
 ·
  have mU:=h2
  try simp only[zB] at mU
  refine zD 4<|jw 21 (.bool (((decide (lo≤(w.size:Int)))&&(decide ((w.size:Int)≤hi)))&&true)) (w:= .bool false) (by rw[h2]<;>rfl) ?_
  exact zK hj
 refine zD 3<|zX (.bool (((decide (lo≤(w.size:Int)))&&(decide ((w.size:Int)≤hi)))&&true)) ⟨by simp_all,rfl⟩
theorem Mw{w:ByteArray}(hK:yJ w)(h1:lo≤w.size)(h2:(w.size:Int)≤hi)(h3:w.size≤1000):dG zT 278 [.string w,zI lo,zI hi] ro (.bool true):=by
 have:=R2 (ro:=ro) hK h3 (lo:=lo) (hi:=hi)
 rw[decide_eq_true h1,decide_eq_true h2] at this
 exact this
theorem ab0{v:Value}(hv:bJ ro v 2 lE rs)(hn:rs.length≤4)(hR:∀r∈rs,sM r):dG zT 245 [v] ro (zI 0):=by
 obtain⟨Rn,qvb,qvo,FG,rfl,qvk,VD,VC⟩:=hv
 refine zE<|zD 11<|zJ 7 ((rs.length:Int)>4) (fun h1=>?_) fun h1=>?_
 ·
  exfalso;omega
 refine zD 10<|dH [1,1,0,1,0,0] [] (fun(zz:Nat)=>[(8,.slice Rn rs.length FG),(9,zI (rs.length:Int)),(10,zI (zz:Int))]) (fun zz=>[]) (fun zz=>zz≤rs.length) (fun zz=>rs.length-zz) 0 (by omega) [] ?_
 rintro k hI K1 bP rest
 refine zD 5<|zJ 11 ((k:Int) <(rs.length:Int)) (fun h2=>?_) fun h2=>?_
 ·
  refine zD 6 ?_
  obtain⟨y7,qS⟩:=zG rs k
  refine fK FG 2 VD qS<|jl 0 (VC _ _ qS)<|jn fun b4=>jd 3 [0] ?_
  have hrp:=(hR _ (zL qS))
  have hrf:=hrp.f1
  have hrt:=hrp.t1
  refine jd 3 [0]<|jp (vs:=[.string y7.f,zI 1,zI 2]) [] [] (fun aJ hs hZ=>(Mw hrp.fl (by omega) (by omega) (by omega)))<|jd 4 [0]<|jp (vs:=[.string y7.t,zI 0,zI 2]) [] [] (fun aJ hs hZ=>(Mw hrp.tl (by omega) (by omega) (by omega)))<|jd 10 [0,0]<|js 30 (c8 y7.f y7.t) (fun h3=>?_) (fun h3=>?_)
  ·
   exfalso;rw[hrp.ne] at h3;cases h3
  refine zD 3<|zW ((k:Int)+1)<|zD 2<|zY bP (k+1) (by omega) []
 refine zD 7<|zX (zI 0) ⟨rfl,rfl⟩
def iB:List Int→Int
 | []=>0
 |x::xs=>xs.foldl min x
def lT:List Int→Int
 | []=>0
 |x::xs=>xs.foldl max x
theorem avD{x:Int}(h:xs[0]?=some x):iB xs=(xs.drop 1).foldl min x:=by
 cases xs with
 |nil=>cases h
 |cons y l=>simp at h;subst h;rfl
theorem avF{x:Int}(h:xs[0]?=some x):lT xs=(xs.drop 1).foldl max x:=by
 cases xs with
 |nil=>cases h
 |cons y l=>simp at h;subst h;rfl
def oP(l:List Int):Int:=(l.filter fun x=>decide (x>0)).length
theorem Mo{l:List Int}{x:Int}(h:l[k]?=some x):oP (l.take (k+1))=oP (l.take k)+if x>0 then 1 else 0:=by
 rw[cG h,oP,List.filter_append,oP]
 by_cases hx:x>0<;>simp[hx]
structure aj where
 past:Int
 w0:Int
 w1:Int
 w2:Int
 w3:Int
 gone:Int
 new:Int
 af:Int
abbrev cY(x:aj):List Value:=[zI x.past,zI x.w0,zI x.w1,zI x.w2,zI x.w3,zI x.gone,zI x.new,zI x.af]
def bV(g n m:Int)(x:aj):Bool:=decide (x.gone≤g)&&(decide (x.new≤n)&&decide (x.af≤m))
def hasB(f i:Int):Bool:=decide (We .u8 (aV .u8 f i) 1=1)
theorem aQ4{v:Value}(hl:bJ ro v 1 aS xs)(hn:0 <xs.length∧xs.length≤1000000):dG zT 120 [v] ro (zI (iB xs)):=by
 obtain⟨fU,sg,sb,eZ,rfl,uz,lA,lZ⟩:=hl
 refine zE<|zD 11<|zJ 7 ((xs.length:Int) <1) (fun h1=>?_) fun h1=>?_
 ·
  exfalso;omega
 refine zD 5 ?_
 obtain⟨x10,pS⟩:=zG xs 0
 refine fK eZ 1 lA pS<|jl 0 (lZ _ _ pS)<|zD 8<|dH [1,1,1,0,1,0,0] [] (fun(zz:Nat×Int)=>[(0,.slice fU xs.length eZ),(2,zI 0),(3,zI zz.2),(4,zI (zz.1:Int))]) (fun zz=>[]) (fun zz=>(1≤zz.1∧zz.1≤xs.length)∧iB xs=(xs.drop zz.1).foldl min zz.2) (fun zz=>xs.length-zz.1) (⟨1,x10⟩) ⟨by dsimp only;omega,avD pS⟩ [] ?_
 rintro⟨k,m⟩ hI K1 bP rest
 dsimp only at hI
 refine zD 8<|zJ 15 ((k:Int) <(xs.length:Int)) (fun h2=>?_) fun h2=>?_
 ·
  refine zD 8 ?_
  obtain⟨zx,qR⟩:=zG xs k
  refine fK eZ 1 lA qR<|jl 0 (lZ _ _ qR)<|jmn (k:= .i64) (a:=m) (b:=zx)<|zD 4<|zW ((k:Int)+1)<|zD 2<|zF bP (⟨k+1,(min m zx)⟩) (by rw[hI.2,fg qR];rfl) []
 refine zD 8<|zX (zI m) ⟨by rw[hI.2,eo (by omega)];rfl,rfl⟩
theorem aQ5{v:Value}(hl:bJ ro v 1 aS xs)(hn:0 <xs.length∧xs.length≤1000000):dG zT 121 [v] ro (zI (lT xs)):=by
 obtain⟨fU,sg,sb,eZ,rfl,uz,lA,lZ⟩:=hl
 refine zE<|zD 11<|zJ 7 ((xs.length:Int) <1) (fun h1=>?_) fun h1=>?_
 ·
  exfalso;omega
 refine zD 5 ?_
 obtain⟨x10,pS⟩:=zG xs 0
 refine fK eZ 1 lA pS<|jl 0 (lZ _ _ pS)<|zD 8<|dH [1,1,1,0,1,0,0] [] (fun(zz:Nat×Int)=>[(0,.slice fU xs.length eZ),(2,zI 0),(3,zI zz.2),(4,zI (zz.1:Int))]) (fun zz=>[]) (fun zz=>(1≤zz.1∧zz.1≤xs.length)∧lT xs=(xs.drop zz.1).foldl max zz.2) (fun zz=>xs.length-zz.1) (⟨1,x10⟩) ⟨by dsimp only;omega,avF pS⟩ [] ?_
 rintro⟨k,m⟩ hI K1 bP rest
 dsimp only at hI
 refine zD 8<|zJ 15 ((k:Int) <(xs.length:Int)) (fun h2=>?_) fun h2=>?_
 ·
  refine zD 8 ?_
  obtain⟨zx,qR⟩:=zG xs k
  refine fK eZ 1 lA qR<|jl 0 (lZ _ _ qR)<|jmx (k:= .i64) (a:=m) (b:=zx)<|zD 4<|zW ((k:Int)+1)<|zD 2<|zF bP (⟨k+1,(max m zx)⟩) (by rw[hI.2,fg qR];rfl) []
 refine zD 8<|zX (zI m) ⟨by rw[hI.2,eo (by omega)];rfl,rfl⟩
theorem ZC{v:Value}(hl:bJ ro v 1 aS xs)(hn:0 <xs.length∧xs.length≤1000000):dG zT 62 [v] ro (.agg ⟨[zI (iB xs),zI (lT xs)]⟩):=by
 obtain⟨fU,sg,sb,eZ,rfl,uz,lA,lZ⟩:=hl
 refine zE<|zD 2<|jn fun b2=>zD 4<|jp (vs:=[.slice fU xs.length eZ]) [] [] (fun aJ hs hZ=>aQ4 ((show bJ _ _ _ _ _ from ⟨fU,sg,sb,eZ,rfl,uz,lA,lZ⟩).up hs) (by omega))<|zD 1<|jp (vs:=[.slice fU xs.length eZ]) [] [] (fun aJ hs hZ=>aQ5 ((show bJ _ _ _ _ _ from ⟨fU,sg,sb,eZ,rfl,uz,lA,lZ⟩).up hs) (by omega))<|jd 4 [0]<|zR (.agg ⟨[zI (iB xs),zI (lT xs)]⟩) [0] [] [] ⟨rfl,rfl⟩
theorem aoH{x:aj}:dG zT 61 [.agg ⟨[zI x.past,zI x.w0,zI x.w1,zI x.w2,zI x.w3,zI x.gone,zI x.new,zI x.af]⟩] ro (.bool true):=by
 refine zE<|zD 2<|jn fun b1=>zD 7<|zX (.bool true) ⟨rfl,rfl⟩
theorem ahr{f:Nat}{x:aj}{c2 c3 c4:Value}(hf:ro f=some (.cells ⟨[c0,c1,c2,c3,c4,c5,c6,c7,zI gone,zI new,zI af,c11,vt]⟩ 165 (0,0))):dG zT 98 [zP f,.agg ⟨[zI x.past,zI x.w0,zI x.w1,zI x.w2,zI x.w3,zI x.gone,zI x.new,zI x.af]⟩] ro (.bool (bV gone new af x)):=by
 refine zE<|zD 2<|jn fun b3=>jd 10 [0]<|jl (b:=f) (off:=0) (m:=13) (vs:=[c0,c1,c2,c3,c4,c5,c6,c7,zI gone,zI new,zI af,c11,vt]) 8 ⟨_,_,_,.inl hf,rfl⟩<|zD 2<|js 8 (decide (x.gone≤gone)) (fun h1=>?_) (fun h1=>?_)
 ·
  have gM:=h1
  replace gM:=of_decide_eq_true gM
  refine jd 6 [0]<|jl (b:=f) (off:=0) (m:=13) (vs:=[c0,c1,c2,c3,c4,c5,c6,c7,zI gone,zI new,zI af,c11,vt]) 9 ⟨_,_,_,.inl hf,rfl⟩<|zD 3<|js 18 (decide (x.new≤new)) (fun h2=>?_) (fun h2=>?_)
  ·
   have mU:=h2
   replace mU:=of_decide_eq_true mU
   refine jd 6 [0]<|jl (b:=f) (off:=0) (m:=13) (vs:=[c0,c1,c2,c3,c4,c5,c6,c7,zI gone,zI new,zI af,c11,vt]) 10 ⟨_,_,_,.inl hf,rfl⟩<|zD 5<|zX (.bool (decide (x.af≤af))) ⟨by simp_all[bV]<;>(intros;omega),rfl⟩
  have mU:=h2
  replace mU:=of_decide_eq_false mU
  refine zD 12<|zX (.bool false) ⟨by simp_all[bV]<;>(intros;omega),rfl⟩
 have gM:=h1
 replace gM:=of_decide_eq_false gM
 refine zD 22<|zX (.bool false) ⟨by simp_all[bV]<;>(intros;omega),rfl⟩
theorem awk{f i:Int}(hi:0≤i∧i≤8):dG zT 100 [.int .u8 f,zI i] ro (.bool (hasB f i)):=by
 refine zE<|zD 8<|jsr (k:= .u8) (k':= .i64) (a:=f) (b:=i) 111 (by omega)<|zD 5<|zX (.bool (decide ((We .u8 (aV .u8 f i) 1)=1))) ⟨rfl,rfl⟩
theorem av2{p0 p1 p2 p3:Int}:dG zT 141 [.agg ⟨[zI p0,zI p1,zI p2,zI p3]⟩] ro (zI (oP [p0,p1,p2,p3])):=by
 refine zE<|zD 2<|jn fun b1=>jd 13 [0]<|dH [1,1,0,1,0,0] [] (fun(zz:Nat×Int)=>[(2,zI 0),(3,zI zz.2),(6,.agg ⟨[zI p0,zI p1,zI p2,zI p3]⟩),(7,zI (zz.1:Int))]) (fun zz=>[]) (fun zz=>zz.1≤4∧zz.2=oP ([p0,p1,p2,p3].take zz.1)∧(0≤zz.2∧zz.2≤zz.1)) (fun zz=>4-zz.1) (⟨0,0⟩) ⟨by omega,rfl,by omega⟩ [] ?_
 rintro⟨k,n⟩ hI K1 bP rest
 dsimp only at hI
 refine zD 5<|zJ 8 ((k:Int) <4) (fun h1=>?_) fun h1=>?_
 ·
  refine zD 6 ?_
  obtain⟨x9,hx9⟩:=zG ([p0,p1,p2,p3]:List Int) k (show k <4 from by omega)
  refine jai (l:=[zI p0,zI p1,zI p2,zI p3]) (k:Int) 4 1 false (by omega) (v:= zI x9) (show nth _ (k*1)=_ by rw[Nat.mul_one];exact aS1 hx9) ?_
  refine zD 7<|zJ 11 (x9>0) (fun h2=>?_) fun h2=>?_
  ·
   refine zD 3<|zW (n+1)<|zD 3<|zW ((k:Int)+1)<|zD 2<|zF bP (⟨k+1,(n+1)⟩) ⟨by rw[Mo hx9,if_pos (by assumption),hI.2.1],by dsimp only;omega⟩ []
  refine zD 3<|zW ((k:Int)+1)<|zD 2<|zF bP (⟨k+1,n⟩) ⟨by rw[Mo hx9,if_neg (by assumption),hI.2.1,Int.add_zero],by dsimp only;omega⟩ []
 refine zD 8<|zX (zI n) ⟨by rw[hI.2.1,show k=4 by omega];rfl,rfl⟩
theorem sw{xs:List α}{a:Option Addr}{o:Nat}(h:∀k,k <xs.length→a=some ⟨b,o,none⟩)(hn:a.isNone=true):xs=[]:=by
 cases xs with
 |nil=>rfl
 |cons x l=>rw[h 0 (by simp)] at hn;cases hn
theorem auC{v:Value}{xs:List ByteArray}(hl:bJ ro v 1 rn xs)(hn:xs.length≤1000):ee zT 307 [v] ro [] (fun r Y=>∃L,aA r 1 9 rn xs L∧Y=L):=by
 obtain⟨fU,sg,sb,eZ,rfl,uz,lA,lZ⟩:=hl
 refine zE<|zD 8<|jsn 167 (a:=fU) (l:=xs.length) (c:=eZ)<|zD 1<|js 4 (fU.isNone) (fun h1=>?_) (fun h1=>?_)
 ·
  refine zD 6<|zX (zS) ⟨[],by rw[sw lA (by assumption)];exact aA.nil _ _ _,rfl⟩
 refine zD 4<|jn fun b5=>zD 1<|BS (sz:=1) (ps:=[]) (qs:=xs) (enc:=rn) (w:= .slice fU xs.length eZ) [0] [] [] (cU (b:=b5) (T:=9)) (fun s he _=>⟨fU,sg,sb,eZ,rfl,lA,fun i p hp=>(lZ i p hp).ext he⟩) (fun p _=>bM rfl) (by simp<;>omega) (fun v7 L7 jk=>?_)
 rw[List.nil_append] at jk
 obtain⟨UT,UP,S0⟩:=jk.form
 subst S0
 refine zD 3<|zR ((.slice UT (xs).length UP)) [] [0] L7 ⟨_,jk,rfl⟩
theorem aTo{f:Nat}{c2 c3 c4:Value}(hx:bJ ro c11 3 y6 fs)(hf:ro f=some (.cells ⟨[c0,c1,c2,c3,c4,c5,c6,c7,zI gone,zI new,zI af,c11,vt]⟩ 165 (0,0)))(hn:fs.length≤7):dG zT 46 [zP f] ro (.int .u8 (IntKind.u8.wrap (dZ .u8 1 (fs.length:Int)-1))):=by
 obtain⟨qxa,qxb,qxo,qxc,rfl,qxk,qxh,qxl⟩:=hx
 refine zE<|zD 10<|jl (b:=f) (off:=0) (m:=13) (vs:=[c0,c1,c2,c3,c4,c5,c6,c7,zI gone,zI new,zI af,.slice qxa fs.length qxc,vt]) 11 ⟨_,_,_,.inl hf,rfl⟩<|zD 1<|jsh (k:= .u8) (k':= .i64) (a:=1) (b:=(fs.length:Int)) 111 (by omega)<|zD 4<|zX (.int .u8 (IntKind.u8.wrap ((dZ .u8 1 (fs.length:Int))-1))) ⟨rfl,rfl⟩
theorem yb{r:Value}{A B:Prop}(h:(r= .bool true∧A)∨(r= .bool false∧B)):∃c,r= .bool c∧(c=true→A)∧(c=false→B):=by
 rcases h with ⟨rfl,h⟩| ⟨rfl,h⟩
 ·exact⟨true,rfl,fun _=>h,nofun⟩
 exact⟨false,rfl,nofun,fun _=>h⟩
def vz(w f t:ByteArray)(i:Nat):ByteArray:=w.extract 0 (i:Int).toNat++t++w.extract ((i:Int)+(f.size:Int)).toNat w.size
def qH(w f t:ByteArray)(i:Nat):Option ByteArray:=if tO (w.extract i w.size) f=true∧1≤(vz w f t i).size∧(vz w f t i).size≤12 then some (vz w f t i) else none
def wm(w f t:ByteArray)(k:Nat):List ByteArray:=(List.range k).filterMap (qH w f t)
def E0(w f t:ByteArray):List ByteArray:=wm w f t (w.size+1)
theorem Dj(w f t:ByteArray)(k:Nat):wm w f t (k+1)=wm w f t k++(qH w f t k).toList:=by
 rw[wm,wm,List.range_succ,List.filterMap_append]
 cases h:qH w f t k<;>simp[h]
theorem afp(w f t:ByteArray){n:Nat}(h:k≤n):∃l,wm w f t n=wm w f t k++l:=by
 induction n with
 |zero=>exact⟨[],by rw[show k=0 by omega];simp⟩
 |succ n ih=>
  by_cases hk:k=n+1
  ·exact⟨[],by rw[hk];simp⟩
  obtain⟨l,hl⟩:=ih (by omega)
  exact⟨l++(qH w f t n).toList,by rw[Dj,hl,List.append_assoc]⟩
theorem Rj{w:ByteArray}{n:Nat}(hk:k <n)(h:qH w f t k=some x):(wm w f t n)[(wm w f t k).length]?=some x∧(wm w f t (k+1)).length=(wm w f t k).length+1:=by
 obtain⟨l,hl⟩:=afp w f t (k:=k+1) (n:=n) hk
 rw[hl,Dj,h]
 constructor
 ·rw[List.append_assoc,List.getElem?_append_right (Nat.le_refl _)];simp
 simp
theorem YL{w:ByteArray}(h:qH w f t k=none):(wm w f t (k+1)).length=(wm w f t k).length:=by
 rw[Dj,h];simp
abbrev asX(l:List ByteArray):(Nat→Option Obj)→Nat→List Value→Cells→Prop:=fun _ k vs LL=>∃x,l[k]?=some x∧vs=[.string x]∧LL=[]
theorem yJ.ext{w:ByteArray}(h:yJ w)(i j:Nat):yJ (w.extract i j):=by
 intro b hb
 refine h b ?_
 have:(w.extract i j).data.toList=(w.data.extract i j).toList:=by simp[ByteArray.data_extract]
 rw[this,Array.toList_extract] at hb
 simp only[List.extract_eq_drop_take] at hb
 exact List.mem_of_mem_drop (List.mem_of_mem_take hb)
theorem yJ.app{v w:ByteArray}(h:yJ v)(k:yJ w):yJ (v++w):=by
 intro b hb
 have:(v++w).data.toList=v.data.toList++w.data.toList:=by simp[ByteArray.data_append]
 rw[this] at hb
 exact(List.mem_append.1 hb).elim (h b) (k b)
theorem Ma{w:ByteArray}(hw:yJ w)(ht:yJ t):yJ (vz w f t i):=((hw.ext _ _).app ht).app (hw.ext _ _)
theorem afU{a b:ByteArray}(h:tO a b=true):b.size≤a.size:=by
 unfold tO at h
 simp only[Bool.and_eq_true,decide_eq_true_eq] at h
 omega
def agZ(w:ByteArray):Bool:=decide ((1:Int)≤w.size)&&decide ((w.size:Int)≤12)
theorem Vw{w:ByteArray}(h:tO (w.extract (k:Int).toNat w.size) f=false):qH w f t k=none:=if_neg fun x=>by
 have h1:tO (w.extract k w.size) f=false:=h
 rw[h1] at x;cases x.1
theorem abB{w:ByteArray}(h:agZ (vz w f t k)=false):qH w f t k=none:=if_neg fun x=>by
 simp only[agZ,Bool.and_eq_false_iff,decide_eq_false_iff_not] at h
 omega
theorem Vv{w:ByteArray}(h:tO (w.extract (k:Int).toNat w.size) f=true)(h2:agZ (vz w f t k)=true):qH w f t k=some (vz w f t k):=if_pos ⟨h,by
 simp only[agZ,Bool.and_eq_true,decide_eq_true_eq] at h2
 omega⟩
theorem Vu{w:ByteArray}(h:w.size≤100∧f.size≤100∧t.size≤100):(vz w f t k).size≤1000:=by
 simp only[vz,ByteArray.size_append,ByteArray.size_extract];omega
theorem anq{w:ByteArray}(hk:k≤w.size)(h:qH w f t k=some (vz w f t k)):(wm w f t k).length <(E0 w f t).length∧(E0 w f t)[(wm w f t k).length]?=some (vz w f t k):=by
 have:=(Rj (n:=w.size+1) (by omega) h).1
 exact⟨(List.getElem?_eq_some_iff.1 this).1,this⟩
theorem Xt(w:ByteArray)(a b:Nat):(w.extract a b).size≤w.size:=by simp;omega
theorem akt(w:ByteArray)(i:Nat)(h:i≤w.size):(w.extract i w.size).size=w.size-i:=by simp
theorem an7{w:ByteArray}(g1:ro b1=some (.cells ⟨[.string w]⟩ 356 (0,0)))(g2:ro b2=some (.cells ⟨[.string f]⟩ 9 (0,0)))(g3:ro b3=some (.cells ⟨[.string t]⟩ 9 (0,0)))(hw:yJ w)(ht:yJ t)(hn:w.size≤100∧f.size≤100∧t.size≤100):ItX zT 338 [] [zP b1,zP b2,zP b3] ro [] (E0 w f t).length (asX (E0 w f t)) (fun Z=>Z=[]):=by
 intro bl aJ Inv Stop hs hy B hB
 replace g1:=hs _ _ g1
 replace g2:=hs _ _ g2
 replace g3:=hs _ _ g3
 refine zC [.l B]<|zD 2<|jl (b:=b1) (off:=0) (m:=1) (vs:=[.string w]) 0 ⟨_,_,_,.inl g1,rfl⟩<|zD 1<|zW ((w.size:Int)+1)<|zD 3<|dH [1,0,0] [] (fun(zz:Nat×Cells)=>[(0,(.func (.yield bl) #[] #[])),(1,zP b1),(2,zP b2),(3,zP b3),(9,zI ((w.size:Int)+1)),(10,zI (zz.1:Int))]) (fun zz=>[.l zz.2]) (fun zz=>zz.1≤w.size+1∧Inv (wm w f t zz.1).length zz.2) (fun zz=>w.size+1-zz.1) (⟨0,B⟩) ⟨by dsimp only;omega,hB⟩ [0] ?_
 rintro⟨k,B⟩ hI K1 bP rest
 dsimp only at hI
 refine zD 5<|zJ 11 ((k:Int) <((w.size:Int)+1)) (fun h1=>?_) fun h1=>?_
 ·
  refine zD 11 ?_
  have n9:=Xt w (k:Int).toNat w.size
  refine zD 1<|jl (b:=b1) (off:=0) (m:=1) (vs:=[.string w]) 0 ⟨_,_,_,.inl g1,rfl⟩<|zD 1<|jtL (b:=w) (lo:=(k:Int)) (by omega)<|jl (b:=b2) (off:=0) (m:=1) (vs:=[.string f]) 0 ⟨_,_,_,.inl g2,rfl⟩<|jp (vs:=[.string (w.extract (k:Int).toNat w.size),.string f]) [] [] (fun aJ hs hZ=>(acI (by omega)))<|zD 2<|js 18 (!(tO (w.extract (k:Int).toNat w.size) f)) (fun h2=>?_) (fun h2=>?_)
  ·
   try simp only[zB] at h2
   refine zD 3<|zW ((k:Int)+1)<|zD 2<|zF bP (⟨k+1,B⟩) (by dsimp only;rw[YL (Vw (by assumption))];exact hI.2) [0]
  try simp only[zB] at h2
  refine zD 3 ?_
  have GM:=Xt w 0 (k:Int).toNat
  have he3:=Xt w ((k:Int)+(f.size:Int)).toNat w.size
  have he4:(w.extract 0 (k:Int).toNat++t).size=_:=ByteArray.size_append
  have hpr:tO (w.extract (k:Int).toNat w.size) f=true:=by assumption
  have SE:=afU hpr
  rw[akt _ _ (by omega)] at SE
  refine zD 1<|jl (b:=b1) (off:=0) (m:=1) (vs:=[.string w]) 0 ⟨_,_,_,.inl g1,rfl⟩<|zD 1<|jtH (b:=w) (hi:=(k:Int)) (by omega)<|jl (b:=b3) (off:=0) (m:=1) (vs:=[.string t]) 0 ⟨_,_,_,.inl g3,rfl⟩<|jsa (a:=(w.extract 0 (k:Int).toNat)) (b:=t) 356 (by omega)<|jl (b:=b1) (off:=0) (m:=1) (vs:=[.string w]) 0 ⟨_,_,_,.inl g1,rfl⟩<|zD 1<|jl (b:=b2) (off:=0) (m:=1) (vs:=[.string f]) 0 ⟨_,_,_,.inl g2,rfl⟩<|zD 1<|zW ((k:Int)+(f.size:Int))<|jtL (b:=w) (lo:=((k:Int)+(f.size:Int))) (by omega)<|jsa (a:=((w.extract 0 (k:Int).toNat)++t)) (b:=(w.extract ((k:Int)+(f.size:Int)).toNat w.size)) 356 (by omega)<|zD 5<|jp (vs:=[.string (((w.extract 0 (k:Int).toNat)++t)++(w.extract ((k:Int)+(f.size:Int)).toNat w.size)),zI 1,zI 12]) [] [] (fun aJ hs hZ=>(R2 (Ma (i:=k) hw ht) (Vu hn)))<|zD 1<|js 33 (agZ (vz w f t k)) (fun h3=>?_) (fun h3=>?_)
  ·
   have hry:=Vv (t:=t) hpr (by assumption)
   have Ur:=anq (by omega) hry
   refine zD 2<|jyc [0] (hy (wm w f t k).length _ [] B aJ Ur.1 ⟨_,Ur.2,rfl,rfl⟩ hI.2 (Sub.refl _)) (Sub.refl _) ?_
   intro v4 Y4 hy4
   obtain⟨c4,rfl,hc4,hd4⟩:=yb hy4
   refine zD 3<|js 38 (!c4) (fun h5=>?_) (fun h5=>?_)
   ·
    try simp only[zB] at h5
    refine zD 2<|zR (.tuple ⟨[]⟩) [] [0] Y4 ⟨[],Y4,rfl,rfl,.inr (hd4 (by simp_all))⟩
   try simp only[zB] at h5
   refine zD 3<|zW ((k:Int)+1)<|zD 2<|zF bP (⟨k+1,Y4⟩) (by dsimp only;rw[(Rj (n:=k+1) (by omega) hry).2];exact hc4 (by assumption)) [0]
  refine zD 9<|zW ((k:Int)+1)<|zD 2<|zF bP (⟨k+1,B⟩) (by dsimp only;rw[YL (abB (by assumption))];exact hI.2) [0]
 refine zD 2<|zR (.tuple ⟨[]⟩) [] [0] B ⟨[],B,rfl,rfl,.inl (by have:=hI.2;rwa[show k=w.size+1 by omega] at this)⟩
def qN(rs:List dq):List (ByteArray×ByteArray):=rs.flatMap fun r=>[(r.f,r.t),(r.t,r.f)]
abbrev eP2(x:ByteArray×ByteArray):List Value:=[.string x.1,.string x.2]
def ki(w:ByteArray)(ps:List (ByteArray×ByteArray)):List ByteArray:=ps.flatMap fun p=>E0 w p.1 p.2
def tE(w:ByteArray)(rs:List dq):List ByteArray:=ki w (qN rs)
theorem Mq:∀(rs:List dq),(qN rs).length=2*rs.length
 | []=>rfl
 |r::rs=>by have:=Mq rs;simp only[qN,List.flatMap_cons,zM] at this ⊢;omega
theorem RA:∀ {rs:List dq} {k q:Nat} {r:dq} {p:ByteArray×ByteArray},rs[k]?=some r→[(r.f,r.t),(r.t,r.f)][q]?=some p→(qN rs)[2*k+q]?=some p
 | [],_,_,_,_,h,_=>by simp at h
 |r::rs,0,q,_,p,h,h2=>by
  simp only[List.getElem?_cons_zero,Option.some.injEq] at h;subst h
  simp only[qN,List.flatMap_cons,Nat.mul_zero,Nat.zero_add]
  rw[List.getElem?_append_left (by have:=(List.getElem?_eq_some_iff.1 h2).1;exact this)];exact h2
 |r::rs,k+1,q,_,p,h,h2=>by
  have:=RA (rs:=rs) (k:=k) (by simpa using h) h2
  simp only[qN,List.flatMap_cons]
  rw[List.getElem?_append_right (by simp;omega)]
  rw[show 2*(k+1)+q- [(r.f,r.t),(r.t,r.f)].length=2*k+q by simp;omega];exact this
theorem G2{w:ByteArray}{ps:List (ByteArray×ByteArray)}{p:ByteArray×ByteArray}(h:ps[k]?=some p):ki w (ps.take (k+1))=ki w (ps.take k)++E0 w p.1 p.2:=by
 rw[ki,cG h,List.flatMap_append];simp[ki]
theorem am4{w:ByteArray}{ps:List (ByteArray×ByteArray)}{p:ByteArray×ByteArray}(h:ps[k]?=some p) (hx:(E0 w p.1 p.2)[j]?=some x):(ki w (ps.take k)).length+j <(ki w ps).length∧(ki w ps)[(ki w (ps.take k)).length+j]?=some x:=by
 have e:ki w ps=ki w (ps.take (k+1))++ki w (ps.drop (k+1)):=by rw[ki,ki,ki,←List.flatMap_append,List.take_append_drop]
 have hj:=(List.getElem?_eq_some_iff.1 hx).1
 have:(ki w ps)[(ki w (ps.take k)).length+j]?=some x:=by
  rw[e,G2 h,List.append_assoc,List.getElem?_append_right (by omega),List.getElem?_append_left (by omega),show (ki w (ps.take k)).length+j-(ki w (ps.take k)).length=j by omega]
  exact hx
 exact⟨(List.getElem?_eq_some_iff.1 this).1,this⟩
theorem anO{r:dq}{p:ByteArray×ByteArray}{q:Nat}(h:sM r)(hp: [(r.f,r.t),(r.t,r.f)][q]?=some p):yJ p.2∧(p.1.size≤100∧p.2.size≤100):=by
 have:=zL hp
 have h1:=h.f1;have h2:=h.t1
 simp only[List.mem_cons,List.not_mem_nil,or_false] at this
 rcases this with rfl|rfl
 ·exact⟨h.tl,by dsimp only;omega,by dsimp only;omega⟩
 exact⟨h.fl,by dsimp only;omega,by dsimp only;omega⟩
theorem ab1{w:ByteArray}:ee zT 323 [.string w,.string f,.string t] ro [] (fun r Y=>∃b3 b4 b5,r= .func (.func 338) ⟨[]⟩ ⟨[zP b3,zP b4,zP b5]⟩∧Y=[(b3,.cells ⟨[.string w]⟩ 356 (0,0)),(b4,.cells ⟨[.string f]⟩ 9 (0,0)),(b5,.cells ⟨[.string t]⟩ 9 (0,0))]):=by
 refine zE<|zD 2<|jn fun b3=>jn fun b4=>jn fun b5=>zD 8<|zR (.func (.func 338) ⟨[]⟩ ⟨[zP b3,zP b4,zP b5]⟩) [] [2,1,0] ((b3,.cells ⟨[.string w]⟩ 356 (0,0))::((b4,.cells ⟨[.string f]⟩ 9 (0,0))::[(b5,.cells ⟨[.string t]⟩ 9 (0,0))])) ⟨_,_,_,rfl,rfl⟩
theorem avx{w:ByteArray}(hl:bJ ro vl 2 lE rs):ee zT 308 [.string w,vl] ro [] (fun r Y=>∃b2 b3,r= .func (.func 322) ⟨[]⟩ ⟨[zP b3,zP b2]⟩∧Y=[(b2,.cells ⟨[.string w]⟩ 356 (0,0)),(b3,.cells ⟨[vl]⟩ 34 (0,0))]):=by
 obtain⟨fU,sg,sb,eZ,rfl,uz,lA,lZ⟩:=hl
 refine zE<|zD 2<|jn fun b2=>jn fun b3=>zD 8<|zR (.func (.func 322) ⟨[]⟩ ⟨[zP b3,zP b2]⟩) [] [1,0] ((b2,.cells ⟨[.string w]⟩ 356 (0,0))::[(b3,.cells ⟨[.slice fU rs.length eZ]⟩ 34 (0,0))]) ⟨_,_,rfl,rfl⟩
theorem an6{w:ByteArray}(g1:ro b1=some (.cells ⟨[vl]⟩ 34 (0,0)))(hl:bJ ro vl 2 lE rs)(hR:∀r∈rs,sM r)(g2:ro b2=some (.cells ⟨[.string w]⟩ 356 (0,0)))(hw:yJ w)(hn:w.size≤100)(hq:rs.length≤100):ItX zT 322 [] [zP b1,zP b2] ro [] (tE w rs).length (asX (tE w rs)) (fun Z=>Z=[]):=by
 intro bl aJ Inv Stop hs hy B hB
 replace g1:=hs _ _ g1
 replace g2:=hs _ _ g2
 replace hl:=hl.up hs
 obtain⟨fU,sg,sb,eZ,rfl,uz,lA,lZ⟩:=hl
 refine aoN av [.l B] [] bp<|zD 2<|jn fun b3=>jf [0] [(b3,.cells ⟨[(.func (.yield bl) #[] #[])]⟩ 425 (0,0))] fun ya cu iX=>zD 3<|jl (b:=b1) (off:=0) (m:=1) (vs:=[.slice fU rs.length eZ]) 0 ⟨_,_,_,.inl (cu _ _ g1),rfl⟩<|zD 4<|my<|aFT [1,1,0,0] [] (fun(zz:Nat×(List Nat)×Cells)=>[(2,zP b2),(3,zP b3),(9,.slice fU rs.length eZ),(10,zI (rs.length:Int)),(11,zI (zz.1:Int))]) (fun zz=>[.l (mk zz.2.1),.l zz.2.2]) (fun zz=>(zz.2.1.map eC)) (fun zz=>zz.1≤rs.length∧Inv (ki w ((qN rs).take (2*zz.1))).length zz.2.2) (fun zz=>rs.length-zz.1) (⟨0,[],B⟩) ⟨by dsimp only;omega,hB⟩ [0,1] ?_
 rintro⟨k,vq,B⟩ hI K1 bP rest
 dsimp only at hI
 refine zD 5<|zJ 12 ((k:Int) <(rs.length:Int)) (fun h4=>?_) fun h4=>?_
 ·
  refine zD 6 ?_
  obtain⟨UI,Sx⟩:=zG rs k
  refine fK eZ 2 lA Sx<|jl 0 ((lZ _ _ Sx).ext (gD cu))<|jn fun b5=>jd 14 [0,0,0,0,0]<|jn fun oI=>zD 4<|aFT [1,1,0,0,1,1,0,0,1,1,0,0] [K1] (fun(zz:Nat×(List Nat)×Cells)=>[(2,zP b2),(3,zP b3),(9,.slice fU rs.length eZ),(10,zI (rs.length:Int)),(11,zI (k:Int)),(25,.slice (some ⟨oI,0,none⟩) 2 2),(26,zI 2),(27,zI (zz.1:Int))]) (fun zz=>[.l (mk zz.2.1),.l zz.2.2,.b oI (.cells ⟨[.string UI.f,.string UI.t,.string UI.t,.string UI.f]⟩ 426 (0,0))]) (fun zz=>(zz.2.1.map eC)) (fun zz=>zz.1≤2∧Inv (ki w ((qN rs).take (2*k+zz.1))).length zz.2.2) (fun zz=>2-zz.1) (⟨0,vq,B⟩) ⟨by dsimp only;omega,hI.2⟩ [2,3,0] ?_
  rintro⟨q,vq,B⟩ hJ K2 lL rest
  dsimp only at hJ
  refine zD 5<|zJ 28 ((q:Int) <2) (fun h5=>?_) fun h5=>?_
  ·
   refine zD 6 ?_
   obtain⟨ND,BV⟩:=zG ([(UI.f,UI.t),(UI.t,UI.f)]:List _) q (show q <2 from by omega)
   refine fK (a:=(some ⟨oI,0,none⟩)) (b:=oI) (off:=0) 2 2 (fun _ _=>rfl) BV<|n7 (m:=2) 0 [2] [(oI,.cells ⟨([(UI.f,UI.t),(UI.t,UI.f)].map eP2).flatten⟩ 426 (0,0))] (fun s _ hZ=>ye (hZ _ (.head _)) (by intro p hp;rfl) BV) ?_
   refine jn fun b7=>jd 3 [0] ?_
   have hpx:=RA Sx BV
   have hpk:=anO (hR _ (zL Sx)) BV
   refine zD 1<|jl (b:=b2) (off:=0) (m:=1) (vs:=[.string w]) 0 ⟨_,_,_,.inl (cu _ _ g2),rfl⟩<|jd 4 [0,0]<|jc (vs:=[.string w,.string ND.1,.string ND.2]) [] (ab1) ?_
   rintro _ _ ⟨arS,arR,arQ,rfl,rfl⟩
   refine jg 0 [.b arS (.cells ⟨[.string w]⟩ 356 (0,0)),.b arR (.cells ⟨[.string ND.1]⟩ 9 (0,0)),.b arQ (.cells ⟨[.string ND.2]⟩ 9 (0,0))]<|jf [0,1,2] ((arS,.cells ⟨[.string w]⟩ 356 (0,0))::((arR,.cells ⟨[.string ND.1]⟩ 9 (0,0))::[(arQ,.cells ⟨[.string ND.2]⟩ 9 (0,0))])) fun ro8 AF hk7=>zD 2<|jrf [] (an7 (hk7 _ (.head _)) (hk7 _ (.tail _ (.head _))) (hk7 _ (.tail _ (.tail _ (.head _)))) hw hpk.1 ⟨hn,hpk.2⟩) (by rintro _ _ _ _ ⟨_,_,rfl,_⟩;rfl) (fun(zz:Cells)=>[.l zz]) (fun kk=>(fun(zz:Cells)=>Inv ((ki w ((qN rs).take (2*k+q))).length+kk) zz)) (fun jump=>(fun(zz:Cells)=>jump= .ret∧Stop zz)) B (show Inv (_+0) _ from hJ.2) [2] ?_ ?_ ?_
   ·
    rintro bl9 bd9 kk9 vs9 LL9 B ro9 hk9 ayh hL hs9
    obtain⟨x9,hx9,rfl,rfl⟩:=ayh
    have hu:=am4 hpx hx9
    refine zD 3<|jbg<|zD 3<|jl (b:=b3) (off:=0) (m:=1) (vs:=[(.func (.yield bl) #[] #[])]) 0 ⟨_,_,_,.inl (hs9 _ _ (AF _ _ (iX _ (.head _)))),rfl⟩<|zD 1<|jyc [1] (hy ((ki w ((qN rs).take (2*k+q))).length+kk9) _ [] B ro9 hu.1 ⟨_,hu.2,rfl,rfl⟩ hL ((cu.trans AF).trans hs9)) (Sub.refl _) ?_
    intro v10 Y10 aT2
    obtain⟨c10,rfl,ayA,ayv⟩:=yb aT2
    refine zD 2<|js 41 (!c10) (fun h11=>?_) (fun h11=>?_)
    ·
     try simp only[zB] at h11
     refine zD 2<|jys qy0 (Sub.refl _) .ret Y10 ⟨rfl,ayv (by simp_all)⟩ [1,0]
    try simp only[zB] at h11
    refine zD 2<|jyn qy0 (Sub.refl _) Y10 (ayA (by simp_all)) [1,0]
   ·
    rintro bd9 B Z9 hL hZ9
    subst hZ9
    refine zD 1<|zW ((q:Int)+1)<|zD 2<|jnD lL (⟨q+1,(bd9::vq),B⟩) ⟨by dsimp only;omega,by dsimp only;rw[←Nat.add_assoc,G2 hpx,List.length_append];exact hL⟩ (by dsimp only;omega) [[0,4],[2],[5]] AF
   rintro bd9 B Z9 jump hS hZ9
   obtain⟨rfl,hS⟩:=hS
   subst hZ9
   exact jrM qm0.a.w.w.a.m (.tuple ⟨[]⟩) [0,4] [] [1] B (cu.trans AF) ⟨[],B,rfl,rfl,.inr hS⟩
  refine zD 3<|zW ((k:Int)+1)<|zD 2<|jnD bP (⟨k+1,vq,B⟩) ⟨by dsimp only;omega,by have:=hJ.2;dsimp only;rwa[show 2*(k+1)=2*k+q by omega]⟩ (by dsimp only;omega) [[0],[1]] (Sub.refl _)
 refine zD 2<|jrM qm0.a.w (.tuple ⟨[]⟩) [0] [] [0] B cu ⟨[],B,rfl,rfl,.inl (by have:=hI.2;rwa[show k=rs.length by omega,List.take_of_length_le (by rw[Mq];exact Nat.le_refl _)] at this)⟩
instance:LawfulBEq ByteArray where
 eq_of_beq:=fun h=>by rw[PQ] at h;exact of_decide_eq_true h
 rfl:=fun {a}=>by rw[PQ];exact decide_eq_true rfl
def dd(l:List ByteArray):List ByteArray:=l.foldl (fun a x=>if x∈a then a else a++[x]) []
theorem Pz(l:List ByteArray)(x:ByteArray):dd (l++[x])=if x∈dd l then dd l else dd l++[x]:=by rw[dd,List.foldl_append];rfl
theorem azI(a:List ByteArray):∀b:List ByteArray,∃r,dd (a++b)=dd a++r:=by
 intro b
 induction b generalizing a with
 |nil=>exact⟨[],by simp⟩
 |cons x b ih=>
  obtain⟨r,hr⟩:=ih (a++[x])
  rw[show a++x::b=(a++[x])++b by simp,hr,Pz]
  split
  ·exact⟨r,rfl⟩
  exact⟨x::r,by simp⟩
abbrev kvS:ByteArray→Value:=fun a=> .string a
def mF(m:List ByteArray):List (ByteArray×Value):=m.map fun x=>(x,.bool true)
theorem Xm(k:ByteArray):∀(m:List ByteArray) (i:Nat),(tz k (mF m) i).map (·.2)=if k∈m then some (.bool true) else none
 | [],_=>rfl
 |x::m,i=>by
  simp only[mF,List.map_cons,tz]
  by_cases h:k=x
  ·simp[h]
  have:=Xm k m (i+1)
  simp only[mF] at this
  simp[h,this]
theorem aFo{k:ByteArray}{m:List ByteArray}:Ox (.bool false) false k (mF m)= .bool (decide (k∈m)):=by
 simp only[Ox,lkM,Xm]
 by_cases h:k∈m<;>simp[h]
theorem auc{k:ByteArray}{m:List ByteArray}(h:decide (k∈m)=false):mS k (.bool true) (mF m)=mF (m++[k]):=by
 have h:=of_decide_eq_false h
 have:=Xm k m 0
 rw[if_neg h] at this
 simp only[mS]
 cases hf:tz k (mF m) 0 with
 |none=>simp[mF]
 |some x=>rw[hf] at this;cases this
theorem akU{l:List ByteArray}(hx:l[k]?=some x) (h:decide (x∈dd (l.take k))=true):dd (l.take (k+1))=dd (l.take k):=by
 rw[cG hx,Pz,if_pos (of_decide_eq_true h)]
theorem XB{l:List ByteArray}(hx:l[k]?=some x) (h:decide (x∈dd (l.take k))=false):dd (l.take (k+1))=dd (l.take k)++[x]:=by
 rw[cG hx,Pz,if_neg (of_decide_eq_false h)]
theorem azJ{l:List ByteArray}(hx:l[k]?=some x) (h:decide (x∈dd (l.take k))=false):∃r,dd l=dd (l.take k)++[x]++r:=by
 obtain⟨r,hr⟩:=azI (l.take (k+1)) (l.drop (k+1))
 rw[List.take_append_drop,XB hx h] at hr
 exact⟨r,hr⟩
def Qn(rs:List dq)(to:ByteArray):Nat→ByteArray→List ByteArray→List (List ByteArray)
 |0,w,b=>if c8 w to=true then [b++[w]] else []
 |n+1,w,b=>(dd (tE w rs)).flatMap fun s=>Qn rs to n s (b++[w])
theorem PH{to:ByteArray}:∀ {n:Nat} {w:ByteArray} {b x:List ByteArray},x∈Qn rs to n w b→x.length=b.length+n+1
 |0,w,b,x,h=>by
  simp only[Qn] at h
  split at h
  ·rw[List.mem_singleton] at h;subst h;simp
  cases h
 |n+1,w,b,x,h=>by
  simp only[Qn,List.mem_flatMap] at h
  obtain⟨s,_,h2⟩:=h
  have:=PH h2
  simp at this;omega
theorem am3{w:ByteArray}(hR:∀r∈rs,sM r)(hw:yJ w)(h:x∈tE w rs):yJ x∧x.size≤12:=by
 simp only[tE,ki,qN,List.mem_flatMap,E0,wm,List.mem_filterMap,List.mem_range] at h
 obtain⟨p,⟨r,hr,hp⟩,i,_,hi⟩:=h
 have ht:yJ p.2:=by
  simp only[List.mem_cons,List.not_mem_nil,or_false] at hp
  rcases hp with rfl|rfl
  ·exact(hR r hr).tl
  exact(hR r hr).fl
 simp only[qH] at hi
 split at hi
 ·rename_i hc
  cases hi
  exact⟨Ma hw ht,hc.2.2⟩
 cases hi
abbrev aqa(L:List (List ByteArray)):(Nat→Option Obj)→Nat→List Value→Cells→Prop:=fun _ k vs LL=>∃x v,L[k]?=some x∧vs=[v]∧aA v 1 9 rn x LL
structure alL(ro:Nat→Option Obj)(bl:Nat)(rs:List dq)(to:ByteArray)(many bm bt bL br bg:Nat)(vl:Value):Prop where
 m:ro bm=some (.cells ⟨[zI (many:Int)]⟩ 3 (0,0))
 t:ro bt=some (.cells ⟨[.string to]⟩ 356 (0,0))
 y:ro bL=some (.cells ⟨[.func (.yield bl) #[] #[]]⟩ 401 (0,0))
 r:ro br=some (.cells ⟨[vl]⟩ 34 (0,0))
 g:ro bg=some (.cells ⟨[.func (.func 306) ⟨[]⟩ ⟨[zP bm,zP bt,zP bL,zP br,zP bg]⟩]⟩ 402 (0,0))
 l:bJ ro vl 2 lE rs
theorem alL.up{to:ByteArray}(h:alL ro bl rs to many bm bt bL br bg vl)(hs:Sub ro aF):alL aF bl rs to many bm bt bL br bg vl:=
 ⟨hs _ _ h.m,hs _ _ h.t,hs _ _ h.y,hs _ _ h.r,hs _ _ h.g,h.l.up hs⟩
def atm(bl:Nat)(rs:List dq)(to:ByteArray)(many bm bt bL br bg:Nat)(vl:Value)(L:List (List ByteArray))(Inv:Nat→Cells→Prop)(Stop:Cells→Prop)(n:Nat):Prop:=
 ∀(ro:Nat→Option Obj) (w:ByteArray) (b:List ByteArray) (v:Value) (p:Nat) (B:Cells),alL ro bl rs to many bm bt bL br bg vl→bJ ro v 1 rn b→b.length+n=many→yJ w→w.size≤100→Part L p (Qn rs to n w b)→Inv p B→YOK zT bl ro L.length (aqa L) Inv Stop→
  ee zT 306 [.string w,v,zP bm,zP bt,zP bL,zP br,zP bg] ro B (fun r Y=>∃c,r= .bool c∧(c=true→Inv (p+(Qn rs to n w b).length) Y)∧(c=false→Stop Y))
theorem avz{n:Nat}{w:ByteArray}{b:List ByteArray}{v:Value}{p:Nat}{B:Cells}{to:ByteArray}{L:List (List ByteArray)}{Inv:Nat→Cells→Prop}(ih:∀m,m <n→atm bl rs to many bm bt bL br bg vl L Inv Stop m)(hR:∀r∈rs,sM r)(hq:rs.length≤100)(Z0:many≤100)(S2:alL ro bl rs to many bm bt bL br bg vl)(hb:bJ ro v 1 rn b)(hbn:b.length+n=many)(hw:yJ w)(td:w.size≤100)(hP:Part L p (Qn rs to n w b))(hB:Inv p B)(hy:YOK zT bl ro L.length (aqa L) Inv Stop):ee zT 306 [.string w,v,zP bm,zP bt,zP bL,zP br,zP bg] ro B (fun r Y=>∃c,r= .bool c∧(c=true→Inv (p+(Qn rs to n w b).length) Y)∧(c=false→Stop Y)):=by
 obtain⟨gm,gt,gy,gl,gg,hl⟩:=id S2
 obtain⟨fU,sg,sb,eZ,rfl,uz,lA,lZ⟩:=hl
 obtain⟨aDW,aRQ,aRM,aDV,rfl,aRO,aRP,aRN⟩:=hb
 refine aoN av [.l B] [] bp<|zD 2<|jn fun b9=>zD 4<|jc (vs:=[.slice aDW b.length aDV]) [] (auC (show bJ _ _ _ _ _ from ⟨aDW,aRQ,aRM,aDV,rfl,aRO,aRP,aRN⟩) (by first|omega| (simp only[List.length_set,zM];omega))) ?_
 rintro v14 L14 ⟨_,Ik,rfl⟩
 refine zD 1<|jn fun b16=>cH rn b16 w 1 0 Ik rfl rfl (by omega) fun FB FA L17 aik=>jn fun pX=>jd 7 [0,0]<|jl (b:=bm) (off:=0) (m:=1) (vs:=[zI (many:Int)]) 0 ⟨_,_,_,.inl gm,rfl⟩<|zD 2<|zJ 21 (((b++[w]).length:Int)>(many:Int)) (fun h1=>?_) fun h1=>?_
 ·
  refine zD 2 ?_
  obtain rfl:n=0:=by simp only[zM] at*;omega
  refine zD 2<|jl (b:=bt) (off:=0) (m:=1) (vs:=[.string to]) 0 ⟨_,_,_,.inl gt,rfl⟩<|zD 2<|js 25 (!(c8 w to)) (fun h2=>?_) (fun h2=>?_)
  ·
   have mU:=h2
   try simp only[zB] at mU
   refine jd 7 [3]<|jrM qm0 (.bool true) [] [3] [4] B (Sub.refl _) ⟨_,rfl,(fun _=>by rw[show Qn rs to 0 w b=[] from if_neg (by simp_all)];exact hB),nofun⟩
  have mU:=h2
  try simp only[zB] at mU
  have aiQ:Qn rs to 0 w b=[b++[w]]:=if_pos (by simp_all)
  have Uy:=Part.get (i:=0) (x:=b++[w]) hP (by rw[aiQ];rfl)
  refine jl (b:=bL) (off:=0) (m:=1) (vs:=[(.func (.yield bl) #[] #[])]) 0 ⟨_,_,_,.inl gy,rfl⟩<|jd 1 [0]<|jyc [1,4] (hy p [(.slice FB ((b++[w])).length FA)] L17 B ro Uy.1 ⟨_,_,Uy.2,rfl,aik⟩ hB (Sub.refl _)) (Sub.refl _) ?_
  intro v28 Y28 aT0
  obtain⟨c28,rfl,aWD,aWq⟩:=yb aT0
  refine jd 4 [3]<|jrM qm0 (.bool c28) [] [3] [0] Y28 (Sub.refl _) ⟨_,rfl,(fun h=>by rw[aiQ];exact aWD h),aWq⟩
 refine zD 3 ?_
 obtain⟨m,rfl⟩:∃m,n=m+1:=⟨n-1,by simp only[zM] at*;omega⟩
 refine zD 1<|jmk kvS fun r30 L30 aG8=>jn fun KX=>jd 5 [0]<|jf [2,0,3] ((pX,.cells ⟨[(.slice FB ((b++[w])).length FA)]⟩ 167 (0,0))::((KX,.cells ⟨[(.map (some r30))]⟩ 404 (0,0))::L17)) (fun ro5 JN hk4=>?_)
 have wH:=aik.jR hk4.tail.tail
 replace S2:=S2.up JN
 replace hy:=hy.up JN
 refine zD 1<|jl (b:=br) (off:=0) (m:=1) (vs:=[.slice fU rs.length eZ]) 0 ⟨_,_,_,.inl (JN _ _ gl),rfl⟩<|jc (vs:=[.string w,.slice fU rs.length eZ]) [] (avx ((show bJ _ _ _ _ _ from ⟨fU,sg,sb,eZ,rfl,uz,lA,lZ⟩).up JN)) ?_
 rintro _ _ ⟨arU,arT,rfl,rfl⟩
 refine jg 0 [.b arU (.cells ⟨[.string w]⟩ 356 (0,0)),.b arT (.cells ⟨[.slice fU rs.length eZ]⟩ 34 (0,0))]<|jf [0,1] ((arU,.cells ⟨[.string w]⟩ 356 (0,0))::[(arT,.cells ⟨[.slice fU rs.length eZ]⟩ 34 (0,0))]) fun ro8 AF hk7=>zD 2<|jrf [] (an6 (hk7 _ (.tail _ (.head _))) (S2.l.up AF) hR (hk7 _ (.head _)) hw td hq) (by rintro _ _ _ _ ⟨_,_,rfl,_⟩;rfl) (fun(zz:Bool×Cells×Cells)=>[.b b9 (.cells ⟨[.bool zz.1]⟩ 4 (0,0)),.l zz.2.1,.l zz.2.2]) (fun kk=>(fun(zz:Bool×Cells×Cells)=>Inv (p+((dd ((tE w rs).take kk)).flatMap fun s=>Qn rs to m s (b++[w])).length) zz.2.2∧j9 r30 kvS (mF (dd ((tE w rs).take kk))) zz.2.1)) (fun jump=>(fun(zz:Bool×Cells×Cells)=>jump= .ret∧(zz.1=false∧Stop zz.2.2))) (⟨false,L30,B⟩) ⟨hB,aG8⟩ [2,0,3] ?_ ?_ ?_
 ·
  rintro bl9 bd9 kk9 vs9 LL9 ⟨rv,Lm,B⟩ ro9 hk9 ayh hL hs9
  obtain⟨x9,hx9,rfl,rfl⟩:=ayh
  have hue:=am3 hR hw (zL hx9)
  refine zD 3<|jbg<|zD 4<|jl (b:=KX) (off:=0) (m:=1) (vs:=[(.map (some r30))]) 0 ⟨_,_,_,.inl (hs9 _ _ (AF _ _ (hk4 _ (.tail _ (.head _))))),rfl⟩<|zD 1<|jlu (kv:=kvS) (F:=(mF (dd ((tE w rs).take kk9)))) (r:=r30) (K:=356) x9 (.bool false) false [2] Lm (Zy (T:=356) (by kernel_rfl)) (fun s _ hZ=>hL.2.has hZ)<|jw 37 (.bool (decide (x9∈(dd ((tE w rs).take kk9))))) aFo<|zD 1<|js 37 (decide (x9∈(dd ((tE w rs).take kk9)))) (fun Bb=>?_) (fun Bb=>?_)
  ·
   refine zD 2<|jyn qy0 (Sub.refl _) ⟨rv,Lm,B⟩ ⟨by rw[akU hx9 (by assumption)];exact hL.1,by rw[akU hx9 (by assumption)];exact hL.2⟩ (zN 0 4)
  have ud:decide (x9∈dd ((tE w rs).take kk9))=false:=by assumption
  obtain⟨rr,hrr⟩:=azJ hx9 ud
  have aGG:=Part.flat (G:=fun s=>Qn rs to m s (b++[w])) hP hrr
  refine zD 4<|jl (b:=KX) (off:=0) (m:=1) (vs:=[(.map (some r30))]) 0 ⟨_,_,_,.inl (hs9 _ _ (AF _ _ (hk4 _ (.tail _ (.head _))))),rfl⟩<|zD 1<|jmu (kv:=kvS) (F:=(mF (dd ((tE w rs).take kk9)))) (r:=r30) (K:=356) 2 x9 (.bool true) (Zy (T:=356) (by kernel_rfl)) hL.2 fun aLF aiC=>zD 3<|jl (b:=bg) (off:=0) (m:=1) (vs:=[.func (.func 306) ⟨[]⟩ ⟨[zP bm,zP bt,zP bL,zP br,zP bg]⟩]) 0 ⟨_,_,_,.inl (hs9 _ _ (AF _ _ (JN _ _ gg))),rfl⟩<|zD 1<|jl (b:=pX) (off:=0) (m:=1) (vs:=[(.slice FB ((b++[w])).length FA)]) 0 ⟨_,_,_,.inl (hs9 _ _ (AF _ _ (hk4 _ (.head _)))),rfl⟩<|jc (vs:=[.string x9,(.slice FB ((b++[w])).length FA),zP bm,zP bt,zP bL,zP br,zP bg]) [3] (ih m (by omega) _ _ _ _ (p+((dd ((tE w rs).take kk9)).flatMap fun s=>Qn rs to m s (b++[w])).length) _ (S2.up (AF.trans hs9)) (wH.up (AF.trans hs9)) (by simp only[zM];omega) hue.1 (by omega) aGG hL.1 (hy.up (AF.trans hs9))) ?_
  rintro _ Y43 ⟨c43,rfl,aWA,aWn⟩
  refine zD 2<|js 44 (!c43) (fun J1=>?_) (fun J1=>?_)
  ·
   try simp only[zB] at J1
   refine jd 6 [3]<|jys qy0 (Sub.refl _) .ret ⟨false,aLF,Y43⟩ ⟨rfl,rfl,aWn (by simp_all)⟩ [2,3,1,0]
  try simp only[zB] at J1
  refine zD 2<|jyn qy0 (Sub.refl _) ⟨rv,aLF,Y43⟩ ⟨by rw[XB hx9 ud,List.flatMap_append,List.length_append,←Nat.add_assoc];have:=aWA (by simp_all);simpa using this,by rw[XB hx9 ud,←auc ud];exact aiC⟩ [2,3,1,0]
 ·
  rintro bd9 ⟨rv,Lm,B⟩ Z9 hL hZ9
  subst hZ9
  refine jd 5 [2]<|jrM qm0.a.a.m (.bool true) [0] [1] [3] B (JN.trans AF) ⟨_,rfl,(fun _=>by have:=hL.1;rwa[List.take_of_length_le (Nat.le_refl _)] at this),nofun⟩
 rintro bd9 ⟨rv,Lm,B⟩ Z9 jump hS hZ9
 obtain⟨rfl,hS⟩:=hS
 obtain⟨rfl,hS⟩:=hS
 subst hZ9
 exact jrM qm0.a.a.m (.bool false) [0] [1] [3] B (JN.trans AF) ⟨_,rfl,nofun,fun _=>hS⟩
theorem aFe{to:ByteArray}{L:List (List ByteArray)}{Inv:Nat→Cells→Prop}(hR:∀r∈rs,sM r)(hq:rs.length≤100)(Z0:many≤100):∀n,atm bl rs to many bm bt bL br bg vl L Inv Stop n:=by
 intro n
 induction n using Nat.strongRecOn with
 |_ n ih=>exact fun ro w b v p B hc hb hbn hw td hP hB hy=>avz ih hR hq Z0 hc hb hbn hw td hP hB hy
theorem ab2{w to:ByteArray}(g1:ro b1=some (.cells ⟨[zI (many:Int)]⟩ 3 (0,0)))(g2:ro b2=some (.cells ⟨[.string to]⟩ 356 (0,0)))(g3:ro b3=some (.cells ⟨[vl]⟩ 34 (0,0)))(g4:ro b4=some (.cells ⟨[.string w]⟩ 356 (0,0)))(hl:bJ ro vl 2 lE rs)(hR:∀r∈rs,sM r)(hw:yJ w)(td:w.size≤100)(hq:rs.length≤100)(Z0:many≤100):ItX zT 305 [] [zP b1,zP b2,zP b3,zP b4] ro [] (Qn rs to many w []).length (aqa (Qn rs to many w [])) (fun Z=>Z=[]):=by
 intro bl aJ Inv Stop hs hy B hB
 replace g1:=hs _ _ g1
 replace g2:=hs _ _ g2
 replace g3:=hs _ _ g3
 replace g4:=hs _ _ g4
 replace hl:=hl.up hs
 have hlr:=hl
 obtain⟨fU,sg,sb,eZ,rfl,uz,lA,lZ⟩:=hl
 refine zC [.l B]<|zD 2<|jn fun b5=>zD 3<|jn fun b6=>jd 8 [0,0]<|jl (b:=b4) (off:=0) (m:=1) (vs:=[.string w]) 0 ⟨_,_,_,.inl g4,rfl⟩<|jf [1,0] ((b5,.cells ⟨[(.func (.yield bl) #[] #[])]⟩ 401 (0,0))::[(b6,.cells ⟨[.func (.func 306) ⟨[]⟩ ⟨[zP b1,zP b2,zP b5,zP b3,zP b6]⟩]⟩ 402 (0,0))]) fun ya cu iX=>jc (vs:=[.string w,zS,zP b1,zP b2,zP b5,zP b3,zP b6]) [0] (aFe hR hq Z0 many _ _ _ _ 0 _ ⟨cu _ _ g1,cu _ _ g2,iX _ (.head _),cu _ _ g3,iX _ (.tail _ (.head _)),hlr.up cu⟩ (bJ.nil _ _ _ _ _) (by simp) hw td ⟨[],[],by simp,rfl⟩ hB (YOK.up hy cu)) ?_
 rintro _ Y10 ⟨c10,rfl,ayA,ayv⟩
 refine zD 1<|aN q0.a (.tuple ⟨[]⟩) [] [0] Y10 cu ⟨_,_,rfl,rfl,[],Y10,rfl,rfl,by cases c10 with|true=>exact .inl (by simpa using ayA rfl)|false=>exact .inr (ayv rfl)⟩
theorem agA{w to:ByteArray}{many:Int}(hl:bJ ro vl 2 lE rs):ee zT 281 [.string w,vl,.string to,zI many] ro [] (fun r Y=>∃b4 b5 b6 b7,r= .func (.func 305) ⟨[]⟩ ⟨[zP b7,zP b6,zP b5,zP b4]⟩∧Y=[(b4,.cells ⟨[.string w]⟩ 356 (0,0)),(b5,.cells ⟨[vl]⟩ 34 (0,0)),(b6,.cells ⟨[.string to]⟩ 356 (0,0)),(b7,.cells ⟨[zI many]⟩ 3 (0,0))]):=by
 obtain⟨fU,sg,sb,eZ,rfl,uz,lA,lZ⟩:=hl
 refine zE<|zD 2<|jn fun b4=>jn fun b5=>jn fun b6=>jn fun b7=>zD 8<|zR (.func (.func 305) ⟨[]⟩ ⟨[zP b7,zP b6,zP b5,zP b4]⟩) [] [3,2,1,0] ((b4,.cells ⟨[.string w]⟩ 356 (0,0))::((b5,.cells ⟨[.slice fU rs.length eZ]⟩ 34 (0,0))::((b6,.cells ⟨[.string to]⟩ 356 (0,0))::[(b7,.cells ⟨[zI many]⟩ 3 (0,0))]))) ⟨_,_,_,_,rfl,rfl⟩
theorem avA{L:List (List ByteArray)}(hit:ItX zT 305 [] [zP b1,zP b2,zP b3,zP b4] ro [] L.length (aqa L) (fun Z=>Z=[]))(hL:∀x∈L,x.length≤1000):ee zT 280 [.func (.func 305) ⟨[]⟩ ⟨[zP b1,zP b2,zP b3,zP b4]⟩,.func (.func 282) ⟨[]⟩ ⟨[]⟩] ro [] (fun r Y=>∃v,r= .tuple ⟨[v,.bool (decide (0 <L.length))]⟩∧∃ps,aA v 1 9 rn ps Y∧(0 <L.length→ps∈L)):=by
 refine aoN av [] [] bp<|zD 2<|jn fun b3=>zD 2<|jf [0] [(b3,.cells ⟨[.func (.func 282) ⟨[]⟩ ⟨[]⟩]⟩ 383 (0,0))] fun ya cu iX=>zD 3<|jn fun b6=>zD 3<|jn fun b7=>jd 8 [0]<|my<|jrf [] (hit.up cu) (by rintro _ _ _ _ ⟨_,_,_,rfl,_⟩;rfl) (fun(zz:Value×(List ByteArray)×Cells×Bool)=>[.b b6 (.cells ⟨[zz.1]⟩ 167 (0,0)),.b b7 (.cells ⟨[.bool zz.2.2.2]⟩ 4 (0,0)),.l zz.2.2.1]) (fun kk=>(fun(zz:Value×(List ByteArray)×Cells×Bool)=>aA zz.1 1 9 rn zz.2.1 zz.2.2.1∧zz.2.2.2=decide (0 <kk)∧(0 <kk→zz.2.1∈L)∧zz.2.1.length≤1000)) (fun jump=>(fun(zz:Value×(List ByteArray)×Cells×Bool)=>False)) (⟨zS,[],[],false⟩) ⟨aA.nil _ _ _,rfl,nofun,by simp⟩ [2,1,0] ?_ ?_ ?_
 ·
  rintro bl4 bd4 kk4 vs4 LL4 ⟨v,ps,Lb,sm⟩ ro4 hk4 ayi hI kX
  obtain⟨x4,v4,hx4,rfl,ho4⟩:=ayi
  have hxl:=hL _ (zL hx4)
  have SE:=hI.2.2.2
  refine zD 3<|jbg<|jd 6 [2]<|js 13 (!sm) (fun h5=>?_) (fun h5=>?_)
  ·
   have F8:=h5
   try simp only[zB] at F8
   refine zD 10 ?_
   obtain⟨va6,vc6,he6⟩:=ho4.form
   subst he6
   refine jd 3 [1,2]<|jyn qy0 (Sub.refl _) ⟨(.slice va6 (x4).length vc6),x4,LL4,true⟩ ⟨ho4,rfl,fun _=>zL hx4,hxl⟩ [0,1,2,4]
  have F8:=h5
  try simp only[zB] at F8
  refine jl (b:=b3) (off:=0) (m:=1) (vs:=[.func (.func 282) ⟨[]⟩ ⟨[]⟩]) 0 ⟨_,_,_,.inl (kX _ _ (iX _ (.head _))),rfl⟩<|jd 2 [1]<|jp (vs:=[v4,v]) [4,3] (LL4++Lb) (fun aJ hs hZ=>aQ7 (ho4.jR hZ.left) (hI.1.jR hZ.right) (by first|omega| (simp only[List.length_set,zM];omega)) (by first|omega| (simp only[List.length_set,zM];omega))) ?_
  refine zD 3<|zJ 19 ((PC x4 ps) <0) (fun h7=>?_) fun h7=>?_
  ·
   refine zD 3 ?_
   obtain⟨va8,vc8,he8⟩:=ho4.form
   subst he8
   refine jd 3 [1,2]<|jyn qy0 (Sub.refl _) ⟨(.slice va8 (x4).length vc8),x4,LL4,true⟩ ⟨ho4,rfl,fun _=>zL hx4,hxl⟩ [0,1,2,4]
  refine zD 2<|jyn qy0 (Sub.refl _) ⟨v,ps,Lb,sm⟩ ⟨hI.1,by have:=hI.2.1;simp_all,fun _=>hI.2.2.1 (by have:=hI.2.1;simp_all),SE⟩ (zN 0 4)
 ·
  rintro bd4 ⟨v,ps,Lb,sm⟩ Z4 hI hZ4
  subst hZ4
  refine jd 8 [2,3]<|jrM qm0.a.m (.tuple ⟨[v,.bool sm]⟩) [0] [] [3] Lb cu ⟨v,by rw[←hI.2.1],ps,hI.1,hI.2.2.1⟩
 rintro bd4 ⟨v,ps,Lb,sm⟩ Z4 jump hS hZ4
 exact hS.elim
abbrev eBy(x:Int):List Value:=[.int .u8 x]
theorem aKH:EF zT 342 (Extern.BytealgMakeNoZero.makeNoZero #[3] #[364]):=⟨Tryz.f342,Tryz.func342,by kernel_rfl,by kernel_rfl,by kernel_rfl,by kernel_rfl⟩
def aul:=(mE Tryz.typeInfo364 Tryz.underlying364 rfl rfl rfl rfl rfl rfl:TF zT 364 _ 1 24 _ false)
theorem af4:aA (.slice (some ⟨b,0,none⟩) 0 l.length) 1 T eBy ([]:List Int) [(b,.cells ⟨l⟩ T (0,0))]:= .inr ⟨b,l,l.length,rfl,rfl,by simp,by simp,by simp,by simp⟩
theorem anQ{v:Value}{c:Int}{L:Cells}(h:aA v 1 T eBy [c] L):∃b l cap,cap≠0∧v= .slice (some ⟨b,0,none⟩) 1 cap∧L=[(b,.cells ⟨.int .u8 c::l⟩ T (0,0))]:=by
 rcases h with ⟨_,h,_⟩| ⟨b,l,cap,h1,h2,h3,h4,_,h6⟩
 ·cases h
 simp only[List.length_cons,List.length_nil] at h1 h4 h6
 cases l with
 |nil=>simp at h3;omega
 |cons x l=>
  simp at h6;subst h6
  exact⟨b,l,cap,by omega,h1,h2⟩
def ada(n:Int):ByteArray:=⟨#[n.toNat.toUInt8]⟩
theorem aKI:EF zT 341 Extern.AbiNoEscape.same:=⟨Tryz.f341,Tryz.func341,by kernel_rfl,by kernel_rfl,by kernel_rfl,by kernel_rfl⟩
theorem aK6{v:Value}:ee zT 331 [zP b] ro [(b,.cells ⟨[.pointer none,v]⟩ 416 (0,0))] (fun r Y=>Y=[(b,.cells ⟨[zP b,v]⟩ 416 (0,0))]):=by
 refine zC [.b b (.cells ⟨[.pointer none,v]⟩ 416 (0,0))]<|jd 12 [0]<|jmo [0] [0,0] [(b,.cells ⟨[.pointer none,v]⟩ 416 (0,0))] (zP b)<|jg 0 [.b b (.cells ⟨[.pointer none,v]⟩ 416 (0,0))]<|aTv (v:= zP b) aKI<|jmo [0] [0,0] [(b,.cells ⟨[.pointer none,v]⟩ 416 (0,0))] (zP b)<|jg 0 [.b b (.cells ⟨[.pointer none,v]⟩ 416 (0,0))]<|jd 4 [0]<|zR (.tuple ⟨[]⟩) [] [0] [(b,.cells ⟨[zP b,v]⟩ 416 (0,0))] rfl
theorem aK5{v:Value}:ee zT 331 [zP b] ro [(b,.cells ⟨[zP b,v]⟩ 416 (0,0))] (fun r Y=>Y=[(b,.cells ⟨[zP b,v]⟩ 416 (0,0))]):=by
 refine zC [.b b (.cells ⟨[zP b,v]⟩ 416 (0,0))]<|jd 16 [0,0]<|jpn (b:=b)<|jg 0 []<|zD 3<|zR (.tuple ⟨[]⟩) [] [0] [(b,.cells ⟨[zP b,v]⟩ 416 (0,0))] rfl
theorem aKZ:ee zT 332 [zP b,zI 1] ro [(b,.cells ⟨[zP b,zS]⟩ 416 (0,0))] (fun r Y=>∃v L,aA v 1 5 eBy ([]:List Int) L∧Y=(b,.cells ⟨[zP b,v]⟩ 416 (0,0))::L):=by
 refine zC [.b b (.cells ⟨[zP b,zS]⟩ 416 (0,0))]<|jd 6 [0]<|jcp (c:=0)<|jd 8 [0]<|aP 8 fun C5 Dc Ba=>jnz (n:=1) aKH rfl aul (by omega) fun bb lz hlz=>jg 0 [.b bb (.cells ⟨lz⟩ 5 (0,0))]<|dW Ba [1]<|js0 (a:=⟨bb,0,none⟩) (l:=1) (c:=lz.length)<|jd 9 [1]<|jmo [] [] [] (zI 0)<|jg 0 []<|jd 8 [1]<|zR (.tuple ⟨[]⟩) [] [1,0] ((b,.cells ⟨[zP b,(.slice (some ⟨bb,0,none⟩) 0 lz.length)]⟩ 416 (0,0))::[(bb,.cells ⟨lz⟩ 5 (0,0))]) ⟨_,_,af4,rfl⟩
theorem aK4:ee zT 316 [zP b,zI 1] ro [(b,.cells ⟨[.pointer none,zS]⟩ 416 (0,0))] (fun r Y=>∃v L,aA v 1 5 eBy ([]:List Int) L∧Y=(b,.cells ⟨[zP b,v]⟩ 416 (0,0))::L):=by
 refine zC [.b b (.cells ⟨[.pointer none,zS]⟩ 416 (0,0))]<|zD 3<|jc (vs:=[zP b]) [0] (aK6 (v:= zS)) ?_
 rintro _ _ rfl
 refine jg 0 [.b b (.cells ⟨[zP b,zS]⟩ 416 (0,0))]<|jd 15 [0]<|jcp (c:=0)<|jd 13 [0]<|jc (vs:=[zP b,zI 1]) [0] (aKZ) ?_
 rintro _ _ ⟨v,L,hv,rfl⟩
 refine jg 0 [.b b (.cells ⟨[zP b,v]⟩ 416 (0,0)),.l L]<|zD 1<|zR (.tuple ⟨[]⟩) [] [0,1] ((b,.cells ⟨[zP b,v]⟩ 416 (0,0))::L) ⟨v,L,hv,rfl⟩
theorem aK7{v:Value}{L:Cells}{c:Int}(ho:aA v 1 5 eBy ([]:List Int) L):ee zT 318 [zP b,.int .u8 c] ro ((b,.cells ⟨[zP b,v]⟩ 416 (0,0))::L) (fun r Y=>∃v' L',aA v' 1 5 eBy [c] L'∧Y=(b,.cells ⟨[zP b,v']⟩ 416 (0,0))::L'):=by
 refine zC [.b b (.cells ⟨[zP b,v]⟩ 416 (0,0)),.l L]<|zD 7<|jc (vs:=[zP b]) [0] (aK5 (v:=v)) ?_
 rintro _ _ rfl
 refine jg 0 [.b b (.cells ⟨[zP b,v]⟩ 416 (0,0))]<|jd 9 [0]<|jn fun C4=>BS (sz:=1) (ps:=[]) (qs:=[c]) (enc:=eBy) (w:= .slice (some ⟨C4,0,none⟩) 1 1) [2] [0] [(C4,.cells ⟨([c].map eBy).flatten⟩ 5 (0,0))] (ho) (fun s _ hZ=>NU [c] (hZ _ (.head _)) (by intro p hp;rfl)) (fun p _=>bM rfl) (by simp) (fun v14 L14 AI=>?_)
 rw[List.nil_append] at AI
 obtain⟨NK,Kh,F4⟩:=AI.form
 subst F4
 refine jd 9 [2]<|zR (.nilIface) [] [2,0] ((b,.cells ⟨[zP b,(.slice NK ([c]).length Kh)]⟩ 416 (0,0))::L14) ⟨_,_,AI,rfl⟩
theorem aZx{bb cap:Nat}{c:Int}(oV:cap≠0):ee zT 319 [zP b] ro [(b,.cells ⟨[zP b,.slice (some ⟨bb,0,none⟩) 1 cap]⟩ 416 (0,0)),(bb,.cells ⟨.int .u8 c::l⟩ 5 (0,0))] (fun r Y=>r= .string (ada c)):=by
 refine zC [.b b (.cells ⟨[zP b,.slice (some ⟨bb,0,none⟩) 1 cap]⟩ 416 (0,0)),.b bb (.cells ⟨.int .u8 c::l⟩ 5 (0,0))]<|jd 15 [0,0]<|aP 4 fun C5 Dc Ba=>jsd (a:=⟨bb,0,none⟩) (l:=1) oV<|jg 0 []<|dW Ba [0,1]<|aP 10 fun zw Ab yZ=>jus (b:=bb) (E:=5) [1] c l fun L9=>eW yZ [[1]]<|zD 3<|zX (.string (ada c)) rfl
def uY(u:UInt8):ByteArray:=⟨#[u]⟩
theorem ap7{u:UInt8}(h:u.toNat <128):Value.string (Utf8.encode (u.toNat:Int))= .string (uY u):=by
 have hv:Utf8.valid (u.toNat:Int)=true:=by simp only[Utf8.valid];simp;omega
 simp only[Utf8.encode,hv,if_true,Int.toNat_natCast,if_pos (show u.toNat <0x80 from h),uY]
 simp
theorem aKl{u:UInt8}(hu:(97≤u.toNat∧u.toNat≤122)):dG zT 304 [.string (uY u)] ro (.string (uY u)):=by
 have uA:(uY u).size=1:=rfl
 refine zE<|zD 15<|dH [1,1,0,1,0,0] [] (fun(zz:Nat×Bool)=>[(0,.string (uY u)),(2,.string (bs [])),(3,.bool true),(4,.bool zz.2),(5,zI (zz.1:Int))]) (fun zz=>[]) (fun zz=>(zz.1=0∧zz.2=false)∨(zz.1=1∧zz.2=false)) (fun zz=>1-zz.1) (⟨0,false⟩) (.inl ⟨rfl,rfl⟩) [] ?_
 rintro⟨i,q⟩ hI K1 bP rest
 dsimp only at hI
 refine zD 8<|zJ 14 ((i:Int) <((uY u).size:Int)) (fun h1=>?_) fun h1=>?_
 ·
  refine zD 5 ?_
  obtain⟨hi0,Ic⟩:i=0∧q=false:=by rcases hI with h|h;exact h;omega
  refine jw 5 (zI 0) (show Value.int .i64 (i:Int)= zI 0 by rw[hi0];rfl) ?_
  refine jw 4 (.bool false) (show Value.bool q= .bool false by rw[Ic])<|zD 12<|zJ 21 ((u.toNat:Int)≥128) (fun h2=>?_) fun h2=>?_
  ·
   exfalso;omega
  refine zD 8<|js 26 (decide (65≤(u.toNat:Int))) (fun h3=>?_) (fun h3=>?_)
  ·
   have uf:=h3
   replace uf:=of_decide_eq_true uf
   refine zD 11<|zY bP (⟨1,decide ((u.toNat:Int)≤90)⟩) (.inr ⟨rfl,decide_eq_false (by omega)⟩) []
  have uf:=h3
  replace uf:=of_decide_eq_false uf
  exfalso;omega
 refine zD 4 ?_
 obtain⟨hi1,hq1⟩:i=1∧q=false:=by rcases hI with h|h;omega;exact h
 refine jw 4 (.bool false) (show Value.bool q= .bool false by rw[hq1])<|zD 17<|zX (.string (uY u)) ⟨rfl,rfl⟩
theorem aKk{u:UInt8}(hu:(65≤u.toNat∧u.toNat≤90)):dG zT 304 [.string (uY u)] ro (.string (ada (IntKind.u8.wrap ((u.toNat:Int)+32)))):=by
 have uA:(uY u).size=1:=rfl
 refine zE<|zD 15<|dH [1,1,0,1,0,0] [] (fun(zz:Nat×Bool)=>[(0,.string (uY u)),(2,.string (bs [])),(3,.bool true),(4,.bool zz.2),(5,zI (zz.1:Int))]) (fun zz=>[]) (fun zz=>(zz.1=0∧zz.2=false)∨(zz.1=1∧zz.2=true)) (fun zz=>1-zz.1) (⟨0,false⟩) (.inl ⟨rfl,rfl⟩) [] ?_
 rintro⟨i,q⟩ hI K1 bP rest
 dsimp only at hI
 refine zD 8<|zJ 14 ((i:Int) <((uY u).size:Int)) (fun h1=>?_) fun h1=>?_
 ·
  refine zD 5 ?_
  obtain⟨hi0,Ic⟩:i=0∧q=false:=by rcases hI with h|h;exact h;omega
  refine jw 5 (zI 0) (show Value.int .i64 (i:Int)= zI 0 by rw[hi0];rfl) ?_
  refine jw 4 (.bool false) (show Value.bool q= .bool false by rw[Ic])<|zD 12<|zJ 21 ((u.toNat:Int)≥128) (fun h2=>?_) fun h2=>?_
  ·
   exfalso;omega
  refine zD 8<|js 26 (decide (65≤(u.toNat:Int))) (fun h3=>?_) (fun h3=>?_)
  ·
   have uf:=h3
   replace uf:=of_decide_eq_true uf
   refine zD 11<|zY bP (⟨1,decide ((u.toNat:Int)≤90)⟩) (.inr ⟨rfl,decide_eq_true (by omega)⟩) []
  have uf:=h3
  replace uf:=of_decide_eq_false uf
  exfalso;omega
 refine zD 4 ?_
 obtain⟨hi1,hq1⟩:i=1∧q=true:=by rcases hI with h|h;omega;exact h
 refine jw 4 (.bool true) (show Value.bool q= .bool true by rw[hq1])<|zD 14<|jn fun b7=>zD 9<|jc (vs:=[zP b7,zI 1]) [0] (aK4) ?_
 rintro _ _ ⟨v,L,hv,rfl⟩
 refine jg 0 [.b b7 (.cells ⟨[zP b7,v]⟩ 416 (0,0)),.l L]<|zD 7<|dH [1,1,1,0,1,0,1,1,1,1,0,1,0,0] [] (fun(zz:Nat×Int×Value×Cells×(List Int))=>[(0,.string (uY u)),(2,.string (bs [])),(7,zP b7),(8,zI zz.2.1),(9,zI (zz.1:Int))]) (fun zz=>[.b b7 (.cells ⟨[zP b7,zz.2.2.1]⟩ 416 (0,0)),.l zz.2.2.2.1]) (fun zz=>aA zz.2.2.1 1 5 eBy zz.2.2.2.2 zz.2.2.2.1∧((zz.1=0∧zz.2.1=0∧zz.2.2.2.2=[])∨(zz.1=1∧zz.2.1=1∧zz.2.2.2.2=[(IntKind.u8.wrap ((u.toNat:Int)+32))]))) (fun zz=>1-zz.1) (⟨0,0,v,L,[]⟩) ⟨hv,.inl ⟨rfl,rfl,rfl⟩⟩ [0,1] ?_
 rintro⟨j,p,v,L,xs⟩ hJ K2 lL rest
 dsimp only at hJ
 refine zD 8<|zJ 41 ((j:Int) <((uY u).size:Int)) (fun h4=>?_) fun h4=>?_
 ·
  refine zD 5 ?_
  obtain⟨hj0,hp0,H9⟩:j=0∧p=0∧xs=[]:=by rcases hJ.2 with h|h;exact h;omega
  refine jw 9 (zI 0) (show Value.int .i64 (j:Int)= zI 0 by rw[hj0];rfl) ?_
  refine jw 8 (zI 0) (show Value.int .i64 p= zI 0 by rw[hp0])<|zD 11<|js 49 (decide (65≤(u.toNat:Int))) (fun h5=>?_) (fun h5=>?_)
  ·
   have F8:=h5
   replace F8:=of_decide_eq_true F8
   refine zD 4<|zJ 52 ((u.toNat:Int)≤90) (fun h6=>?_) fun h6=>?_
   ·
    refine zD 19<|jc (vs:=[zP b7,.int .u8 (IntKind.u8.wrap ((u.toNat:Int)+32))]) [0,1] (aK7 (by have:=hJ.1;rwa[H9] at this)) ?_
    rintro _ _ ⟨v2,L2,JO,rfl⟩
    refine jg 0 [.b b7 (.cells ⟨[zP b7,v2]⟩ 416 (0,0)),.l L2]<|zD 11<|zY lL (⟨1,1,v2,L2,[(IntKind.u8.wrap ((u.toNat:Int)+32))]⟩) ⟨JO,.inr ⟨rfl,rfl,rfl⟩⟩ [0,1]
   exfalso;omega
  have F8:=h5
  replace F8:=of_decide_eq_false F8
  exfalso;omega
 refine zD 4 ?_
 obtain⟨hj1,hp1,D6⟩:j=1∧p=1∧xs=[(IntKind.u8.wrap ((u.toNat:Int)+32))]:=by rcases hJ.2 with h|h;omega;exact h
 refine jw 8 (zI 1) (show Value.int .i64 p= zI 1 by rw[hp1])<|zD 9 ?_
 obtain⟨bb,lz,cap,oV,rfl,rfl⟩:=anQ (by have:=hJ.1;rwa[D6] at this)
 refine zD 1<|jc (vs:=[zP b7]) [0,1] (aZx (bb:=bb) (l:=lz) (c:=(IntKind.u8.wrap ((u.toNat:Int)+32))) oV) ?_
 rintro _ Yz rfl
 refine zD 3<|zX (.string (ada (IntKind.u8.wrap ((u.toNat:Int)+32)))) ⟨rfl,rfl⟩
def agS(u:UInt8):ByteArray:=if u.toNat <97 then ada (IntKind.u8.wrap ((u.toNat:Int)+32)) else uY u
theorem aYV{u:UInt8}(h:HY u=true∨HF u=true):dG zT 304 [.string (uY u)] ro (.string (agS u)):=by
 unfold agS
 rcases h with h|h
 ·simp only[HY,Bool.and_eq_true,Nat.ble_eq] at h
  rw[if_neg (by omega)]
  exact aKl (by omega)
 simp only[HF,Bool.and_eq_true,Nat.ble_eq] at h
 rw[if_pos (by omega)]
 exact aKk (by omega)
def uqN(rs:List dq)(a to:ByteArray):Nat→Nat→Option Nat
 |0,_=>none
 |f+1,m=>bif decide (0 <(Qn rs to m a []).length) then some m else uqN rs a to f (m+1)
def uq(rs:List dq)(a to:ByteArray):Option Nat:=uqN rs a to 3 0
def j7(c:UInt8):ByteArray:=if c.toNat=67 then bs [99,104] else if c.toNat=74 then bs [106,117] else if c.toNat=89 then bs [106,97] else if c.toNat=88 then bs [115,104] else if c.toNat <97 then bs [c.toNat+32] else bs [c.toNat]
def Kv:List UInt8→ByteArray→ByteArray
 | [],a=>a
 |c::l,a=>Kv l (a++j7 c)
def keyOf(w:ByteArray):ByteArray:=Kv w.data.toList (bs [])
theorem aou{l:List UInt8}{c:UInt8}{a:ByteArray}(h:l[k]?=some c):Kv (l.drop k) a=Kv (l.drop (k+1)) (a++j7 c):=by rw[fg h];rfl
theorem ag8{l:List UInt8}{a:ByteArray}(h:l[k]?=none):Kv (l.drop k) a=a:=by rw[eo (by rw[List.getElem?_eq_none_iff] at h;omega)];rfl
def Bo(rs:List dq)(a b:ByteArray):Int:=match uq rs (keyOf a) (keyOf b) with
 |none=>2
 |some 0=>1
 |some _=>3
structure sN(w:ByteArray):Prop where
 n:1≤w.size∧w.size≤6
 s:Script w
def V5(c:UInt8):Prop:=HY c=true∨HF c=true
theorem sN.let{w:ByteArray}(h:sN w):∀c∈w.data.toList,V5 c:=fun c hc=>h.s.elim (fun k=> .inl (k c hc)) fun k=> .inr (k c hc)
theorem abo:((List.range 256).all fun n=> !(HY (UInt8.ofNat n)||HF (UInt8.ofNat n))||(aol (j7 (UInt8.ofNat n))&&(Nat.ble 1 (j7 (UInt8.ofNat n)).size&&Nat.ble (j7 (UInt8.ofNat n)).size 2)))=true:=by kernel_rfl
theorem Q8{c:UInt8}(h:V5 c):yJ (j7 c)∧1≤(j7 c).size∧(j7 c).size≤2:=by
 have h2:=List.all_eq_true.1 abo c.toNat (List.mem_range.2 c.toNat_lt)
 have hb:UInt8.ofNat c.toNat=c:=by simp
 rw[hb] at h2
 have h3:(HY c||HF c)=true:=by rcases h with h|h<;>simp[h]
 rw[h3] at h2
 simp only[Bool.not_true,Bool.false_or,Bool.and_eq_true,Nat.ble_eq] at h2
 exact⟨HU h2.1,h2.2⟩
theorem Zz:∀ {l:List UInt8} {a:ByteArray},(∀c∈l,V5 c)→yJ a→yJ (Kv l a)∧(Kv l a).size≤a.size+2*l.length
 | [],a,_,ha=>⟨ha,by simp[Kv]⟩
 |c::l,a,h,ha=>by
  have h1:=Q8 (h c (by simp))
  obtain⟨h2,h3⟩:=Zz (l:=l) (a:=a++j7 c) (fun x hx=>h x (by simp[hx])) (ha.app h1.1)
  refine⟨h2,?_⟩
  simp only[Kv,ByteArray.size_append,List.length_cons] at h3 ⊢
  omega
theorem Sf{w:ByteArray}(h:sN w):yJ (keyOf w)∧(keyOf w).size≤12:=by
 have h1:=Zz (l:=w.data.toList) (a:=bs []) h.let (fun b hb=>by cases hb)
 have h2:w.data.toList.length=w.size:=Array.length_toList
 have h3:=h.n
 exact⟨h1.1,by have:=h1.2;have e:(bs []).size=0:=rfl;unfold keyOf;omega⟩
theorem aok{c:UInt8}(h:V5 c)(h1:¬(c.toNat:Int)=67)(h2:¬(c.toNat:Int)=74)(h3:¬(c.toNat:Int)=89)(h4:¬(c.toNat:Int)=88):agS c=j7 c:=by
 simp only[agS,j7,if_neg (show ¬c.toNat=67 by omega),if_neg (show ¬c.toNat=74 by omega),if_neg (show ¬c.toNat=89 by omega),if_neg (show ¬c.toNat=88 by omega)]
 split
 ·simp only[ada,bs]
  rw[tC .u8 rfl _ (by omega) (by simp[IntKind.bits];omega),show ((c.toNat:Int)+32).toNat=c.toNat+32 by omega]
  rfl
 simp[uY,bs]
theorem let_128{c:UInt8}(h:V5 c):c.toNat <128:=by
 rcases h with h|h
 ·simp only[HY,Bool.and_eq_true,Nat.ble_eq] at h;omega
 simp only[HF,Bool.and_eq_true,Nat.ble_eq] at h;omega
theorem avy{c:UInt8}(h:V5 c):dG zT 279 [.int .i32 (c.toNat:Int)] ro (.string (j7 c)):=by
 refine zE<|zD 29<|zJ 5 ((c.toNat:Int)=67) (fun h1=>?_) fun h1=>?_
 ·
  refine zD 8<|zX (.string (bs [99,104])) ⟨by rw[j7,if_pos (by omega)]<;>rfl,rfl⟩
 refine zD 8<|zJ 7 ((c.toNat:Int)=74) (fun h2=>?_) fun h2=>?_
 ·
  refine zD 17<|jsa (a:=(bs [106])) (b:=(bs [117])) 9 (by decide)<|zD 3<|zX (.string ((bs [106])++(bs [117]))) ⟨by rw[j7,if_neg (by omega),if_pos (by omega)]<;>rfl,rfl⟩
 refine zD 8<|zJ 9 ((c.toNat:Int)=89) (fun h3=>?_) fun h3=>?_
 ·
  refine zD 16<|jsa (a:=(bs [106])) (b:=(bs [97])) 9 (by decide)<|zD 3<|zX (.string ((bs [106])++(bs [97]))) ⟨by rw[j7,if_neg (by omega),if_neg (by omega),if_pos (by omega)]<;>rfl,rfl⟩
 refine zD 7<|zJ 11 ((c.toNat:Int)=88) (fun h4=>?_) fun h4=>?_
 ·
  refine zD 8<|zX (.string (bs [115,104])) ⟨by rw[j7,if_neg (by omega),if_neg (by omega),if_neg (by omega),if_pos (by omega)]<;>rfl,rfl⟩
 refine zD 6<|je (.string (uY c)) (ap7 (let_128 h))<|jp (vs:=[.string (uY c)]) [] [] (fun aJ hs hZ=>(aYV h))<|zD 3<|zX (.string (agS c)) ⟨by rw[aok h (by omega) (by omega) (by omega) (by omega)],rfl⟩
theorem aoa{w to:ByteArray}(hl:bJ ro vl 2 lE rs)(hR:∀r∈rs,sM r)(hw:yJ w)(td:w.size≤100)(hq:rs.length≤100):ee zT 248 [.string w,vl,.string to] ro [] (fun r Y=>(∃n v ps,uq rs w to=some n∧r= .tuple ⟨[v,.bool true]⟩∧aA v 1 9 rn ps Y∧ps.length=n+1)∨(uq rs w to=none∧r= .tuple ⟨[zS,.bool false]⟩∧Y=[])):=by
 obtain⟨fU,sg,sb,eZ,rfl,uz,lA,lZ⟩:=hl
 refine zE<|zD 11<|dH [1,0,1,0,0] [] (fun(zz:Nat)=>[(0,.string w),(1,.slice fU rs.length eZ),(2,.string to),(11,zI (zz:Int))]) (fun zz=>[]) (fun zz=>zz≤3∧uq rs w to=uqN rs w to (3-zz) zz) (fun zz=>3-zz) 0 ⟨by omega,rfl⟩ [] ?_
 rintro k hI K1 bP rest
 refine zD 5<|zJ 12 ((k:Int) <3) (fun h1=>?_) fun h1=>?_
 ·
  refine zD 15<|jc (vs:=[.string w,.slice fU rs.length eZ,.string to,zI (k:Int)]) [] (agA (show bJ _ _ _ _ _ from ⟨fU,sg,sb,eZ,rfl,uz,lA,lZ⟩)) ?_
  rintro _ _ ⟨agQ,agP,agO,agN,rfl,rfl⟩
  refine jg 0 [.b agQ (.cells ⟨[.string w]⟩ 356 (0,0)),.b agP (.cells ⟨[.slice fU rs.length eZ]⟩ 34 (0,0)),.b agO (.cells ⟨[.string to]⟩ 356 (0,0)),.b agN (.cells ⟨[zI (k:Int)]⟩ 3 (0,0))]<|jf (zN 0 4) ((agQ,.cells ⟨[.string w]⟩ 356 (0,0))::((agP,.cells ⟨[.slice fU rs.length eZ]⟩ 34 (0,0))::((agO,.cells ⟨[.string to]⟩ 356 (0,0))::[(agN,.cells ⟨[zI (k:Int)]⟩ 3 (0,0))]))) fun ro4 mI Im=>jc (vs:=[.func (.func 305) ⟨[]⟩ ⟨[zP agN,zP agO,zP agP,zP agQ]⟩,.func (.func 282) ⟨[]⟩ ⟨[]⟩]) [] (avA (ab2 (Im _ (.tail _ (.tail _ (.tail _ (.head _))))) (Im _ (.tail _ (.tail _ (.head _)))) (Im _ (.tail _ (.head _))) (Im _ (.head _)) ((show bJ _ _ _ _ _ from ⟨fU,sg,sb,eZ,rfl,uz,lA,lZ⟩).up mI) hR hw td hq (by omega)) (fun x hx=>by have:=PH hx;simp at this;omega)) ?_
  rintro _ L20 ⟨v20,rfl,aSL,axz,axK⟩
  refine zD 10<|js 23 (decide (0 <(Qn rs to k w []).length)) (fun h5=>?_) (fun h5=>?_)
  ·
   refine zD 8<|aN q0.a (.tuple ⟨[v20,.bool true]⟩) [] [0] L20 mI ⟨_,_,rfl,rfl,.inl ⟨k,v20,aSL,by rw[hI.2,show 3-k=(3-(k+1))+1 by omega,uqN,h5];rfl,rfl,axz,by have:=PH (axK (of_decide_eq_true h5));simpa using this⟩⟩
  refine zD 3<|zW ((k:Int)+1)<|zD 2<|bF bP (k+1) ⟨by omega,by rw[hI.2,show 3-k=(3-(k+1))+1 by omega,uqN,h5];rfl⟩ (by omega) [] mI
 refine zD 8<|zX (.tuple ⟨[zS,.bool false]⟩) (.inr ⟨by rw[hI.2,show 3-k=0 by omega];rfl,rfl,rfl⟩)
theorem avP{c:UInt8}(h:V5 c):c.toNat <128:=by
 rcases h with h|h
 ·simp only[HY,Bool.and_eq_true,Nat.ble_eq] at h;omega
 simp only[HF,Bool.and_eq_true,Nat.ble_eq] at h;omega
theorem avB{w to:ByteArray}(hl:bJ ro vl 2 lE rs)(hR:∀r∈rs,sM r)(hw:yJ w)(td:w.size≤100)(hq:rs.length≤100):ee zT 248 [.string w,vl,.string to] ro [] (fun r Y=>∃v ps ok,r= .tuple ⟨[v,.bool ok]⟩∧aA v 1 9 rn ps Y∧(ok=true→uq rs w to=some (ps.length-1)∧1≤ps.length)∧(ok=false→uq rs w to=none)):=by
 refine(aoa hl hR hw td hq).mono fun _ _ h=>?_
 rcases h with ⟨n,v,ps,h1,h2,h3,h4⟩| ⟨h1,h2,h3⟩
 ·exact⟨v,ps,true,h2,h3,fun _=>⟨by rw[h4];exact h1,by omega⟩,nofun⟩
 subst h3;exact⟨_,[],false,h2,aA.nil _ _ _,nofun,fun _=>h1⟩
def uN(rs:List dq)(a b:ByteArray):Int:=match uq rs a b with
 |some n=>n
 |none=>0
def uE(rs:List dq)(a b:ByteArray):Int:=match uq rs a b with
 |some _=>0
 |none=>11
theorem aq3{a to:ByteArray}:∀ {f m n:Nat},uqN rs a to f m=some n→n <m+f
 |0,_,_,h=>by cases h
 |f+1,m,n,h=>by
  simp only[uqN] at h
  cases hd:decide (0 <(Qn rs to m a []).length) with
  |true=>rw[hd] at h;simp only[cond_true,Option.some.injEq] at h;omega
  |false=>rw[hd] at h;simp only[cond_false] at h;have:=aq3 h;omega
theorem nOf{w:ByteArray}(hw:sN w):dG zT 247 [.string w] ro (.string (keyOf w)):=by
 refine zE<|zD 12<|jn fun r7=>zD 2<|dH [1,1,0,1,0,0] [] (fun(zz:Nat×ByteArray)=>[(2,.string (bs [])),(3,.string zz.2),(7,zP r7)]) (fun zz=>[.b r7 (.stringIter w zz.1)]) (fun zz=>(zz.1≤w.data.toList.length∧zz.2.size≤2*zz.1)∧keyOf w=Kv (w.data.toList.drop zz.1) zz.2) (fun zz=>w.data.toList.length-zz.1) (⟨0,(bs [])⟩) ⟨⟨by omega,Nat.le_refl _⟩,rfl⟩ [0] ?_
 rintro⟨p,a⟩ hI K1 bP rest
 dsimp only at hI
 refine zD 2 ?_
 cases hn8:w.data.toList[p]? with
 |some x8=>
  refine jnA r7 0 hn8 (avP (hw.let _ (zL hn8)))<|zD 11 ?_
  have hso:=Q8 (hw.let _ (zL hn8))
  have hlen:w.data.toList.length=w.size:=Array.length_toList
  have hwn:=hw.n
  refine zD 3<|jp (vs:=[.int .i32 (x8.toNat:Int)]) [] [] (fun aJ hs hZ=>(avy (hw.let _ (zL hn8))))<|jsa (a:=a) (b:=(j7 x8)) 9 (by omega)<|zD 2<|bF bP (⟨p+1,(a++j7 x8)⟩) ⟨⟨by have:=(List.getElem?_eq_some_iff.1 hn8).1;dsimp only;omega,by dsimp only;rw[ByteArray.size_append];omega⟩,by rw[hI.2,aou hn8]⟩ (by have:=(List.getElem?_eq_some_iff.1 hn8).1;dsimp only;omega) [0] (Sub.refl _)
 |none=>
  refine jnZ r7 0 hn8<|zD 11<|zX (.string a) ⟨by rw[hI.2,ag8 hn8],rfl⟩
theorem an9(hl:bJ ro vl 2 lE rs)(hR:∀r∈rs,sM r)(hq:rs.length≤4)(Ec:sN na)(yV:sN nb):ee zT 209 [vl,.string na,.string nb] ro [] (fun r Y=>∃v ps e,r= .tuple ⟨[v,zI e]⟩∧aA v 1 9 rn ps Y∧ps.length≤3∧((e=0∧uq rs (keyOf na) (keyOf nb)=some (ps.length-1)∧1≤ps.length)∨(e=11∧uq rs (keyOf na) (keyOf nb)=none))):=by
 obtain⟨fU,sg,sb,eZ,rfl,uz,lA,lZ⟩:=hl
 refine zE<|zD 9<|jp (vs:=[.slice fU rs.length eZ]) [] [] (fun aJ hs hZ=>ab0 ((show bJ _ _ _ _ _ from ⟨fU,sg,sb,eZ,rfl,uz,lA,lZ⟩).up hs) (by omega) hR)<|zD 14<|jn fun J8=>jp (vs:=[.slice (some ⟨J8,0,none⟩) 2 2]) [0] [(J8,.cells ⟨([na,nb].map rn).flatten⟩ 9 (0,0))] (fun aJ hs hZ=>agz (bX [na,nb] hZ.head (by intro p hp;rfl)) (by first|omega| (simp only[List.length_set,zM];omega)) (by intro x hx;simp only[List.mem_cons,List.not_mem_nil,or_false] at hx;rcases hx with rfl|rfl;exact⟨Ec.n,Ec.s⟩;exact⟨yV.n,yV.s⟩)) ?_
 refine zD 12<|jp (vs:=[.string na]) [] [] (fun aJ hs hZ=>(nOf Ec))<|zD 2<|jp (vs:=[.string nb]) [] [] (fun aJ hs hZ=>(nOf yV))<|jc (vs:=[.string (keyOf na),.slice fU rs.length eZ,.string (keyOf nb)]) [] (avB (show bJ _ _ _ _ _ from ⟨fU,sg,sb,eZ,rfl,uz,lA,lZ⟩) hR (Sf Ec).1 (by have:=(Sf Ec).2;omega) (by omega)) ?_
 rintro _ L30 ⟨v30,aSK,aSV,rfl,yU,awz,aTQ⟩
 refine zD 12<|js 34 (!aSV) (fun h1=>?_) (fun h1=>?_)
 ·
  try simp only[zB] at h1
  refine zD 7<|zX (.tuple ⟨[zS,zI 11]⟩) ⟨_,[],_,rfl,aA.nil _ _ _,by simp,.inr ⟨rfl,aTQ (by simp_all)⟩⟩
 try simp only[zB] at h1
 refine zD 9<|zR (.tuple ⟨[v30,zI 0]⟩) [] [0] L30 ⟨_,aSK,_,rfl,yU,by have:=aq3 (awz (by simp_all)).1;have:=(awz (by simp_all)).2;omega,.inl ⟨rfl,awz (by simp_all)⟩⟩
theorem aFc(hl:bJ ro vl 2 lE rs)(hR:∀r∈rs,sM r)(hq:rs.length≤4)(Ec:sN na)(yV:sN nb):dG zT 144 [vl,.string na,.string nb] ro (.tuple ⟨[zI (uN rs (keyOf na) (keyOf nb)),zI (uE rs (keyOf na) (keyOf nb))]⟩):=by
 obtain⟨fU,sg,sb,eZ,rfl,uz,lA,lZ⟩:=hl
 refine zE<|zD 10<|jc (vs:=[.slice fU rs.length eZ,.string na,.string nb]) [] (an9 (show bJ _ _ _ _ _ from ⟨fU,sg,sb,eZ,rfl,uz,lA,lZ⟩) hR hq Ec yV) ?_
 rintro _ L14 ⟨v14,aEL,Cm,rfl,Ik,bj3,F4⟩
 refine zD 12<|js 18 (!decide (Cm=0)) (fun h1=>?_) (fun h1=>?_)
 ·
  replace h1:=of_decide_eq_false (by simpa using h1)
  refine zD 8<|zX (.tuple ⟨[zI 0,zI Cm]⟩) ⟨by rcases F4 with ⟨h1,h2,h3⟩| ⟨h1,h2⟩<;>simp only[uN,uE,h2]<;>(subst h1;simp_all<;>omega),rfl⟩
 replace h1:=of_decide_eq_true (by simpa using h1)
 refine zD 5<|FP Ik<|zW ((aEL.length:Int)-1)<|zD 4<|zX (.tuple ⟨[zI ((aEL.length:Int)-1),zI 0]⟩) ⟨by rcases F4 with ⟨h1,h2,h3⟩| ⟨h1,h2⟩<;>simp only[uN,uE,h2]<;>(subst h1;simp_all<;>omega),rfl⟩
theorem BJ(hl:bJ ro vl 2 lE rs)(hR:∀r∈rs,sM r)(hq:rs.length≤4)(Ec:sN na)(yV:sN nb):dG zT 109 [vl,.string na,.string nb] ro (.tuple ⟨[zI (Bo rs na nb),zI 0]⟩):=by
 obtain⟨fU,sg,sb,eZ,rfl,uz,lA,lZ⟩:=hl
 refine zE<|zD 10<|jp (vs:=[.slice fU rs.length eZ,.string na,.string nb]) [] [] (fun aJ hs hZ=>aFc ((show bJ _ _ _ _ _ from ⟨fU,sg,sb,eZ,rfl,uz,lA,lZ⟩).up hs) hR hq Ec yV)<|zD 14<|zJ 17 ((uE rs (keyOf na) (keyOf nb))=11) (fun h1=>?_) fun h1=>?_
 ·
  refine zD 7<|zX (.tuple ⟨[zI 2,zI 0]⟩) ⟨by simp only[uN,uE,Bo] at*;rcases huq:uq rs (keyOf na) (keyOf nb) with _|_|n<;>simp_all<;>omega,rfl⟩
 refine zD 7<|js 20 (!decide ((uE rs (keyOf na) (keyOf nb))=0)) (fun h2=>?_) (fun h2=>?_)
 ·
  replace h2:=of_decide_eq_false (by simpa using h2)
  refine zD 8<|zX (.tuple ⟨[zI 0,zI (uE rs (keyOf na) (keyOf nb))]⟩) ⟨by simp only[uN,uE,Bo] at*;rcases huq:uq rs (keyOf na) (keyOf nb) with _|_|n<;>simp_all<;>omega,rfl⟩
 replace h2:=of_decide_eq_true (by simpa using h2)
 refine zD 7<|zJ 24 ((uN rs (keyOf na) (keyOf nb))=0) (fun h3=>?_) fun h3=>?_
 ·
  refine zD 7<|zX (.tuple ⟨[zI 1,zI 0]⟩) ⟨by simp only[uN,uE,Bo] at*;rcases huq:uq rs (keyOf na) (keyOf nb) with _|_|n<;>simp_all<;>omega,rfl⟩
 refine zD 8<|zX (.tuple ⟨[zI 3,zI 0]⟩) ⟨by simp only[uN,uE,Bo] at*;rcases huq:uq rs (keyOf na) (keyOf nb) with _|_|n<;>simp_all<;>omega,rfl⟩
abbrev eU8(x:Int):List Value:=[.int .u8 x]
structure bx where
 c:Nat→Nat→Bool
abbrev Ew(x:bx):List Value:=[.bool (x.c 0 0),.bool (x.c 0 1),.bool (x.c 0 2),.bool (x.c 0 3),.bool (x.c 1 0),.bool (x.c 1 1),.bool (x.c 1 2),.bool (x.c 1 3),.bool (x.c 2 0),.bool (x.c 2 1),.bool (x.c 2 2),.bool (x.c 2 3),.bool (x.c 3 0),.bool (x.c 3 1),.bool (x.c 3 2),.bool (x.c 3 3)]
def ox(cs:List cm):Nat→List Int
 |0=>[]
 |k+1=>ox cs k++[match cs[k]? with
  |some c=>if 0≤c.under then ZM .u8 (ZM .u8 0 (dZ .u8 1 k)) ((ox cs k)[c.under.toNat]?.getD 0) else ZM .u8 0 (dZ .u8 1 k)
  |none=>0]
theorem pf(cs:List cm):∀k,(ox cs k).length=k
 |0=>rfl
 |k+1=>by simp[ox,pf cs k]
theorem aqm{c:cm}{y:Int}(h:cs[k]?=some c) (hu:0≤c.under) (hy:(ox cs k)[c.under.toNat]?=some y):ox cs (k+1)=ox cs k++[ZM .u8 (ZM .u8 0 (dZ .u8 1 k)) y]:=by
 simp only[ox,h,if_pos hu,hy,Option.getD_some]
theorem aqn{c:cm}(h:cs[k]?=some c) (hu:¬0≤c.under):ox cs (k+1)=ox cs k++[ZM .u8 0 (dZ .u8 1 k)]:=by
 simp only[ox,h,if_neg hu]
def agR(s:Int):Nat→Int
 |0=> -1
 |k+1=>bif hasB s k then k else agR s k
def AA(cs:List cm)(a b:Int):Int:=agR (We .u8 ((ox cs cs.length)[a.toNat]?.getD 0) ((ox cs cs.length)[b.toNat]?.getD 0)) cs.length
def aaH(hd:List cF)(h:Int):Int:=match hd[h.toNat]? with
 |some x=>x.cls
 |none=>0
def rE(K:aE)(x y:aI):Bool:=decide (Bo K.rules x.name y.name=2)
def nt(K:aE)(x y:aI):Bool:=if (x.head <0∨y.head <0)∨x.head=y.head then false else decide (AA K.cs (aaH K.hd x.head) (aaH K.hd y.head) <0)
def Df(on:Int)(a b:Int):List eY→Nat→Bool
 | [],_=>false
 |x::l,k=>(((hasB on k&&decide (x.a=a))&&decide (x.b=b))&& !x.same)||Df on a b l (k+1)
def dA(K:aE)(on:Int)(a b:Nat):Bool:=match K.before[a]?,K.after[b]? with
 |some x,some y=> !rE K x y&&(!nt K x y&& !Df on a b K.facts 0)
 |_,_=>false
structure fq(K:aE):Prop where
 rules:K.rules.length≤4∧∀r∈K.rules,sM r
 before:K.before.length≤4∧∀p∈K.before,sN p.name∧oB K.hd p.head
 after:K.after.length≤4∧∀p∈K.after,sN p.name∧oB K.hd p.head
 cR:mf K.cs K.hd
 facts:K.facts.length≤4∧∀x∈K.facts,(0≤x.a∧x.a <K.before.length)∧(0≤x.b∧x.b <K.after.length)
def p5(ro:Nat→Option Obj)(f:Nat)(K:aE)(rows:List bx):Prop:=∃(c0 c1 c2 vc vh vr vb va vf vt:Value) (hv:List bW),
 ro f=some (.cells ⟨[c0,c1,c2,vc,vh,vr,vb,va,zI K.gone,zI K.new,zI K.af,vf,vt]⟩ 165 (0,0))∧kF ro vc vh K.cs hv K.hd∧dc dN hv K.hd∧
 bJ ro vr 2 lE K.rules∧bJ ro vb 5 fX K.before∧bJ ro va 5 fX K.after∧bJ ro vf 3 y6 K.facts∧bJ ro vt 16 Ew rows
theorem p5.up{f:Nat}{rows:List bx}(h:p5 ro f K rows)(hs:Sub ro aF):p5 aF f K rows:=by
 obtain⟨c0,c1,c2,vc,vh,vr,vb,va,vf,vt,hv,h1,h2,h3,h4,h5,h6,h7,h8⟩:=h
 exact⟨c0,c1,c2,vc,vh,vr,vb,va,vf,vt,hv,hs _ _ h1,h2.up hs,h3,h4.up hs,h5.up hs,h6.up hs,h7.up hs,h8.up hs⟩
theorem aQQ{f i:Int}(hi:0≤i∧i≤8):dG zT 147 [.int .u8 f,zI i] ro (.bool (hasB f i)):=by
 refine zE<|zD 8<|jsr (k:= .u8) (k':= .i64) (a:=f) (b:=i) 251 (by omega)<|zD 5<|zX (.bool (decide ((We .u8 (aV .u8 f i) 1)=1))) ⟨rfl,rfl⟩
theorem aCU{f i:Int}(hi:0≤i∧i≤8):dG zT 210 [.int .u8 f,zI i] ro (.int .u8 (ZM .u8 f (dZ .u8 1 i))):=by
 refine zE<|zD 8<|jsh (k:= .u8) (k':= .i64) (a:=1) (b:=i) 251 (by omega)<|zD 4<|zX (.int .u8 (ZM .u8 f (dZ .u8 1 i))) ⟨rfl,rfl⟩
theorem auy{hv:List bW}(hR:kF ro vc vh cs hv hd)(kz:dc dN hv hd)(hT:mf cs hd):ee zT 145 [.agg ⟨[vc,vh]⟩] ro [] (fun r Y=>∃b vS LS vE,r= .tuple ⟨[zP b,zI 0]⟩∧aA vS 1 251 eU8 (ox cs cs.length) LS∧Y=(b,.cells ⟨[vc,vh,vS,vE]⟩ 255 (0,0))::LS):=by
 obtain⟨hc,hh,dk⟩:=id hR
 obtain⟨dF,Ak,Aj,dB,rfl,CQ,yP,yO⟩:=hc
 obtain⟨di,uQ,uP,cP,rfl,wF,pM,pK⟩:=hh
 have Fc:=hT.nc
 have hnh:=hT.nh
 have hlen:=kz.len
 refine zE<|zD 2<|jn fun b1=>jd 7 [0]<|jp (vs:=[.agg ⟨[.slice dF cs.length dB,.slice di hv.length cP]⟩]) [] [] (fun aJ hs hZ=>(Yv (hR.up hs) kz hT))<|jd 13 [0]<|jn fun Bd=>jd 11 [1]<|my<|dH [1,1,1,0,1,0,0] [] (fun(zz:Nat×Value×Cells)=>[(1,zP b1),(2,.pointer none),(3,zI 0),(5,zP Bd),(20,.slice dF cs.length dB),(21,zI (cs.length:Int)),(22,zI (zz.1:Int))]) (fun zz=>[.l zz.2.2,.b Bd (.cells ⟨[.slice dF cs.length dB,.slice di hv.length cP,zz.2.1,zS]⟩ 255 (0,0)),.b b1 (.cells ⟨[.slice dF cs.length dB,.slice di hv.length cP]⟩ 33 (0,0))]) (fun zz=>zz.1≤cs.length∧aA zz.2.1 1 251 eU8 (ox cs zz.1) zz.2.2) (fun zz=>cs.length-zz.1) (⟨0,zS,[]⟩) ⟨by dsimp only;omega,aA.nil _ _ _⟩ [0,1,2] ?_
 rintro⟨k,vS,LS⟩ hI K1 bP rest
 dsimp only at hI
 refine zD 5<|zJ 23 ((k:Int) <(cs.length:Int)) (fun h1=>?_) fun h1=>?_
 ·
  refine zD 7 ?_
  obtain⟨sS,jU⟩:=zG cs k
  refine fK dB 2 yP jU<|jl 0 (yO _ _ jU)<|jn fun b7=>jd 4 [0] ?_
  have iY:=hT.cls _ _ jU
  have MQ:=pf cs k
  refine zD 2<|jp (vs:=[.int .u8 0,zI (k:Int)]) [] [] (fun aJ hs hZ=>(aCU (by omega)))<|jd 9 [0]<|zJ 31 (sS.under≥0) (fun h2=>?_) fun h2=>?_
  ·
   refine jd 9 [2,0] ?_
   obtain⟨P6,yS⟩:=zG ((ox cs k)) (sS.under.toNat) (by first|omega| (simp only[List.length_set,zM];omega))
   refine qg sS.under 1 hI.2 yS (Int.toNat_of_nonneg (show 0≤sS.under∧sS.under <(((ox cs k)).length:Int) from (by have:=iY.2;simp only[pf];omega)).1).symm (fun b39 aWV=>?_)
   refine n7 0 [1] LS (fun s _ hZ=>cB hI.2 aWV hZ yS)<|jd 10 [2]<|jn fun b48=>cH eU8 b48 (ZM .u8 (ZM .u8 0 (dZ .u8 1 (k:Int))) P6) 2 0 hI.2 rfl rfl (by simp only[pf];omega) (fun am2 amX L49 WA=>?_)
   refine jd 5 [3]<|zW ((k:Int)+1)<|zD 2<|zF bP (⟨k+1,(.slice am2 (((ox cs k)++[(ZM .u8 (ZM .u8 0 (dZ .u8 1 (k:Int))) P6)])).length amX),L49⟩) (by rw[aqm jU (by omega) yS];exact WA) [0,3,4]
  refine jd 9 [2]<|jn fun b48=>cH eU8 b48 (ZM .u8 0 (dZ .u8 1 (k:Int))) 2 0 hI.2 rfl rfl (by simp only[pf];omega) (fun am2 amX L49 WA=>?_)
  refine jd 5 [3]<|zW ((k:Int)+1)<|zD 2<|zF bP (⟨k+1,(.slice am2 (((ox cs k)++[(ZM .u8 0 (dZ .u8 1 (k:Int)))])).length amX),L49⟩) (by rw[aqn jU (by omega)];exact WA) [0,3,4]
 refine jd 11 [2]<|my<|dH [1,1,1,1,0,1,0,0] [] (fun(zz:Nat×Value×Cells×(List Value))=>[(2,.pointer none),(3,zI 0),(5,zP Bd),(54,.slice di hv.length cP),(55,zI (hv.length:Int)),(56,zI (zz.1:Int))]) (fun zz=>[.l zz.2.2.1,.b Bd (.cells ⟨[.slice dF cs.length dB,.slice di hv.length cP,vS,zz.2.1]⟩ 255 (0,0)),.l LS,.b b1 (.cells ⟨[.slice dF cs.length dB,.slice di hv.length cP]⟩ 33 (0,0))]) (fun zz=>(zz.1≤hv.length∧zz.2.2.2.length≤zz.1)∧aA zz.2.1 1 468 gL zz.2.2.2 zz.2.2.1) (fun zz=>hv.length-zz.1) (⟨0,zS,[],[]⟩) ⟨⟨by omega,Nat.le_refl _⟩,aA.nil _ _ _⟩ [0,2,1,3] ?_
 rintro⟨j,vE,LE,es⟩ hJ K2 lL rest
 dsimp only at hJ
 refine zD 5<|zJ 57 ((j:Int) <(hv.length:Int)) (fun h3=>?_) fun h3=>?_
 ·
  refine zD 6 ?_
  obtain⟨NC,aoY⟩:=zG hv j
  refine fK cP 4 pM aoY<|jl 0 (pK _ _ aoY)<|jn fun pX=>jsx 0 pX 0 [.string ByteArray.empty,zI 0,zI 0,zS] [.string NC.word,zI NC.cls,zI NC.pG,NC.eX] 173 (ng dk _ (zL aoY)) rfl<|zD 3 ?_
  obtain⟨y58,bi3,aUF⟩:=dk.get aoY
  obtain⟨fU,sg,sb,eZ,hqe,uz,lA,lZ⟩:=aUF.2.2.2
  refine jmw 0 [.b pX (.cells ⟨[.string NC.word,zI NC.cls,zI NC.pG,.slice fU y58.eX.length eZ]⟩ 173 (0,0))] (L:=[(pX,.cells ⟨[.string NC.word,zI NC.cls,zI NC.pG,NC.eX]⟩ 173 (0,0))]) (by rw[hqe];rfl) ?_
  refine jd 6 [0]<|js 73 (!decide (NC.pG=(-1))) (fun h4=>?_) (fun h4=>?_)
  ·
   replace h4:=of_decide_eq_false (by simpa using h4)
   refine jd 11 [2,0]<|aP 9 fun tA tH q5=>jn fun b86=>dW q5 (zN 1 5)<|aP 10 fun sR sX qZ=>cH gL b86 (.iface 313 (.agg ⟨[zI NC.pG]⟩):Value) 2 0 hJ.2 rfl rfl (by omega) fun aPw aO9 L87 axg=>eW qZ [[2]]<|zD 2<|aP 13 fun Bg Br B7=>jd 1 [3]<|eW B7 []<|zD 2<|zW ((j:Int)+1)<|zD 2<|zY lL (⟨j+1,(.slice aPw ((es++[(.iface 313 (.agg ⟨[zI NC.pG]⟩):Value)])).length aO9),L87,(es++[(.iface 313 (.agg ⟨[zI NC.pG]⟩):Value)])⟩) ⟨⟨by dsimp only;omega,by simp only[zM];omega⟩,axg⟩ [0,3,4,5]
  replace h4:=of_decide_eq_true (by simpa using h4)
  refine jd 8 [0]<|js 90 (!decide (NC.cls=(-1))) (fun h8=>?_) (fun h8=>?_)
  ·
   replace h8:=of_decide_eq_false (by simpa using h8)
   refine jd 13 [2,0,0]<|aP 11 fun ad4 aeQ W7=>jn fun aZO=>dW W7 (zN 1 5)<|aP 12 fun aa8 abl O6=>cH gL aZO (.iface 315 (.agg ⟨[zI NC.cls,.slice fU y58.eX.length eZ]⟩):Value) 2 0 hJ.2 rfl rfl (by omega) fun aCm aB8 baH apc=>eW O6 [[2],[2]]<|zD 2<|aP 15 fun UF U3 W6=>jd 1 [3]<|eW W6 []<|zD 2<|zW ((j:Int)+1)<|zD 2<|zY lL (⟨j+1,(.slice aCm ((es++[(.iface 315 (.agg ⟨[zI NC.cls,.slice fU y58.eX.length eZ]⟩):Value)])).length aB8),baH,(es++[(.iface 315 (.agg ⟨[zI NC.cls,.slice fU y58.eX.length eZ]⟩):Value)])⟩) ⟨⟨by dsimp only;omega,by simp only[zM];omega⟩,apc⟩ [0,3,4,5]
  replace h8:=of_decide_eq_true (by simpa using h8)
  refine jd 11 [2,0]<|aP 9 fun UE U2 O5=>jn fun b69=>dW O5 (zN 1 5)<|aP 10 fun GW G9 xv=>cH gL b69 (.iface 317 (.agg ⟨[.slice fU y58.eX.length eZ]⟩):Value) 2 0 hJ.2 rfl rfl (by omega) fun aPz aPc L70 axi=>eW xv [[2]]<|zD 2<|aP 13 fun Lf Lx Ej=>jd 1 [3]<|eW Ej []<|zD 2<|zW ((j:Int)+1)<|zD 2<|zY lL (⟨j+1,(.slice aPz ((es++[(.iface 317 (.agg ⟨[.slice fU y58.eX.length eZ]⟩):Value)])).length aPc),L70,(es++[(.iface 317 (.agg ⟨[.slice fU y58.eX.length eZ]⟩):Value)])⟩) ⟨⟨by dsimp only;omega,by simp only[zM];omega⟩,axi⟩ [0,3,4,5]
 refine zD 9<|zR (.tuple ⟨[zP Bd,zI 0]⟩) [] [1,2] ((Bd,.cells ⟨[.slice dF cs.length dB,.slice di hv.length cP,vS,vE]⟩ 255 (0,0))::LS) ⟨_,_,LS,_,rfl,by have:=hI.2;rwa[show k=cs.length by omega] at this,rfl⟩
theorem Zr{s:Int}{j:Int}(h:0≤j):agR s (j+1).toNat=bif hasB s j then j else agR s j.toNat:=by
 obtain⟨m,rfl⟩:=Int.eq_ofNat_of_zero_le h
 rfl
theorem YE{on a b:Int}{l:List eY}{x:eY}(h:l[k]?=some x):Df on a b (l.drop k) k=((((hasB on k&&decide (x.a=a))&&decide (x.b=b))&& !x.same)||Df on a b (l.drop (k+1)) (k+1)):=by rw[fg h];rfl
theorem aff{on a b:Int}{l:List eY}(h:¬k <l.length):Df on a b (l.drop k) k=false:=by rw[eo h];rfl
theorem vY{hv:List bW}{x:bW}(hS:dc dN hv hd)(hT:mf cs hd)(hk:oB hd h)(h0:0≤h)(hx:hv[h.toNat]?=some x):aaH hd h=x.cls∧0≤x.cls∧x.cls <cs.length:=by
 obtain⟨y,hy,hs⟩:=hS.get hx
 rcases hk with rfl| ⟨_,z,hz,hc⟩
 ·omega
 rw[hy] at hz;cases hz
 have:=(hT.B4 _ _ hy).2.1
 exact⟨by simp[aaH,hy,hs.2.1],hs.2.1▸hc,by rw[hs.2.1];exact this.2⟩
theorem vW{hv:List bW}(hS:dc dN hv hd)(hk:oB hd h)(h0:0≤h):h <hv.length:=by
 rcases hk with rfl| ⟨_,z,hz,_⟩
 ·omega
 have:=(List.getElem?_eq_some_iff.1 hz).1
 rw[hS.len];omega
theorem U7{hv:List bW}{a b:Int}(hR:kF ro vc vh cs hv hd)(kz:dc dN hv hd)(hT:mf cs hd)(ha:0≤a∧a <cs.length)(hb:0≤b∧b <cs.length):dG zT 110 [.agg ⟨[vc,vh]⟩,zI a,zI b] ro (.tuple ⟨[zI (AA cs a b),zI 0]⟩):=by
 obtain⟨hc,hh,dk⟩:=id hR
 obtain⟨dF,Ak,Aj,dB,rfl,CQ,yP,yO⟩:=hc
 obtain⟨di,uQ,uP,cP,rfl,wF,pM,pK⟩:=hh
 have Fc:=hT.nc
 have hnh:=hT.nh
 have hlen:=kz.len
 have MQ:=pf cs cs.length
 refine zE<|zD 2<|jn fun b3=>jd 6 [0]<|jc (vs:=[.agg ⟨[.slice dF cs.length dB,.slice di hv.length cP]⟩]) [] (auy hR kz hT) ?_
 rintro _ _ ⟨bT,vS,LS,vE,rfl,hS,rfl⟩
 refine jg 0 [.b bT (.cells ⟨[.slice dF cs.length dB,.slice di hv.length cP,vS,vE]⟩ 255 (0,0)),.l LS]<|zD 5<|jf [0,1] ((bT,.cells ⟨[.slice dF cs.length dB,.slice di hv.length cP,vS,vE]⟩ 255 (0,0))::LS) (fun ya cu iX=>?_)
 have hSS:=hS.jR iX.tail
 obtain⟨aDZ,bhz,bhx,anE,rfl,bhy,aDY,aDX⟩:=hSS
 refine jd 17 [0]<|zW ((cs.length:Int)-1)<|jp (vs:=[zI a,zI 0,zI ((cs.length:Int)-1)]) [] [] (fun aJ hs hZ=>jP)<|zD 3<|js 20 (!(ju a 0 ((cs.length:Int)-1))) (fun h4=>?_) (fun h4=>?_)
 ·
  try simp only[zB] at h4
  exfalso;simp only[ju,Bool.not_eq_true',Bool.and_eq_false_iff,decide_eq_false_iff_not] at h4;omega
 try simp only[zB] at h4
 refine jd 6 [0]<|zW ((cs.length:Int)-1)<|jp (vs:=[zI b,zI 0,zI ((cs.length:Int)-1)]) [] [] (fun aJ hs hZ=>jP)<|zD 3<|js 20 (!(ju b 0 ((cs.length:Int)-1))) (fun h5=>?_) (fun h5=>?_)
 ·
  try simp only[zB] at h5
  exfalso;simp only[ju,Bool.not_eq_true',Bool.and_eq_false_iff,decide_eq_false_iff_not] at h5;omega
 try simp only[zB] at h5
 refine jd 8 [0]<|zW ((cs.length:Int)-1)<|zD 3<|dH [1,1,1,0,1,0,0] [] (fun(zz:Int)=>[(1,zI a),(2,zI b),(8,zP bT),(10,zI zz)]) (fun zz=>[.b b3 (.cells ⟨[.slice dF cs.length dB,.slice di hv.length cP]⟩ 33 (0,0))]) (fun zz=>(-1≤zz∧zz <cs.length)∧AA cs a b=agR (We .u8 ((ox cs cs.length)[a.toNat]?.getD 0) ((ox cs cs.length)[b.toNat]?.getD 0)) (zz+1).toNat) (fun zz=>(zz+1).toNat) ((cs.length:Int)-1) ⟨by omega,by rw[AA,show ((cs.length:Int)-1+1).toNat=cs.length by omega]⟩ [0] ?_
 rintro j hI K1 bP rest
 refine zD 6<|zJ 40 (j≥0) (fun h6=>?_) fun h6=>?_
 ·
  refine zD 9<|jl (b:=bT) (off:=0) (m:=4) (vs:=[.slice dF cs.length dB,.slice di hv.length cP,.slice aDZ ((ox cs cs.length).length) anE,vE]) 2 ⟨_,_,_,.inl (iX _ (.head _)),rfl⟩<|zD 1 ?_
  obtain⟨x48,H7⟩:=zG ((ox cs cs.length)) (a.toNat) (by simp only[pf];omega)
  refine CU a anE 1 aDY H7 (Int.toNat_of_nonneg (show 0≤a∧a <(((ox cs cs.length)).length:Int) from (by simp only[pf];omega)).1).symm ?_
  refine jl 0 (aDX _ _ H7)<|zD 3<|jl (b:=bT) (off:=0) (m:=4) (vs:=[.slice dF cs.length dB,.slice di hv.length cP,.slice aDZ ((ox cs cs.length).length) anE,vE]) 2 ⟨_,_,_,.inl (iX _ (.head _)),rfl⟩<|zD 1 ?_
  obtain⟨x55,aoZ⟩:=zG ((ox cs cs.length)) (b.toNat)
  refine CU b anE 1 aDY aoZ (by omega)<|jl 0 (aDX _ _ aoZ)<|zD 2<|jp (vs:=[.int .u8 (We .u8 x48 x55),zI j]) [] [] (fun aJ hs hZ=>(aQQ (by omega)))<|zD 1<|js 59 (hasB (We .u8 x48 x55) j) (fun h7=>?_) (fun h7=>?_)
  ·
   refine zD 8<|aN q0.a (.tuple ⟨[zI j,zI 0]⟩) [] [] [] cu ⟨_,_,rfl,rfl,by rw[hI.2,Zr (by omega),H7,aoZ,Option.getD_some,Option.getD_some,show hasB _ _=true from (by assumption)];rfl,rfl⟩
  refine zD 4<|zW (j-1)<|zD 2<|zY bP (j-1) ⟨by omega,by rw[hI.2,Zr (by omega),H7,aoZ,Option.getD_some,Option.getD_some,show hasB _ _=false from (by assumption),show j-1+1=j by omega];rfl⟩ [0]
 refine zD 8<|aN q0.a (.tuple ⟨[zI (-1),zI 0]⟩) [] [] [] cu ⟨_,_,rfl,rfl,by rw[hI.2,show j= -1 by omega];rfl,rfl⟩
theorem aFF:dG zT 195 [] ro (.agg ⟨[.iface 348 (.agg ⟨[]⟩),.iface 349 (.agg ⟨[]⟩),.iface 350 (.agg ⟨[]⟩)]⟩):=by
 refine zE<|zD 2<|jn fun b0=>jd 13 [0]<|zR (.agg ⟨[.iface 348 (.agg ⟨[]⟩),.iface 349 (.agg ⟨[]⟩),.iface 350 (.agg ⟨[]⟩)]⟩) [0] [] [] ⟨rfl,rfl⟩
theorem av0{f:Nat}{rows:List bx}{a:Nat}{x:aI}{on:Int}(hF:p5 ro f K rows)(hV:fq K)(ha:K.before[a]?=some x) (hb:K.after[b]?=some y):dG zT 371 [.agg ⟨[]⟩,zP f,zI (a:Int),zI (b:Int),.int .u8 on] ro (.bool (rE K x y)):=by
 obtain⟨c0,c1,c2,vc,vh,vr,vb,va,vf,vt,hv,hf,py,kz,hr,yY,B6,Eg,cg⟩:=id hF
 obtain⟨hc,hh,dk⟩:=id py
 obtain⟨dF,Ak,Aj,dB,rfl,CQ,yP,yO⟩:=hc
 obtain⟨di,uQ,uP,cP,rfl,wF,pM,pK⟩:=hh
 obtain⟨iI,Gu,Gt,iH,rfl,JI,FL,FK⟩:=hr
 obtain⟨fC,Dv,Dt,eO,rfl,Du,wu,wq⟩:=yY
 obtain⟨fD,Dy,Dw,eQ,rfl,Dx,wy,wx⟩:=B6
 obtain⟨fS,Kp,Km,fe,rfl,Ko,wW,wV⟩:=Eg
 obtain⟨nX,FJ,FI,nD,rfl,Ro,N5,N4⟩:=cg
 have MS:=hV.rules.1
 have yV:=hV.before.1
 have Ec:=hV.after.1
 have hnf:=hV.facts.1
 have KJ:=(List.getElem?_eq_some_iff.1 ha).1
 have S3:=(List.getElem?_eq_some_iff.1 hb).1
 refine zE<|zD 2<|jn fun b5=>zD 8<|jl (b:=f) (off:=0) (m:=13) (vs:=[c0,c1,c2,.slice dF K.cs.length dB,.slice di hv.length cP,.slice iI K.rules.length iH,.slice fC K.before.length eO,.slice fD K.after.length eQ,zI K.gone,zI K.new,zI K.af,.slice fS K.facts.length fe,.slice nX rows.length nD]) 5 ⟨_,_,_,.inl hf,rfl⟩<|zD 4<|jl (b:=f) (off:=0) (m:=13) (vs:=[c0,c1,c2,.slice dF K.cs.length dB,.slice di hv.length cP,.slice iI K.rules.length iH,.slice fC K.before.length eO,.slice fD K.after.length eQ,zI K.gone,zI K.new,zI K.af,.slice fS K.facts.length fe,.slice nX rows.length nD]) 6 ⟨_,_,_,.inl hf,rfl⟩<|zD 1 ?_
 obtain⟨sS,jU⟩:=zG K.before a
 refine fK eO 5 wu jU<|zD 1<|jl 0 (wq _ _ jU)<|zD 4<|jl (b:=f) (off:=0) (m:=13) (vs:=[c0,c1,c2,.slice dF K.cs.length dB,.slice di hv.length cP,.slice iI K.rules.length iH,.slice fC K.before.length eO,.slice fD K.after.length eQ,zI K.gone,zI K.new,zI K.af,.slice fS K.facts.length fe,.slice nX rows.length nD]) 7 ⟨_,_,_,.inl hf,rfl⟩<|zD 1 ?_
 obtain⟨x34,OM⟩:=zG K.after b
 refine fK eQ 5 wy OM<|zD 1<|jl 0 (wx _ _ OM)<|jp (vs:=[.slice iI K.rules.length iH,.string sS.name,.string x34.name]) [] [] (fun aJ hs hZ=>BJ ((show bJ _ _ _ _ _ from ⟨iI,Gu,Gt,iH,rfl,JI,FL,FK⟩).up hs) hV.rules.2 MS (hV.before.2 _ (zL jU)).1 (hV.after.2 _ (zL OM)).1)<|zD 9<|jp (vs:=[zI 0]) [] [] (fun aJ hs hZ=>BR)<|zD 8<|zX (.bool (decide ((Bo K.rules sS.name x34.name)=2))) ⟨by rw[ha] at jU;cases jU;rw[hb] at OM;cases OM;rfl,rfl⟩
theorem ahy{f:Nat}{rows:List bx}{a:Nat}{x:aI}{on:Int}(hF:p5 ro f K rows)(hV:fq K)(ha:K.before[a]?=some x) (hb:K.after[b]?=some y):dG zT 373 [.agg ⟨[]⟩,zP f,zI (a:Int),zI (b:Int),.int .u8 on] ro (.bool (nt K x y)):=by
 obtain⟨c0,c1,c2,vc,vh,vr,vb,va,vf,vt,hv,hf,py,kz,hr,yY,B6,Eg,cg⟩:=id hF
 obtain⟨hc,hh,dk⟩:=id py
 obtain⟨dF,Ak,Aj,dB,rfl,CQ,yP,yO⟩:=hc
 obtain⟨di,uQ,uP,cP,rfl,wF,pM,pK⟩:=hh
 obtain⟨iI,Gu,Gt,iH,rfl,JI,FL,FK⟩:=hr
 obtain⟨fC,Dv,Dt,eO,rfl,Du,wu,wq⟩:=yY
 obtain⟨fD,Dy,Dw,eQ,rfl,Dx,wy,wx⟩:=B6
 obtain⟨fS,Kp,Km,fe,rfl,Ko,wW,wV⟩:=Eg
 obtain⟨nX,FJ,FI,nD,rfl,Ro,N5,N4⟩:=cg
 have MS:=hV.rules.1
 have yV:=hV.before.1
 have Ec:=hV.after.1
 have hnf:=hV.facts.1
 have KJ:=(List.getElem?_eq_some_iff.1 ha).1
 have S3:=(List.getElem?_eq_some_iff.1 hb).1
 refine zE<|zD 2<|jn fun b5=>zD 8<|jl (b:=f) (off:=0) (m:=13) (vs:=[c0,c1,c2,.slice dF K.cs.length dB,.slice di hv.length cP,.slice iI K.rules.length iH,.slice fC K.before.length eO,.slice fD K.after.length eQ,zI K.gone,zI K.new,zI K.af,.slice fS K.facts.length fe,.slice nX rows.length nD]) 6 ⟨_,_,_,.inl hf,rfl⟩<|zD 1 ?_
 obtain⟨zx,qR⟩:=zG K.before a
 refine fK eO 5 wu qR<|zD 1<|jl 3 (wq _ _ qR)<|zD 4<|jl (b:=f) (off:=0) (m:=13) (vs:=[c0,c1,c2,.slice dF K.cs.length dB,.slice di hv.length cP,.slice iI K.rules.length iH,.slice fC K.before.length eO,.slice fD K.after.length eQ,zI K.gone,zI K.new,zI K.af,.slice fS K.facts.length fe,.slice nX rows.length nD]) 7 ⟨_,_,_,.inl hf,rfl⟩<|zD 1 ?_
 obtain⟨pw,kS⟩:=zG K.after b
 refine fK eQ 5 wy kS<|zD 1<|jl 3 (wx _ _ kS)<|zD 9<|jj 3 [(1,zP f),(10,.bool false),(11,zI zx.head),(12,zI pw.head),(38,.bool ((decide (zx.head <0))||(decide (pw.head <0))))] (fun fA=>?_) (fun hj=>?_)
 rotate_left
 refine js 35 (decide (zx.head <0)) (fun h1=>?_) (fun h1=>?_)
 ·
  have gM:=h1
  replace gM:=of_decide_eq_true gM
  refine zD 3<|jw 38 (.bool ((decide (zx.head <0))||(decide (pw.head <0)))) (w:= .bool true) (by rw[h1]<;>rfl) ?_
  exact zK hj
 ·
  have gM:=h1
  replace gM:=of_decide_eq_false gM
  refine zD 3<|jw 38 (.bool ((decide (zx.head <0))||(decide (pw.head <0)))) (w:= .bool (decide (pw.head <0))) (by rw[h1]<;>rfl) ?_
  exact zK hj
 refine zD 1<|jj 4 [(1,zP f),(10,.bool false),(11,zI zx.head),(12,zI pw.head),(43,.bool (((decide (zx.head <0))||(decide (pw.head <0)))||(decide (zx.head=pw.head))))] (fun fA=>?_) (fun hj=>?_)
 rotate_left
 refine js 39 ((decide (zx.head <0))||(decide (pw.head <0))) (fun h2=>?_) (fun h2=>?_)
 ·
  have mU:=h2
  try simp only[zB] at mU
  refine zD 4<|jw 43 (.bool (((decide (zx.head <0))||(decide (pw.head <0)))||(decide (zx.head=pw.head)))) (w:= .bool true) (by rw[h2]<;>rfl) ?_
  exact zK hj
 ·
  have mU:=h2
  try simp only[zB] at mU
  refine zD 4<|jw 43 (.bool (((decide (zx.head <0))||(decide (pw.head <0)))||(decide (zx.head=pw.head)))) (w:= .bool (decide (zx.head=pw.head))) (by rw[h2]<;>rfl) ?_
  exact zK hj
 refine zD 1<|js 43 (((decide (zx.head <0))||(decide (pw.head <0)))||(decide (zx.head=pw.head))) (fun h3=>?_) (fun h3=>?_)
 ·
  try simp only[zB] at h3
  refine zD 6<|zX (.bool false) ⟨by rw[ha] at qR;cases qR;rw[hb] at kS;cases kS;rw[nt,if_pos (by omega)],rfl⟩
 try simp only[zB] at h3
 refine zD 8<|jl (b:=f) (off:=0) (m:=13) (vs:=[c0,c1,c2,.slice dF K.cs.length dB,.slice di hv.length cP,.slice iI K.rules.length iH,.slice fC K.before.length eO,.slice fD K.after.length eQ,zI K.gone,zI K.new,zI K.af,.slice fS K.facts.length fe,.slice nX rows.length nD]) 3 ⟨_,_,_,.inl hf,rfl⟩<|zD 5<|jl (b:=f) (off:=0) (m:=13) (vs:=[c0,c1,c2,.slice dF K.cs.length dB,.slice di hv.length cP,.slice iI K.rules.length iH,.slice fC K.before.length eO,.slice fD K.after.length eQ,zI K.gone,zI K.new,zI K.af,.slice fS K.facts.length fe,.slice nX rows.length nD]) 4 ⟨_,_,_,.inl hf,rfl⟩<|zD 1 ?_
 obtain⟨x57,yR⟩:=zG hv (zx.head.toNat) (by have:=vW kz (hV.before.2 _ (zL qR)).2 (by omega);omega)
 refine CU zx.head cP 4 pM yR (Int.toNat_of_nonneg (show 0≤zx.head∧zx.head <((hv).length:Int) from (by have:=vW kz (hV.before.2 _ (zL qR)).2 (by omega);omega)).1).symm ?_
 refine zD 1<|jl 1 (pK _ _ yR)<|zD 5<|jl (b:=f) (off:=0) (m:=13) (vs:=[c0,c1,c2,.slice dF K.cs.length dB,.slice di hv.length cP,.slice iI K.rules.length iH,.slice fC K.before.length eO,.slice fD K.after.length eQ,zI K.gone,zI K.new,zI K.af,.slice fS K.facts.length fe,.slice nX rows.length nD]) 4 ⟨_,_,_,.inl hf,rfl⟩<|zD 1 ?_
 obtain⟨x67,aoX⟩:=zG hv (pw.head.toNat) (by have:=vW kz (hV.after.2 _ (zL kS)).2 (by omega);omega)
 refine CU pw.head cP 4 pM aoX (Int.toNat_of_nonneg (show 0≤pw.head∧pw.head <((hv).length:Int) from (by have:=vW kz (hV.after.2 _ (zL kS)).2 (by omega);omega)).1).symm ?_
 refine zD 1<|jl 1 (pK _ _ aoX)<|jp (vs:=[.agg ⟨[.slice dF K.cs.length dB,.slice di hv.length cP]⟩,zI x57.cls,zI x67.cls]) [] [] (fun aJ hs hZ=>U7 (py.up hs) kz hV.cR (vY kz hV.cR (hV.before.2 _ (zL qR)).2 (by omega) yR).2 (vY kz hV.cR (hV.after.2 _ (zL kS)).2 (by omega) aoX).2)<|zD 9<|jp (vs:=[zI 0]) [] [] (fun aJ hs hZ=>BR)<|zD 8<|zX (.bool (decide ((AA K.cs x57.cls x67.cls) <0))) ⟨by rw[ha] at qR;cases qR;rw[hb] at kS;cases kS;rw[nt,if_neg (by omega),(vY kz hV.cR (hV.before.2 _ (zL ha)).2 (by omega) yR).1,(vY kz hV.cR (hV.after.2 _ (zL hb)).2 (by omega) aoX).1],rfl⟩
theorem aox{f:Nat}{rows:List bx}{a:Nat}{on:Int}(hF:p5 ro f K rows)(hV:fq K):dG zT 375 [.agg ⟨[]⟩,zP f,zI (a:Int),zI (b:Int),.int .u8 on] ro (.bool (Df on a b K.facts 0)):=by
 obtain⟨c0,c1,c2,vc,vh,vr,vb,va,vf,vt,hv,hf,py,kz,hr,yY,B6,Eg,cg⟩:=id hF
 obtain⟨hc,hh,dk⟩:=id py
 obtain⟨dF,Ak,Aj,dB,rfl,CQ,yP,yO⟩:=hc
 obtain⟨di,uQ,uP,cP,rfl,wF,pM,pK⟩:=hh
 obtain⟨iI,Gu,Gt,iH,rfl,JI,FL,FK⟩:=hr
 obtain⟨fC,Dv,Dt,eO,rfl,Du,wu,wq⟩:=yY
 obtain⟨fD,Dy,Dw,eQ,rfl,Dx,wy,wx⟩:=B6
 obtain⟨fS,Kp,Km,fe,rfl,Ko,wW,wV⟩:=Eg
 obtain⟨nX,FJ,FI,nD,rfl,Ro,N5,N4⟩:=cg
 have MS:=hV.rules.1
 have yV:=hV.before.1
 have Ec:=hV.after.1
 have hnf:=hV.facts.1
 refine zE<|zD 2<|jn fun b5=>zD 9<|jl (b:=f) (off:=0) (m:=13) (vs:=[c0,c1,c2,.slice dF K.cs.length dB,.slice di hv.length cP,.slice iI K.rules.length iH,.slice fC K.before.length eO,.slice fD K.after.length eQ,zI K.gone,zI K.new,zI K.af,.slice fS K.facts.length fe,.slice nX rows.length nD]) 11 ⟨_,_,_,.inl hf,rfl⟩<|zD 4<|dH [1,0,1,0,0] [] (fun(zz:Nat)=>[(2,zI (a:Int)),(3,zI (b:Int)),(4,.int .u8 on),(17,.slice fS K.facts.length fe),(18,zI (K.facts.length:Int)),(19,zI (zz:Int))]) (fun zz=>[]) (fun zz=>zz≤K.facts.length∧Df on a b K.facts 0=Df on a b (K.facts.drop zz) zz) (fun zz=>K.facts.length-zz) 0 ⟨by omega,rfl⟩ [] ?_
 rintro k hI K1 bP rest
 refine zD 5<|zJ 20 ((k:Int) <(K.facts.length:Int)) (fun h1=>?_) fun h1=>?_
 ·
  refine zD 7 ?_
  obtain⟨gN,ig⟩:=zG K.facts k
  refine fK fe 3 wW ig<|jl 0 (wV _ _ ig)<|jn fun xS=>jd 7 [0]<|jp (vs:=[.int .u8 on,zI (k:Int)]) [] [] (fun aJ hs hZ=>(awk (by omega)))<|zD 1<|jj 5 [(2,zI (a:Int)),(3,zI (b:Int)),(4,.int .u8 on),(12,zP xS),(17,.slice fS K.facts.length fe),(18,zI (K.facts.length:Int)),(19,zI (k:Int)),(32,.bool ((hasB on (k:Int))&&(decide (gN.a=(a:Int)))))] (fun fA=>?_) (fun hj=>?_)
  rotate_left
  refine js 27 (hasB on (k:Int)) (fun h2=>?_) (fun h2=>?_)
  ·
   refine jd 5 [0]<|jw 32 (.bool ((hasB on (k:Int))&&(decide (gN.a=(a:Int))))) (w:= .bool (decide (gN.a=(a:Int)))) (by rw[h2]<;>rfl) ?_
   exact zK hj
  ·
   refine zD 5<|jw 32 (.bool ((hasB on (k:Int))&&(decide (gN.a=(a:Int))))) (w:= .bool false) (by rw[h2]<;>rfl) ?_
   exact zK hj
  refine zD 1<|jj 5 [(2,zI (a:Int)),(3,zI (b:Int)),(4,.int .u8 on),(12,zP xS),(17,.slice fS K.facts.length fe),(18,zI (K.facts.length:Int)),(19,zI (k:Int)),(38,.bool (((hasB on (k:Int))&&(decide (gN.a=(a:Int))))&&(decide (gN.b=(b:Int)))))] (fun fA=>?_) (fun hj=>?_)
  rotate_left
  refine js 33 ((hasB on (k:Int))&&(decide (gN.a=(a:Int)))) (fun h3=>?_) (fun h3=>?_)
  ·
   have uf:=h3
   try simp only[zB] at uf
   refine jd 5 [0]<|jw 38 (.bool (((hasB on (k:Int))&&(decide (gN.a=(a:Int))))&&(decide (gN.b=(b:Int))))) (w:= .bool (decide (gN.b=(b:Int)))) (by rw[h3]<;>rfl) ?_
   exact zK hj
  ·
   have uf:=h3
   try simp only[zB] at uf
   refine zD 5<|jw 38 (.bool (((hasB on (k:Int))&&(decide (gN.a=(a:Int))))&&(decide (gN.b=(b:Int))))) (w:= .bool false) (by rw[h3]<;>rfl) ?_
   exact zK hj
  refine zD 1<|jj 4 [(2,zI (a:Int)),(3,zI (b:Int)),(4,.int .u8 on),(17,.slice fS K.facts.length fe),(18,zI (K.facts.length:Int)),(19,zI (k:Int)),(43,.bool ((((hasB on (k:Int))&&(decide (gN.a=(a:Int))))&&(decide (gN.b=(b:Int))))&&(!gN.same)))] (fun fA=>?_) (fun hj=>?_)
  rotate_left
  refine js 39 (((hasB on (k:Int))&&(decide (gN.a=(a:Int))))&&(decide (gN.b=(b:Int)))) (fun h4=>?_) (fun h4=>?_)
  ·
   have zk:=h4
   try simp only[zB] at zk
   refine jd 4 [0]<|jw 43 (.bool ((((hasB on (k:Int))&&(decide (gN.a=(a:Int))))&&(decide (gN.b=(b:Int))))&&(!gN.same))) (w:= .bool (!gN.same)) (by rw[h4]<;>rfl) ?_
   exact zK hj
  ·
   have zk:=h4
   try simp only[zB] at zk
   refine zD 4<|jw 43 (.bool ((((hasB on (k:Int))&&(decide (gN.a=(a:Int))))&&(decide (gN.b=(b:Int))))&&(!gN.same))) (w:= .bool false) (by rw[h4]<;>rfl) ?_
   exact zK hj
  refine zD 1<|js 43 ((((hasB on (k:Int))&&(decide (gN.a=(a:Int))))&&(decide (gN.b=(b:Int))))&&(!gN.same)) (fun h5=>?_) (fun h5=>?_)
  ·
   refine zD 6<|zX (.bool true) ⟨by rw[hI.2,YE ig,show (((hasB on k&&decide (gN.a=a))&&decide (gN.b=b))&& !gN.same)=true from (by assumption)];rfl,rfl⟩
  refine zD 3<|zW ((k:Int)+1)<|zD 2<|zY bP (k+1) ⟨by omega,by rw[hI.2,YE ig,show (((hasB on k&&decide (gN.a=a))&&decide (gN.b=b))&& !gN.same)=false from (by assumption)];rfl⟩ []
 refine zD 7<|zX (.bool false) ⟨by rw[hI.2,aff (by omega)],rfl⟩
theorem aFI{f:Nat}{rows:List bx}{a:Nat}{x:aI}{on:Int}(hF:p5 ro f K rows)(hV:fq K)(ha:K.before[a]?=some x) (hb:K.after[b]?=some y):dG zT 136 [zP f,zI (a:Int),zI (b:Int),.int .u8 on] ro (.bool (dA K on a b)):=by
 refine zE<|zD 7<|jp [] [] (fun aJ hs hZ=>aFF)<|zD 3<|dH [1,0,1,0,0] [] (fun(zz:Nat)=>[(0,zP f),(1,zI (a:Int)),(2,zI (b:Int)),(3,.int .u8 on),(11,.agg ⟨[.iface 348 (.agg ⟨[]⟩),.iface 349 (.agg ⟨[]⟩),.iface 350 (.agg ⟨[]⟩)]⟩),(12,zI (zz:Int))]) (fun zz=>[]) (fun zz=>zz≤3∧(1≤zz→rE K x y=false)∧(2≤zz→nt K x y=false)∧(3≤zz→Df on a b K.facts 0=false)) (fun zz=>3-zz) 0 ⟨by omega,nofun,nofun,nofun⟩ [] ?_
 rintro k hI K1 bP rest
 refine zD 5<|zJ 13 ((k:Int) <3) (fun h1=>?_) fun h1=>?_
 ·
  refine zD 6 ?_
  obtain rfl|rfl|rfl:k=0∨k=1∨k=2:=by omega
  ·
   refine zD 10<|jpI (vs:=[.agg ⟨[]⟩,zP f,zI (a:Int),zI (b:Int),.int .u8 on]) (fun aJ hs=>av0 (hF.up hs) hV ha hb)<|zD 1<|js 20 (rE K x y) (fun h2=>?_) (fun h2=>?_)
   ·
    refine zD 6<|zX (.bool false) ⟨by simp only[dA,ha,hb];simp[*],rfl⟩
   refine zD 6<|bF bP 1 ⟨by omega,(fun _=>by assumption),nofun,nofun⟩ (by omega) [] (Sub.refl _)
  ·
   refine zD 10<|jpI (vs:=[.agg ⟨[]⟩,zP f,zI (a:Int),zI (b:Int),.int .u8 on]) (fun aJ hs=>ahy (hF.up hs) hV ha hb)<|zD 1<|js 20 (nt K x y) (fun h3=>?_) (fun h3=>?_)
   ·
    refine zD 6<|zX (.bool false) ⟨by simp only[dA,ha,hb];simp[*],rfl⟩
   refine zD 6<|bF bP 2 ⟨by omega,(fun _=>hI.2.1 (by omega)),(fun _=>by assumption),nofun⟩ (by omega) [] (Sub.refl _)
  refine zD 10<|jpI (vs:=[.agg ⟨[]⟩,zP f,zI (a:Int),zI (b:Int),.int .u8 on]) (fun aJ hs=>aox (hF.up hs) hV)<|zD 1<|js 20 (Df on a b K.facts 0) (fun h4=>?_) (fun h4=>?_)
  ·
   refine zD 6<|zX (.bool false) ⟨by simp only[dA,ha,hb];simp[*],rfl⟩
  refine zD 6<|bF bP 3 ⟨by omega,(fun _=>hI.2.1 (by omega)),(fun _=>hI.2.2.1 (by omega)),(fun _=>by assumption)⟩ (by omega) [] (Sub.refl _)
 refine zD 7<|zX (.bool true) ⟨by simp only[dA,ha,hb,hI.2.1 (by omega),hI.2.2.1 (by omega),hI.2.2.2 (by omega)];rfl,rfl⟩
abbrev eP4(p:Nat→Int):List Value:=[zI (p 0),zI (p 1),zI (p 2),zI (p 3)]
abbrev pL(p:Nat→Int):List Int:=[p 0,p 1,p 2,p 3]
def iQ(p:Nat→Int)(a:Nat)(v:Int):Nat→Int:=fun i=>if i=a then v else p i
theorem BM{a:Nat}(h:a <4):a=0∨a=1∨a=2∨a=3:=by omega
theorem avk{a:Nat}(h:a <4):nth (eP4 p) (0+(a:Int).toNat*1)=some (zI (p a)):=by
 rcases BM h with rfl|rfl|rfl|rfl<;>rfl
theorem avj{a:Nat}{v:Int}(h:a <4):dK (eP4 p) (0+(a:Int).toNat*1) [zI v]=eP4 (iQ p a v):=by
 rcases BM h with rfl|rfl|rfl|rfl<;>rfl
theorem avl{a:Nat}{v:Value}(h:a <4):Nat.ble ((0+(a:Int).toNat*1)+[v].length) (eP4 p).length=true:=by
 rcases BM h with rfl|rfl|rfl|rfl<;>rfl
theorem YJ{r:bx}{a:Nat}(h:a <4)(k:b <4):nth (Ew r) (0+(a:Int).toNat*4+(b:Int).toNat*1)=some (.bool (r.c a b)):=by
 rcases BM h with rfl|rfl|rfl|rfl<;>rcases BM k with rfl|rfl|rfl|rfl<;>rfl
def jH(r:bx)(a b:Nat)(v:Bool):bx:=⟨fun i j=>if i=a∧j=b then v else r.c i j⟩
theorem YI{r:bx}{a:Nat}{v:Bool}(h:a <4)(k:b <4):dK (Ew r) (0+(a:Int).toNat*4+(b:Int).toNat*1) [.bool v]=Ew (jH r a b v):=by
 rcases BM h with rfl|rfl|rfl|rfl<;>rcases BM k with rfl|rfl|rfl|rfl<;>rfl
theorem YK{r:bx}{a:Nat}{v:Value}(h:a <4)(k:b <4):Nat.ble ((0+(a:Int).toNat*4+(b:Int).toNat*1)+[v].length) (Ew r).length=true:=by
 rcases BM h with rfl|rfl|rfl|rfl<;>rcases BM k with rfl|rfl|rfl|rfl<;>rfl
def mi(on:Int)(p:Nat→Int):List eY→Nat→Bool
 | [],_=>true
 |x::l,k=>bif (hasB on k&&x.same)&& !decide (p x.a.toNat=x.b+1) then false else mi on p l (k+1)
theorem yc{on:Int}{l:List eY}{x:eY}(h:l[k]?=some x):mi on p (l.drop k) k=bif (hasB on k&&x.same)&& !decide (p x.a.toNat=x.b+1) then false else mi on p (l.drop (k+1)) (k+1):=by rw[fg h];rfl
theorem Vt{on:Int}{l:List eY}(h:¬k <l.length):mi on p (l.drop k) k=true:=by rw[eo h];rfl
def qY(p:Nat→Int)(a:Nat)(v:Int):Bool:=decide (bS (fun y=>decide (v=y)) ((pL p).take a) 0≥0)
theorem anh{n:Nat}(h:ro b=some (.cells ⟨eP4 p⟩ T (0,0)))(hn:n≤4):bJ ro (.slice (some ⟨b,0,none⟩) n 4) 1 aS ((pL p).take n):=by
 have:=bJ.part (bX (enc:=aS) (T:=T) (pL p) h (fun _ _=>rfl)) (l:=0) (h:=n) (by omega) (by simpa using hn)
 simpa [dV] using this
theorem awv{v:Value}(hl:bJ ro v 1 aS xs)(hn:xs.length≤1000000):dG zT 196 [v,zI n] ro (zI (bS (fun y=>decide (n=y)) xs 0)):=by
 obtain⟨fU,sg,sb,eZ,rfl,uz,lA,lZ⟩:=hl
 refine zE<|zD 12<|dH [1,0,1,0,0] [] (fun(zz:Nat)=>[(0,.slice fU xs.length eZ),(1,zI n),(7,zI (xs.length:Int)),(8,zI (zz:Int))]) (fun zz=>[]) (fun zz=>zz≤xs.length∧bS (fun y=>decide (n=y)) xs 0=bS (fun y=>decide (n=y)) (xs.drop zz) zz) (fun zz=>xs.length-zz) 0 ⟨by omega,rfl⟩ [] ?_
 rintro k hI K1 bP rest
 refine zD 5<|zJ 9 ((k:Int) <(xs.length:Int)) (fun h1=>?_) fun h1=>?_
 ·
  refine zD 14 ?_
  obtain⟨gk,eS⟩:=zG xs k
  refine fK eZ 1 lA eS<|jl 0 (lZ _ _ eS)<|zD 2<|zJ 16 (n=gk) (fun h2=>?_) fun h2=>?_
  ·
   refine zD 7<|zX (zI (k:Int)) ⟨by rw[hI.2,kA eS];simp[*],rfl⟩
  refine zD 3<|zW ((k:Int)+1)<|zD 2<|zY bP (k+1) ⟨by omega,by rw[hI.2,kA eS];simp[*]⟩ []
 refine zD 7<|zX (zI (-1)) ⟨by rw[hI.2,ri (by omega)],rfl⟩
theorem aTO{v:Value}(hl:bJ ro v 1 aS xs)(hn:xs.length≤1000000):dG zT 140 [v,zI n] ro (.bool (decide (bS (fun y=>decide (n=y)) xs 0≥0))):=by
 obtain⟨fU,sg,sb,eZ,rfl,uz,lA,lZ⟩:=hl
 refine zE<|zD 8<|jp (vs:=[.slice fU xs.length eZ,zI n]) [] [] (fun aJ hs hZ=>awv ((show bJ _ _ _ _ _ from ⟨fU,sg,sb,eZ,rfl,uz,lA,lZ⟩).up hs) (by first|omega| (simp only[List.length_set,zM];omega))) ?_
 refine zD 4<|zX (.bool (decide ((bS (fun y=>decide (n=y)) xs 0)≥0))) ⟨rfl,rfl⟩
theorem av1{f:Nat}{rows:List bx}{on:Int}(hF:p5 ro f K rows)(hV:fq K)(g1:ro b1=some (.cells ⟨[zP f]⟩ 106 (0,0)))(g2:ro b2=some (.cells ⟨[.int .u8 on]⟩ 111 (0,0))):dG zT 137 [.agg ⟨[zI (p 0),zI (p 1),zI (p 2),zI (p 3)]⟩,zP b1,zP b2] ro (.bool (mi on p K.facts 0)):=by
 obtain⟨c0,c1,c2,vc,vh,vr,vb,va,vf,vt,hv,hf,py,kz,hr,yY,B6,Eg,cg⟩:=id hF
 obtain⟨hc,hh,dk⟩:=id py
 obtain⟨dF,Ak,Aj,dB,rfl,CQ,yP,yO⟩:=hc
 obtain⟨di,uQ,uP,cP,rfl,wF,pM,pK⟩:=hh
 obtain⟨iI,Gu,Gt,iH,rfl,JI,FL,FK⟩:=hr
 obtain⟨fC,Dv,Dt,eO,rfl,Du,wu,wq⟩:=yY
 obtain⟨fD,Dy,Dw,eQ,rfl,Dx,wy,wx⟩:=B6
 obtain⟨fS,Kp,Km,fe,rfl,Ko,wW,wV⟩:=Eg
 obtain⟨nX,FJ,FI,nD,rfl,Ro,N5,N4⟩:=cg
 have MS:=hV.rules.1
 have yV:=hV.before.1
 have Ec:=hV.after.1
 have hnf:=hV.facts.1
 refine zE<|zD 2<|jn fun b3=>zD 5<|jl (b:=b1) (off:=0) (m:=1) (vs:=[zP f]) 0 ⟨_,_,_,.inl g1,rfl⟩<|zD 3<|jl (b:=f) (off:=0) (m:=13) (vs:=[c0,c1,c2,.slice dF K.cs.length dB,.slice di hv.length cP,.slice iI K.rules.length iH,.slice fC K.before.length eO,.slice fD K.after.length eQ,zI K.gone,zI K.new,zI K.af,.slice fS K.facts.length fe,.slice nX rows.length nD]) 11 ⟨_,_,_,.inl hf,rfl⟩<|zD 4<|dH [1,0,1,0,0] [] (fun(zz:Nat)=>[(2,zP b2),(3,zP b3),(11,.slice fS K.facts.length fe),(12,zI (K.facts.length:Int)),(13,zI (zz:Int))]) (fun zz=>[.b b3 (.cells ⟨[zI (p 0),zI (p 1),zI (p 2),zI (p 3)]⟩ 136 (0,0))]) (fun zz=>zz≤K.facts.length∧mi on p K.facts 0=mi on p (K.facts.drop zz) zz) (fun zz=>K.facts.length-zz) 0 ⟨by omega,rfl⟩ [0] ?_
 rintro k hI K1 bP rest
 refine zD 5<|zJ 14 ((k:Int) <(K.facts.length:Int)) (fun h1=>?_) fun h1=>?_
 ·
  refine zD 7 ?_
  obtain⟨C6,pR⟩:=zG K.facts k
  refine fK fe 3 wW pR<|jl 0 (wV _ _ pR)<|jn fun b6=>jd 4 [0] ?_
  have hf4:=(hV.facts.2 _ (zL pR)).1
  have hf5:=(hV.facts.2 _ (zL pR)).2
  have hae:C6.a=(C6.a.toNat:Int):=by omega
  refine zD 1<|jl (b:=b2) (off:=0) (m:=1) (vs:=[.int .u8 on]) 0 ⟨_,_,_,.inl g2,rfl⟩<|zD 1<|jp (vs:=[.int .u8 on,zI (k:Int)]) [] [] (fun aJ hs hZ=>(awk (by omega)))<|zD 1<|js 3 (hasB on (k:Int)) (fun h2=>?_) (fun h2=>?_)
  ·
   refine jd 4 [0]<|js 7 C6.same (fun h3=>?_) (fun h3=>?_)
   ·
    refine jd 2 [0]<|JM (b:=b3) (off:=0) (len:=4) (sz:=1) C6.a (by omega)<|n7 (b:=b3) (off:=0+C6.a.toNat*1) (m:=1) (vs:=[zI (p C6.a.toNat)]) 0 [1] [(b3,.cells ⟨[zI (p 0),zI (p 1),zI (p 2),zI (p 3)]⟩ 136 (0,0))] (fun s _ hZ=>qI (hZ _ (.head _)) (by rw[hae];exact avk (by omega))) ?_
    refine jd 2 [0]<|zW (C6.b+1)<|zD 3<|js 34 (!decide ((p C6.a.toNat)=(C6.b+1))) (fun h4=>?_) (fun h4=>?_)
    ·
     replace h4:=of_decide_eq_false (by simpa using h4)
     refine zD 6<|zX (.bool false) ⟨by rw[hI.2,yc pR];simp only[h2,h3,decide_eq_false h4,Bool.and_true,Bool.true_and,Bool.not_false,Bool.not_true,Bool.and_false,Bool.false_and,cond_true,cond_false],rfl⟩
    replace h4:=of_decide_eq_true (by simpa using h4)
    refine zD 3<|zW ((k:Int)+1)<|zD 2<|zY bP (k+1) ⟨by omega,by rw[hI.2,yc pR];simp only[h2,h3,decide_eq_true h4,Bool.and_true,Bool.true_and,Bool.not_false,Bool.not_true,Bool.and_false,Bool.false_and,cond_true,cond_false]⟩ [1]
   refine zD 13<|zW ((k:Int)+1)<|zD 2<|zY bP (k+1) ⟨by omega,by rw[hI.2,yc pR];simp only[h2,h3,Bool.and_true,Bool.true_and,Bool.not_false,Bool.not_true,Bool.and_false,Bool.false_and,cond_true,cond_false]⟩ [1]
  refine zD 17<|zW ((k:Int)+1)<|zD 2<|zY bP (k+1) ⟨by omega,by rw[hI.2,yc pR];simp only[h2,Bool.and_true,Bool.true_and,Bool.not_false,Bool.not_true,Bool.and_false,Bool.false_and,cond_true,cond_false]⟩ [1]
 refine zD 7<|zX (.bool true) ⟨by rw[hI.2,Vt (by omega)],rfl⟩
def jo(K:aE)(on:Int):Nat→Nat→(Nat→Int)→List (Nat→Int)
 |0,_,p=>bif mi on p K.facts 0 then [p] else []
 |n+1,a,p=>jo K on n (a+1) p++(List.range K.after.length).flatMap fun b=>bif !dA K on a b||qY p a ((b:Int)+1) then [] else jo K on n (a+1) (iQ p a ((b:Int)+1))
def nN(K:aE)(on:Int)(n a:Nat)(p:Nat→Int)(b:Nat):List (Nat→Int):=bif !dA K on a b||qY p a ((b:Int)+1) then [] else jo K on n (a+1) (iQ p a ((b:Int)+1))
theorem q8(K:aE)(on:Int)(n a:Nat)(p:Nat→Int):jo K on (n+1) a p=jo K on n (a+1) p++(List.range K.after.length).flatMap (nN K on n a p):=rfl
theorem Part.left{L x y:List α}{p:Nat}(h:Part L p (x++y)):Part L p x:=by
 obtain⟨a,b,rfl,h2⟩:=h
 exact⟨a,y++b,by simp,h2⟩
theorem Part.right{L x y:List α}{p:Nat}(h:Part L p (x++y)):Part L (p+x.length) y:=by
 obtain⟨a,b,rfl,rfl⟩:=h
 exact⟨a++x,b,by simp,by simp⟩
theorem abG{n:Nat}(h:j <n):∃r,List.range n=List.range j++[j]++r:=by
 refine⟨(List.range n).drop (j+1),?_⟩
 have h1:(List.range n).take (j+1)=List.range (j+1):=by rw[List.take_range,Nat.min_eq_left h]
 rw[←List.range_succ,←h1,List.take_append_drop]
theorem aag{q:Nat→Int}{a:Nat}{v:Int}(ha:a <4)(h:∀i,i≠a→q i=p i):qY q a v=qY p a v:=by
 have:(pL q).take a=(pL p).take a:=by
  rcases BM ha with rfl|rfl|rfl|rfl
  ·rfl
  ·simp[h 0 (by omega)]
  ·simp[h 0 (by omega),h 1 (by omega)]
  simp[h 0 (by omega),h 1 (by omega),h 2 (by omega)]
 simp only[qY,this]
theorem Yi{q:Nat→Int}{a:Nat}{v:Int}(h:∀i,i≠a→q i=p i):iQ q a v=iQ p a v:=by
 funext i
 simp only[iQ]
 split
 ·rfl
 rename_i hi;exact h i hi
abbrev ePs(L:List (Nat→Int)):(Nat→Option Obj)→Nat→List Value→Cells→Prop:=fun _ k vs LL=>∃p,L[k]?=some p∧vs=[.agg ⟨eP4 p⟩]∧LL=[]
structure alB(ro:Nat→Option Obj)(bl f:Nat)(K:aE)(on:Int)(bf br bL bg bt bo:Nat):Prop where
 f:ro bf=some (.cells ⟨[zP f]⟩ 106 (0,0))
 r:ro br=some (.cells ⟨[.func (.func 137) ⟨[]⟩ ⟨[zP bf,zP bo]⟩]⟩ 239 (0,0))
 y:ro bL=some (.cells ⟨[.func (.yield bl) #[] #[]]⟩ 239 (0,0))
 g:ro bg=some (.cells ⟨[.func (.func 139) ⟨[]⟩ ⟨[zP bf,zP br,zP bL,zP bg,zP bt]⟩]⟩ 240 (0,0))
 t:ro bt=some (.cells ⟨Ew ⟨dA K on⟩⟩ 162 (0,0))
 o:ro bo=some (.cells ⟨[.int .u8 on]⟩ 111 (0,0))
def atk(bl f:Nat)(K:aE)(rows:List bx)(on:Int)(bf br bL bg bt bo:Nat)(L:List (Nat→Int))(Inv:Nat→Cells→Prop)(Stop:Cells→Prop)(n:Nat):Prop:=
 ∀(ro:Nat→Option Obj) (a:Nat) (p:Nat→Int) (q:Nat) (B:Cells),alB ro bl f K on bf br bL bg bt bo→p5 ro f K rows→a+n=K.before.length→Part L q (jo K on n a p)→Inv q B→YOK zT bl ro L.length (ePs L) Inv Stop→
  ee zT 139 [.agg ⟨eP4 p⟩,zI (a:Int),zP bf,zP br,zP bL,zP bg,zP bt] ro B (fun r Y=>∃c,r= .bool c∧(c=true→Inv (q+(jo K on n a p).length) Y)∧(c=false→Stop Y))
theorem awl{n a q:Nat}{on:Int}{B:Cells}{L:List (Nat→Int)}{Inv:Nat→Cells→Prop}{f:Nat}{rows:List bx}(ih:∀m,m <n→atk bl f K rows on bf br bL bg bt bo L Inv Stop m)(hV:fq K)(oV:alB ro bl f K on bf br bL bg bt bo)(hF:p5 ro f K rows)(han:a+n=K.before.length)(hP:Part L q (jo K on n a p))(hB:Inv q B)(hy:YOK zT bl ro L.length (ePs L) Inv Stop):ee zT 139 [.agg ⟨[zI (p 0),zI (p 1),zI (p 2),zI (p 3)]⟩,zI (a:Int),zP bf,zP br,zP bL,zP bg,zP bt] ro B (fun r Y=>∃c,r= .bool c∧(c=true→Inv (q+(jo K on n a p).length) Y)∧(c=false→Stop Y)):=by
 obtain⟨gf,gr,gy,gg,gt,go⟩:=id oV
 obtain⟨c0,c1,c2,vc,vh,vr,vb,va,vf,vt,hv,hf,py,kz,hr,yY,B6,Eg,cg⟩:=id hF
 obtain⟨hc,hh,dk⟩:=id py
 obtain⟨dF,Ak,Aj,dB,rfl,CQ,yP,yO⟩:=hc
 obtain⟨di,uQ,uP,cP,rfl,wF,pM,pK⟩:=hh
 obtain⟨iI,Gu,Gt,iH,rfl,JI,FL,FK⟩:=hr
 obtain⟨fC,Dv,Dt,eO,rfl,Du,wu,wq⟩:=yY
 obtain⟨fD,Dy,Dw,eQ,rfl,Dx,wy,wx⟩:=B6
 obtain⟨fS,Kp,Km,fe,rfl,Ko,wW,wV⟩:=Eg
 obtain⟨nX,FJ,FI,nD,rfl,Ro,N5,N4⟩:=cg
 have MS:=hV.rules.1
 have yV:=hV.before.1
 have Ec:=hV.after.1
 have hnf:=hV.facts.1
 refine zC [.l B]<|zD 2<|jn fun b7=>zD 6<|jl (b:=bf) (off:=0) (m:=1) (vs:=[zP f]) 0 ⟨_,_,_,.inl gf,rfl⟩<|zD 3<|jl (b:=f) (off:=0) (m:=13) (vs:=[c0,c1,c2,.slice dF K.cs.length dB,.slice di hv.length cP,.slice iI K.rules.length iH,.slice fC K.before.length eO,.slice fD K.after.length eQ,zI K.gone,zI K.new,zI K.af,.slice fS K.facts.length fe,.slice nX rows.length nD]) 6 ⟨_,_,_,.inl hf,rfl⟩<|zD 3<|zJ 18 ((a:Int)=(K.before.length:Int)) (fun h1=>?_) fun h1=>?_
 ·
  refine zD 2 ?_
  obtain rfl:n=0:=by omega
  refine zD 1<|jl (b:=br) (off:=0) (m:=1) (vs:=[.func (.func 137) ⟨[]⟩ ⟨[zP bf,zP bo]⟩]) 0 ⟨_,_,_,.inl gr,rfl⟩<|jd 1 [0]<|jp (vs:=[.agg ⟨[zI (p 0),zI (p 1),zI (p 2),zI (p 3)]⟩,zP bf,zP bo]) [] [] (fun aJ hs hZ=>av1 (hF.up hs) hV (hs _ _ gf) (hs _ _ go))<|zD 2<|js 23 (!(mi on p K.facts 0)) (fun h2=>?_) (fun h2=>?_)
  ·
   have mU:=h2
   try simp only[zB] at mU
   refine zD 7<|zR (.bool true) [] [1] B ⟨_,rfl,(fun _=>by rw[show jo K on 0 a p=[] by simp only[jo,show mi on p K.facts 0=false by simpa using h2];rfl];exact hB),nofun⟩
  have mU:=h2
  try simp only[zB] at mU
  have aiQ:jo K on 0 a p=[p]:=by simp only[jo,show mi on p K.facts 0=true by simpa using h2];rfl
  have Uy:=Part.get (i:=0) (x:=p) hP (by rw[aiQ];rfl)
  refine jl (b:=bL) (off:=0) (m:=1) (vs:=[(.func (.yield bl) #[] #[])]) 0 ⟨_,_,_,.inl gy,rfl⟩<|jd 1 [0]<|jyc [1] (hy q [.agg ⟨[zI (p 0),zI (p 1),zI (p 2),zI (p 3)]⟩] [] B ro Uy.1 ⟨_,Uy.2,rfl,rfl⟩ hB (Sub.refl _)) (Sub.refl _) ?_
  intro v26 Y26 aT1
  obtain⟨c26,rfl,aWE,aWr⟩:=yb aT1
  refine zD 4<|zR (.bool c26) [] [0] Y26 ⟨_,rfl,(fun h=>by rw[aiQ];exact aWE h),aWr⟩
 refine zD 4 ?_
 obtain⟨m,rfl⟩:∃m,n=m+1:=⟨n-1,by omega⟩
 rw[q8] at hP
 refine zD 1<|jl (b:=bg) (off:=0) (m:=1) (vs:=[.func (.func 139) ⟨[]⟩ ⟨[zP bf,zP br,zP bL,zP bg,zP bt]⟩]) 0 ⟨_,_,_,.inl gg,rfl⟩<|jd 2 [0]<|zW ((a:Int)+1)<|jc (vs:=[.agg ⟨[zI (p 0),zI (p 1),zI (p 2),zI (p 3)]⟩,zI ((a:Int)+1),zP bf,zP br,zP bL,zP bg,zP bt]) [1] (ih m (by omega) _ (a+1) p q _ oV hF (by omega) (Part.left hP) hB hy) ?_
 rintro _ Y32 ⟨c32,rfl,aWB,aWo⟩
 refine zD 2<|js 33 (!c32) (fun h3=>?_) (fun h3=>?_)
 ·
  try simp only[zB] at h3
  refine zD 6<|zR (.bool false) [] [0] Y32 ⟨_,rfl,nofun,fun _=>aWo (by simp_all)⟩
 try simp only[zB] at h3
 refine zD 5<|jl (b:=bf) (off:=0) (m:=1) (vs:=[zP f]) 0 ⟨_,_,_,.inl gf,rfl⟩<|zD 3<|jl (b:=f) (off:=0) (m:=13) (vs:=[c0,c1,c2,.slice dF K.cs.length dB,.slice di hv.length cP,.slice iI K.rules.length iH,.slice fC K.before.length eO,.slice fD K.after.length eQ,zI K.gone,zI K.new,zI K.af,.slice fS K.facts.length fe,.slice nX rows.length nD]) 7 ⟨_,_,_,.inl hf,rfl⟩<|zD 4<|dH [1,1,1,0,1,0,0] [] (fun(zz:Nat×(Nat→Int)×Cells)=>[(1,zI (a:Int)),(5,zP bg),(6,zP bt),(7,zP b7),(39,zI (K.after.length:Int)),(40,zI (zz.1:Int))]) (fun zz=>[.b b7 (.cells ⟨[zI (zz.2.1 0),zI (zz.2.1 1),zI (zz.2.1 2),zI (zz.2.1 3)]⟩ 136 (0,0)),.l zz.2.2]) (fun zz=>zz.1≤K.after.length∧Inv (q+(jo K on m (a+1) p).length+((List.range zz.1).flatMap (nN K on m a p)).length) zz.2.2∧∀i,i≠a→zz.2.1 i=p i) (fun zz=>K.after.length-zz.1) (⟨0,p,Y32⟩) ⟨by dsimp only;omega,by have:=aWB (by simp_all);simpa using this,fun _ _=>rfl⟩ [1,0] ?_
 rintro⟨j,pp,B⟩ hJ K1 bP rest
 dsimp only at hJ
 refine zD 5<|zJ 41 ((j:Int) <(K.after.length:Int)) (fun h4=>?_) fun h4=>?_
 ·
  refine zD 11 ?_
  have ha4:a <4:=by omega
  have hj4:j <4:=by omega
  obtain⟨rr,hrr⟩:=abG (show j <K.after.length by omega)
  have hPj:=Part.flat (Part.right hP) hrr
  refine zD 3<|JM (b:=bt) (off:=0) (len:=4) (sz:=4) (a:Int) (by omega)<|JM (b:=bt) (off:=0+(a:Int).toNat*4) (len:=4) (sz:=1) (j:Int) (by omega)<|jl (b:=bt) (off:=0+(a:Int).toNat*4+(j:Int).toNat*1) (m:=1) (vs:=[.bool (dA K on a j)]) 0 (qI (.inl gt) (YJ (r:=⟨dA K on⟩) ha4 hj4))<|zD 2<|js 49 (!(dA K on a j)) (fun h5=>?_) (fun h5=>?_)
  ·
   have F8:=h5
   try simp only[zB] at F8
   refine zD 10<|zW ((j:Int)+1)<|zD 2<|zF bP (⟨j+1,pp,B⟩) ⟨by dsimp only;rw[List.range_succ,List.flatMap_append,List.length_append,List.flatMap_singleton,←Nat.add_assoc];rw[show nN K on m a p j=[] by simp only[nN,h5];rfl];exact hJ.2.1,hJ.2.2⟩ [0,1]
  have F8:=h5
  try simp only[zB] at F8
  refine zD 1<|jah (b:=b7) (off:=0) (len:=4) (a:Int) (by omega)<|zD 1<|zW ((j:Int)+1)<|jp (vs:=[(.slice (some ⟨b7,0,none⟩) (a:Int).toNat 4),zI ((j:Int)+1)]) [0] [(b7,.cells ⟨[zI (pp 0),zI (pp 1),zI (pp 2),zI (pp 3)]⟩ 136 (0,0))] (fun aJ hs hZ=>aTO (anh hZ.head (by omega)) (by rw[List.length_take];omega)) ?_
  refine zD 2<|js 55 (qY pp a ((j:Int)+1)) (fun h6=>?_) (fun h6=>?_)
  ·
   refine zD 3<|zW ((j:Int)+1)<|zD 2<|zF bP (⟨j+1,pp,B⟩) ⟨by dsimp only;rw[List.range_succ,List.flatMap_append,List.length_append,List.flatMap_singleton,←Nat.add_assoc];rw[show nN K on m a p j=[] by simp only[nN,←aag ha4 hJ.2.2,h5,h6];rfl];exact hJ.2.1,hJ.2.2⟩ [0,1]
  have hg0:nN K on m a p j=jo K on m (a+1) (iQ p a ((j:Int)+1)):=by simp only[nN,←aag ha4 hJ.2.2,h5,h6];rfl
  have hPg:Part L (q+(jo K on m (a+1) p).length+((List.range j).flatMap (nN K on m a p)).length) (jo K on m (a+1) (iQ pp a ((j:Int)+1))):=by rw[Yi hJ.2.2,←hg0];exact hPj
  refine zD 6<|zW ((j:Int)+1)<|JM (b:=b7) (off:=0) (len:=4) (sz:=1) (a:Int) (by omega)<|jsx 0 b7 (0+(a:Int).toNat*1) [zI (pp 0),zI (pp 1),zI (pp 2),zI (pp 3)] [zI ((j:Int)+1)] 136 (by intro v hv;rw[List.mem_singleton] at hv;subst hv;rfl) (avl (p:=pp) ha4) ?_
  refine jmw 0 [.b b7 (.cells ⟨[zI ((iQ pp a ((j:Int)+1)) 0),zI ((iQ pp a ((j:Int)+1)) 1),zI ((iQ pp a ((j:Int)+1)) 2),zI ((iQ pp a ((j:Int)+1)) 3)]⟩ 136 (0,0))] (L:=[(b7,.cells ⟨dK [zI (pp 0),zI (pp 1),zI (pp 2),zI (pp 3)] (0+(a:Int).toNat*1) [zI ((j:Int)+1)]⟩ 136 (0,0))]) (by rw[avj ha4];rfl) ?_
  refine zD 3<|jl (b:=bg) (off:=0) (m:=1) (vs:=[.func (.func 139) ⟨[]⟩ ⟨[zP bf,zP br,zP bL,zP bg,zP bt]⟩]) 0 ⟨_,_,_,.inl gg,rfl⟩<|jd 2 [0]<|zW ((a:Int)+1)<|jc (vs:=[.agg ⟨[zI ((iQ pp a ((j:Int)+1)) 0),zI ((iQ pp a ((j:Int)+1)) 1),zI ((iQ pp a ((j:Int)+1)) 2),zI ((iQ pp a ((j:Int)+1)) 3)]⟩,zI ((a:Int)+1),zP bf,zP br,zP bL,zP bg,zP bt]) [1] (ih m (by omega) _ (a+1) _ (q+(jo K on m (a+1) p).length+((List.range j).flatMap (nN K on m a p)).length) _ oV hF (by omega) hPg hJ.2.1 hy) ?_
  rintro _ Y64 ⟨c64,rfl,aWy,aWm⟩
  refine zD 2<|js 65 (!c64) (fun h7=>?_) (fun h7=>?_)
  ·
   try simp only[zB] at h7
   refine zD 6<|zR (.bool false) [] [0] Y64 ⟨_,rfl,nofun,fun _=>aWm (by simp_all)⟩
  try simp only[zB] at h7
  refine zD 3<|zW ((j:Int)+1)<|zD 2<|zF bP (⟨j+1,(iQ pp a ((j:Int)+1)),Y64⟩) ⟨by dsimp only;rw[List.range_succ,List.flatMap_append,List.length_append,List.flatMap_singleton,←Nat.add_assoc];rw[hg0,←Yi hJ.2.2];exact aWy (by simp_all),(fun i hi=>by simp only[iQ,if_neg hi];exact hJ.2.2 i hi)⟩ [1,0]
 refine zD 7<|zR (.bool true) [] [1] B ⟨_,rfl,(fun _=>by rw[q8,List.length_append,←Nat.add_assoc];have:=hJ.2.1;rwa[show j=K.after.length by omega] at this),nofun⟩
theorem aFH(hV:fq K){f:Nat}{rows:List bx}{on:Int}{L:List (Nat→Int)}{Inv:Nat→Cells→Prop}:∀n,atk bl f K rows on bf br bL bg bt bo L Inv Stop n:=by
 intro n
 induction n using Nat.strongRecOn with
 |_ n ih=>exact fun ro a p q B hc hF han hP hB hy=>awl ih hV hc hF han hP hB hy
def aY(K:aE)(on:Int):List (Nat→Int):=jo K on K.before.length 0 fun _=>0
theorem aas{on:Int}{a:Nat}(h:¬a <K.before.length∨¬b <K.after.length):dA K on a b=false:=by
 rcases h with h|h
 ·simp[dA,List.getElem?_eq_none (Nat.le_of_not_lt h)]
 simp only[dA,List.getElem?_eq_none (Nat.le_of_not_lt h)]
 split
 ·rename_i h1;cases h1
 rfl
def Gg(K:aE)(on:Int)(i j:Nat)(r:bx):Prop:=∀x y,r.c x y=((decide (x <i)||(decide (x=i)&&decide (y <j)))&&dA K on x y)
theorem Gg.set{on:Int}{r:bx}(h:Gg K on i j r):Gg K on i (j+1) (jH r i j (dA K on i j)):=fun x y=>by
 simp only[jH]
 split
 ·rename_i hx;obtain⟨rfl,rfl⟩:=hx;simp
 rename_i hx
 rw[h x y]
 congr 2
 by_cases e:x=i
 ·subst e
  have:y≠j:=fun e2=>hx ⟨rfl,e2⟩
  simp only[decide_true,Bool.true_and]
  congr 1
  exact propext (by omega)
 simp[e]
theorem Gg.nxt{on:Int}{r:bx}(h:Gg K on i K.after.length r):Gg K on (i+1) 0 r:=fun x y=>by
 rw[h x y]
 by_cases hy:y <K.after.length
 ·congr 1
  simp only[hy,decide_true,Bool.and_true,Nat.not_lt_zero,decide_false,Bool.and_false,Bool.or_false]
  rw[Bool.eq_iff_iff];simp;omega
 rw[aas (.inr hy)];simp
theorem Gg.fin{on:Int}{r:bx}(h:Gg K on K.before.length 0 r):r=⟨dA K on⟩:=by
 rcases r with ⟨c⟩
 congr 1
 funext x y
 have:=h x y
 dsimp only at this
 rw[this]
 by_cases hx:x <K.before.length
 ·simp[hx]
 rw[aas (.inl hx)];simp
theorem anP{a:Nat}(h:a <4):nth (eP4 p) ((a:Int).toNat*1)=some (zI (p a)):=by
 rcases BM h with rfl|rfl|rfl|rfl<;>rfl
theorem afk{r:bx}{a:Nat}{j:Int}(h:a <4)(k:0≤j∧j <4):nth (Ew r) (0+(a:Int).toNat*4+j.toNat*1)=some (.bool (r.c a j.toNat)):=by
 obtain⟨m,rfl⟩:=Int.eq_ofNat_of_zero_le k.1
 exact YJ h (by omega)
def pP(r:bx)(p:Nat→Int):Nat→Int
 |0=>0
 |k+1=>pP r p k+bif decide (p k>0)&& !r.c k (p k-1).toNat then 1 else 0
def bI(K:aE)(r:bx)(past:Nat)(p:Nat→Int):aj:=⟨past,p 0,p 1,p 2,p 3,K.before.length-oP (pL p),K.after.length-oP (pL p),pP r p 4⟩
theorem Za(p:Nat→Int):0≤oP (pL p)∧oP (pL p)≤4:=by
 have:=List.length_filter_le (fun x=>decide (x>0)) (pL p)
 simp only[oP]
 exact⟨by omega,by simp only[List.length_cons,List.length_nil] at this;omega⟩
theorem ZD{f:Nat}{rows:List bx}{on:Int}(hF:p5 ro f K rows)(hV:fq K)(g1:ro b1=some (.cells ⟨[zP f]⟩ 106 (0,0)))(g2:ro b2=some (.cells ⟨[.func (.func 137) ⟨[]⟩ ⟨[zP b1,zP b4]⟩]⟩ 239 (0,0)))(g3:ro b3=some (.cells ⟨Ew ⟨dA K on⟩⟩ 162 (0,0)))(g4:ro b4=some (.cells ⟨[.int .u8 on]⟩ 111 (0,0))):ItX zT 138 [] [zP b1,zP b2,zP b3] ro [] (aY K on).length (ePs (aY K on)) (fun Z=>Z=[]):=by
 intro bl aJ Inv Stop hs hy B hB
 replace g1:=hs _ _ g1
 replace g2:=hs _ _ g2
 replace g3:=hs _ _ g3
 replace g4:=hs _ _ g4
 replace hF:=hF.up hs
 refine zC [.l B]<|zD 2<|jn fun b4=>zD 3<|jn fun b5=>jd 9 [0,0]<|jf [1,0] ((b4,.cells ⟨[(.func (.yield bl) #[] #[])]⟩ 239 (0,0))::[(b5,.cells ⟨[.func (.func 139) ⟨[]⟩ ⟨[zP b1,zP b2,zP b4,zP b5,zP b3]⟩]⟩ 240 (0,0))]) fun ya cu iX=>jc (vs:=[.agg ⟨[zI 0,zI 0,zI 0,zI 0]⟩,zI 0,zP b1,zP b2,zP b4,zP b5,zP b3]) [0] (aFH (K:=K) hV (on:=on) _ _ 0 (fun _=>0) 0 _ ⟨(cu _ _ g1),(cu _ _ g2),iX _ (.head _),iX _ (.tail _ (.head _)),(cu _ _ g3),cu _ _ g4⟩ (hF.up cu) (Nat.zero_add _) ⟨[],[],by simp[aY],rfl⟩ hB (YOK.up hy cu)) ?_
 rintro _ Y9 ⟨c9,rfl,hc9,hd9⟩
 refine zD 1<|aN q0.a (.tuple ⟨[]⟩) [] [0] Y9 cu ⟨_,_,rfl,rfl,[],Y9,rfl,rfl,by cases c9 with|true=>exact .inl (by simpa [aY] using hc9 rfl)|false=>exact .inr (hd9 rfl)⟩
theorem MI{f:Nat}{rows:List bx}{on:Int}(hF:p5 ro f K rows)(hV:fq K):ee zT 97 [zP f,.int .u8 on] ro [] (fun r Y=>∃b1 b2 b3 b4,r= .func (.func 138) ⟨[]⟩ ⟨[zP b1,zP b2,zP b3]⟩∧Y=[(b1,.cells ⟨[zP f]⟩ 106 (0,0)),(b2,.cells ⟨[.func (.func 137) ⟨[]⟩ ⟨[zP b1,zP b4]⟩]⟩ 239 (0,0)),(b3,.cells ⟨Ew ⟨dA K on⟩⟩ 162 (0,0)),(b4,.cells ⟨[.int .u8 on]⟩ 111 (0,0))]):=by
 obtain⟨c0,c1,c2,vc,vh,vr,vb,va,vf,vt,hv,hf,py,kz,hr,yY,B6,Eg,cg⟩:=id hF
 obtain⟨hc,hh,dk⟩:=id py
 obtain⟨dF,Ak,Aj,dB,rfl,CQ,yP,yO⟩:=hc
 obtain⟨di,uQ,uP,cP,rfl,wF,pM,pK⟩:=hh
 obtain⟨iI,Gu,Gt,iH,rfl,JI,FL,FK⟩:=hr
 obtain⟨fC,Dv,Dt,eO,rfl,Du,wu,wq⟩:=yY
 obtain⟨fD,Dy,Dw,eQ,rfl,Dx,wy,wx⟩:=B6
 obtain⟨fS,Kp,Km,fe,rfl,Ko,wW,wV⟩:=Eg
 obtain⟨nX,FJ,FI,nD,rfl,Ro,N5,N4⟩:=cg
 have MS:=hV.rules.1
 have yV:=hV.before.1
 have Ec:=hV.after.1
 have hnf:=hV.facts.1
 refine zE<|zD 2<|jn fun b2=>jn fun b3=>zD 4<|jn fun b5=>jd 8 [2]<|jl (b:=f) (off:=0) (m:=13) (vs:=[c0,c1,c2,.slice dF K.cs.length dB,.slice di hv.length cP,.slice iI K.rules.length iH,.slice fC K.before.length eO,.slice fD K.after.length eQ,zI K.gone,zI K.new,zI K.af,.slice fS K.facts.length fe,.slice nX rows.length nD]) 6 ⟨_,_,_,.inl hf,rfl⟩<|zD 4<|dH [1,1,0,1,0,0] [] (fun(zz:Nat×bx)=>[(2,zP b2),(3,zP b3),(4,.nilFunc),(5,zP b5),(14,zI (K.before.length:Int)),(15,zI (zz.1:Int))]) (fun zz=>[.b b5 (.cells ⟨[.bool (zz.2.c 0 0),.bool (zz.2.c 0 1),.bool (zz.2.c 0 2),.bool (zz.2.c 0 3),.bool (zz.2.c 1 0),.bool (zz.2.c 1 1),.bool (zz.2.c 1 2),.bool (zz.2.c 1 3),.bool (zz.2.c 2 0),.bool (zz.2.c 2 1),.bool (zz.2.c 2 2),.bool (zz.2.c 2 3),.bool (zz.2.c 3 0),.bool (zz.2.c 3 1),.bool (zz.2.c 3 2),.bool (zz.2.c 3 3)]⟩ 162 (0,0)),.b b3 (.cells ⟨[.int .u8 on]⟩ 111 (0,0)),.b b2 (.cells ⟨[zP f]⟩ 106 (0,0))]) (fun zz=>zz.1≤K.before.length∧Gg K on zz.1 0 zz.2) (fun zz=>K.before.length-zz.1) (⟨0,⟨fun _ _=>false⟩⟩) ⟨by dsimp only;omega,fun x y=>by simp⟩ [0,1,2] ?_
 rintro⟨i,r⟩ hI K1 bP rest
 dsimp only at hI
 refine zD 5<|zJ 16 ((i:Int) <(K.before.length:Int)) (fun h1=>?_) fun h1=>?_
 ·
  refine jd 15 [2]<|jl (b:=f) (off:=0) (m:=13) (vs:=[c0,c1,c2,.slice dF K.cs.length dB,.slice di hv.length cP,.slice iI K.rules.length iH,.slice fC K.before.length eO,.slice fD K.after.length eQ,zI K.gone,zI K.new,zI K.af,.slice fS K.facts.length fe,.slice nX rows.length nD]) 7 ⟨_,_,_,.inl hf,rfl⟩<|zD 4<|dH [1,1,0,1,0,0,1,1,0,0,1,1,0,0] [K1] (fun(zz:Nat×bx)=>[(2,zP b2),(3,zP b3),(4,.nilFunc),(5,zP b5),(6,zI (i:Int)),(14,zI (K.before.length:Int)),(15,zI (i:Int)),(23,zI (K.after.length:Int)),(24,zI (zz.1:Int))]) (fun zz=>[.b b5 (.cells ⟨[.bool (zz.2.c 0 0),.bool (zz.2.c 0 1),.bool (zz.2.c 0 2),.bool (zz.2.c 0 3),.bool (zz.2.c 1 0),.bool (zz.2.c 1 1),.bool (zz.2.c 1 2),.bool (zz.2.c 1 3),.bool (zz.2.c 2 0),.bool (zz.2.c 2 1),.bool (zz.2.c 2 2),.bool (zz.2.c 2 3),.bool (zz.2.c 3 0),.bool (zz.2.c 3 1),.bool (zz.2.c 3 2),.bool (zz.2.c 3 3)]⟩ 162 (0,0)),.b b3 (.cells ⟨[.int .u8 on]⟩ 111 (0,0)),.b b2 (.cells ⟨[zP f]⟩ 106 (0,0))]) (fun zz=>zz.1≤K.after.length∧Gg K on i zz.1 zz.2) (fun zz=>K.after.length-zz.1) (⟨0,r⟩) ⟨by dsimp only;omega,hI.2⟩ [0,1,2] ?_
  rintro⟨j,r⟩ hJ K2 lL rest
  dsimp only at hJ
  refine zD 5<|zJ 25 ((j:Int) <(K.after.length:Int)) (fun h2=>?_) fun h2=>?_
  ·
   refine zD 9 ?_
   obtain⟨x,ha⟩:∃x,K.before[i]?=some x:=⟨_,List.getElem?_eq_getElem (by omega)⟩
   obtain⟨y,hb⟩:∃y,K.after[j]?=some y:=⟨_,List.getElem?_eq_getElem (by omega)⟩
   refine jd 7 [2,1]<|JM (b:=b5) (off:=0) (len:=4) (sz:=4) (i:Int) (by omega)<|jp (vs:=[zP f,zI (i:Int),zI (j:Int),.int .u8 on]) [] [] (fun aJ hs hZ=>aFI (hF.up hs) hV ha hb)<|JM (b:=b5) (off:=0+(i:Int).toNat*4) (len:=4) (sz:=1) (j:Int) (by omega)<|aP 9 fun tA tH q5=>jsx 0 b5 (0+(i:Int).toNat*4+(j:Int).toNat*1) [.bool (r.c 0 0),.bool (r.c 0 1),.bool (r.c 0 2),.bool (r.c 0 3),.bool (r.c 1 0),.bool (r.c 1 1),.bool (r.c 1 2),.bool (r.c 1 3),.bool (r.c 2 0),.bool (r.c 2 1),.bool (r.c 2 2),.bool (r.c 2 3),.bool (r.c 3 0),.bool (r.c 3 1),.bool (r.c 3 2),.bool (r.c 3 3)] [.bool (dA K on i j)] 162 (by intro v hv;rw[List.mem_singleton] at hv;subst hv;rfl) (YK (r:=r) (by omega) (by omega)) ?_
   refine jmw 0 [.b b5 (.cells ⟨[.bool ((jH r i j (dA K on i j)).c 0 0),.bool ((jH r i j (dA K on i j)).c 0 1),.bool ((jH r i j (dA K on i j)).c 0 2),.bool ((jH r i j (dA K on i j)).c 0 3),.bool ((jH r i j (dA K on i j)).c 1 0),.bool ((jH r i j (dA K on i j)).c 1 1),.bool ((jH r i j (dA K on i j)).c 1 2),.bool ((jH r i j (dA K on i j)).c 1 3),.bool ((jH r i j (dA K on i j)).c 2 0),.bool ((jH r i j (dA K on i j)).c 2 1),.bool ((jH r i j (dA K on i j)).c 2 2),.bool ((jH r i j (dA K on i j)).c 2 3),.bool ((jH r i j (dA K on i j)).c 3 0),.bool ((jH r i j (dA K on i j)).c 3 1),.bool ((jH r i j (dA K on i j)).c 3 2),.bool ((jH r i j (dA K on i j)).c 3 3)]⟩ 162 (0,0))] (L:=[(b5,.cells ⟨dK [.bool (r.c 0 0),.bool (r.c 0 1),.bool (r.c 0 2),.bool (r.c 0 3),.bool (r.c 1 0),.bool (r.c 1 1),.bool (r.c 1 2),.bool (r.c 1 3),.bool (r.c 2 0),.bool (r.c 2 1),.bool (r.c 2 2),.bool (r.c 2 3),.bool (r.c 3 0),.bool (r.c 3 1),.bool (r.c 3 2),.bool (r.c 3 3)] (0+(i:Int).toNat*4+(j:Int).toNat*1) [.bool (dA K on i j)]⟩ 162 (0,0))]) (by rw[YI (by omega) (by omega)];rfl) ?_
   refine eW q5 []<|zD 2<|zW ((j:Int)+1)<|zD 2<|zF lL (⟨j+1,(jH r i j (dA K on i j))⟩) hJ.2.set [0,1,2]
  refine zD 3<|zW ((i:Int)+1)<|zD 2<|zF bP (⟨i+1,r⟩) (Gg.nxt (by have:=hJ.2;rwa[show j=K.after.length by omega] at this)) [0,1,2]
 refine zD 5<|jn fun b8=>jd 8 [0]<|zR (.func (.func 138) ⟨[]⟩ ⟨[zP b2,zP b8,zP b5]⟩) [] [3,0,1,2] ((b2,.cells ⟨[zP f]⟩ 106 (0,0))::((b8,.cells ⟨[.func (.func 137) ⟨[]⟩ ⟨[zP b2,zP b3]⟩]⟩ 239 (0,0))::((b5,.cells ⟨[.bool (r.c 0 0),.bool (r.c 0 1),.bool (r.c 0 2),.bool (r.c 0 3),.bool (r.c 1 0),.bool (r.c 1 1),.bool (r.c 1 2),.bool (r.c 1 3),.bool (r.c 2 0),.bool (r.c 2 1),.bool (r.c 2 2),.bool (r.c 2 3),.bool (r.c 3 0),.bool (r.c 3 1),.bool (r.c 3 2),.bool (r.c 3 3)]⟩ 162 (0,0))::[(b3,.cells ⟨[.int .u8 on]⟩ 111 (0,0))]))) ⟨_,_,_,_,rfl,by have e:=Gg.fin (K:=K) (on:=on) (r:=r) (by have:=hI.2;rwa[show i=K.before.length by omega] at this);subst e;rfl⟩
theorem ar1{f:Nat}{rows:List bx}{past:Nat}{Ki:bx}(hF:p5 ro f K rows)(hV:fq K)(D8:rows[past]?=some Ki) (hp:∀i,0≤p i∧p i≤4):dG zT 99 [zP f,zI (past:Int),.agg ⟨[zI (p 0),zI (p 1),zI (p 2),zI (p 3)]⟩] ro (.agg ⟨cY (bI K Ki past p)⟩):=by
 obtain⟨c0,c1,c2,vc,vh,vr,vb,va,vf,vt,hv,hf,py,kz,hr,yY,B6,Eg,cg⟩:=id hF
 obtain⟨hc,hh,dk⟩:=id py
 obtain⟨dF,Ak,Aj,dB,rfl,CQ,yP,yO⟩:=hc
 obtain⟨di,uQ,uP,cP,rfl,wF,pM,pK⟩:=hh
 obtain⟨iI,Gu,Gt,iH,rfl,JI,FL,FK⟩:=hr
 obtain⟨fC,Dv,Dt,eO,rfl,Du,wu,wq⟩:=yY
 obtain⟨fD,Dy,Dw,eQ,rfl,Dx,wy,wx⟩:=B6
 obtain⟨fS,Kp,Km,fe,rfl,Ko,wW,wV⟩:=Eg
 obtain⟨nX,FJ,FI,nD,rfl,Ro,N5,N4⟩:=cg
 have MS:=hV.rules.1
 have yV:=hV.before.1
 have Ec:=hV.after.1
 have hnf:=hV.facts.1
 have hpc:=Za p
 have SE:=(List.getElem?_eq_some_iff.1 D8).1
 refine zE<|zD 2<|jn fun b5=>jn fun b6=>jd 4 [1]<|jp (vs:=[.agg ⟨[zI (p 0),zI (p 1),zI (p 2),zI (p 3)]⟩]) [] [] (fun aJ hs hZ=>(av2 (p0:=p 0) (p1:=p 1) (p2:=p 2) (p3:=p 3)))<|jd 10 [1]<|jl (b:=f) (off:=0) (m:=13) (vs:=[c0,c1,c2,.slice dF K.cs.length dB,.slice di hv.length cP,.slice iI K.rules.length iH,.slice fC K.before.length eO,.slice fD K.after.length eQ,zI K.gone,zI K.new,zI K.af,.slice fS K.facts.length fe,.slice nX rows.length nD]) 6 ⟨_,_,_,.inl hf,rfl⟩<|zD 2<|zW ((K.before.length:Int)-(oP (pL p)))<|zD 4<|jl (b:=f) (off:=0) (m:=13) (vs:=[c0,c1,c2,.slice dF K.cs.length dB,.slice di hv.length cP,.slice iI K.rules.length iH,.slice fC K.before.length eO,.slice fD K.after.length eQ,zI K.gone,zI K.new,zI K.af,.slice fS K.facts.length fe,.slice nX rows.length nD]) 7 ⟨_,_,_,.inl hf,rfl⟩<|zD 2<|zW ((K.after.length:Int)-(oP (pL p)))<|zD 1<|aP 19 fun C5 Dc Ba=>jn fun b8=>dW Ba [1,2]<|aP 20 fun zw Ab yZ=>jd 1 [0]<|eB yZ<|jd 8 [2]<|dH [1,1,1,0,1,0,0] [] (fun(zz:Nat×Int)=>[(0,zP f),(1,zI (past:Int)),(6,zP b6),(8,zP b8),(32,.agg ⟨[zI (p 0),zI (p 1),zI (p 2),zI (p 3)]⟩),(33,zI (zz.1:Int))]) (fun zz=>[.b b8 (.cells ⟨[zI (past:Int),zI (p 0),zI (p 1),zI (p 2),zI (p 3),zI ((K.before.length:Int)-(oP (pL p))),zI ((K.after.length:Int)-(oP (pL p))),zI zz.2]⟩ 138 (0,0)),.b b6 (.cells ⟨[zI 0,zI 0,zI 0,zI 0,zI 0,zI 0,zI 0,zI 0]⟩ 138 (0,0))]) (fun zz=>zz.1≤4∧zz.2=pP Ki p zz.1∧(0≤zz.2∧zz.2≤zz.1)) (fun zz=>4-zz.1) (⟨0,0⟩) ⟨by dsimp only;omega,rfl,by dsimp only;omega⟩ [0,1] ?_
 rintro⟨k,m⟩ hI K3 J0 rest
 dsimp only at hI
 refine zD 5<|zJ 34 ((k:Int) <4) (fun h3=>?_) fun h3=>?_
 ·
  refine zD 7<|jai (l:=[zI (p 0),zI (p 1),zI (p 2),zI (p 3)]) (k:Int) 4 1 false (by omega) (v:= zI (p k)) (show nth (eP4 p) _=_ from anP (by omega))<|zD 4 ?_
  have hpk:=hp k
  refine zD 4<|js 39 (decide ((p k)>0)) (fun h4=>?_) (fun h4=>?_)
  ·
   have zk:=h4
   replace zk:=of_decide_eq_true zk
   refine zD 3<|jl (b:=f) (off:=0) (m:=13) (vs:=[c0,c1,c2,.slice dF K.cs.length dB,.slice di hv.length cP,.slice iI K.rules.length iH,.slice fC K.before.length eO,.slice fD K.after.length eQ,zI K.gone,zI K.new,zI K.af,.slice fS K.facts.length fe,.slice nX rows.length nD]) 12 ⟨_,_,_,.inl hf,rfl⟩<|zD 3<|zW ((p k)-1) ?_
   obtain⟨x48,H7⟩:=zG rows past
   refine fK nD 16 N5 H7<|JM (b:=FJ) (off:=FI+past*16+0) (len:=4) (sz:=4) (k:Int) (by omega)<|JM (b:=FJ) (off:=FI+past*16+0+(k:Int).toNat*4) (len:=4) (sz:=1) ((p k)-1) (by omega)<|jl (b:=FJ) (off:=FI+past*16+0+(k:Int).toNat*4+((p k)-1).toNat*1) (m:=1) (vs:=[.bool (x48.c k ((p k)-1).toNat)]) 0 (show cK ⟨ro,[]⟩ FJ (FI+past*16+0+(k:Int).toNat*4+((p k)-1).toNat*1) 1 [.bool (x48.c k ((p k)-1).toNat)] from by have:=afx (N4 _ _ H7) (afk (r:=x48) (a:=k) (j:=(p k)-1) (by omega) (by omega));simpa [Nat.add_assoc] using this) ?_
   refine zD 3<|js 53 (!(x48.c k ((p k)-1).toNat)) (fun h5=>?_) (fun h5=>?_)
   ·
    try simp only[zB] at h5
    refine jd 4 [0]<|zW (m+1)<|jd 4 [0]<|zW ((k:Int)+1)<|zD 2<|zF J0 (⟨k+1,(m+1)⟩) ⟨by dsimp only;rw[pP,hI.2.1];rw[D8] at H7;cases H7;simp only[decide_eq_true zk,h5,Bool.not_false,Bool.not_true,Bool.and_true,Bool.and_false,cond_true,cond_false,Int.add_zero],by dsimp only;omega⟩ [0,1]
   try simp only[zB] at h5
   refine zD 3<|zW ((k:Int)+1)<|zD 2<|zF J0 (⟨k+1,m⟩) ⟨by dsimp only;rw[pP,hI.2.1];rw[D8] at H7;cases H7;simp only[decide_eq_true zk,h5,Bool.not_false,Bool.not_true,Bool.and_true,Bool.and_false,cond_true,cond_false,Int.add_zero],by dsimp only;omega⟩ [0,1]
  have zk:=h4
  replace zk:=of_decide_eq_false zk
  refine zD 18<|zW ((k:Int)+1)<|zD 2<|zF J0 (⟨k+1,m⟩) ⟨by dsimp only;rw[pP,hI.2.1];simp only[decide_eq_false zk,Bool.false_and,cond_false,Int.add_zero],by dsimp only;omega⟩ [0,1]
 refine jd 8 [0,1]<|zR (.agg ⟨[zI (past:Int),zI (p 0),zI (p 1),zI (p 2),zI (p 3),zI ((K.before.length:Int)-(oP (pL p))),zI ((K.after.length:Int)-(oP (pL p))),zI m]⟩) [1] [] [] ⟨by rw[hI.2.1,show k=4 by omega];rfl,rfl⟩
def xY(v:Value)(xs:List aj)(Y:Cells):Prop:=∃ys,ys.Perm xs∧aA v 8 138 cY ys Y
def ia(xs:List aj):Prop:=∀x∈xs,0≤x.past∧x.past≤1000
theorem ia.perm{xs ys:List aj}(h:ia xs)(hp:ys.Perm xs):ia ys:=fun x hx=>h x (hp.mem_iff.1 hx)
theorem GO{x:Int}(h:0≤x∧x≤1000000000):IntKind.i64.wrap (aV .u64 (IntKind.u64.wrap x) 1)=x / 2:=by
 have h1:IntKind.u64.wrap x=x:=tC .u64 rfl _ (by omega) (by simp[IntKind.bits];omega)
 rw[h1]
 have h2:aV .u64 x 1=x / 2:=by
  show x.fdiv 2=x / 2
  exact Int.fdiv_eq_ediv_of_nonneg _ (by decide)
 rw[h2,jY _ (by omega)]
theorem aoM{x y:aj}(hx:0≤x.past∧x.past≤1000)(hy:0≤y.past∧y.past≤1000):dG zT 119 [.agg ⟨[zI x.past,zI x.w0,zI x.w1,zI x.w2,zI x.w3,zI x.gone,zI x.new,zI x.af]⟩,.agg ⟨[zI y.past,zI y.w0,zI y.w1,zI y.w2,zI y.w3,zI y.gone,zI y.new,zI y.af]⟩] ro (zI (x.past-y.past)):=by
 refine zE<|zD 2<|jn fun b2=>jn fun b3=>jd 8 [1,0]<|zW (x.past-y.past)<|zD 3<|zX (zI (x.past-y.past)) ⟨rfl,rfl⟩
theorem aDg{v:Value}{xs:List aj}{L:Cells}{a b:Int}(ho:aA v 8 138 cY xs L)(hN:xs.length≤100000)(hP:ia xs)(Eh:0≤a∧a≤b∧b≤xs.length):ee zT 218 [v,zI a,zI b,.func (.func 119) ⟨[]⟩ ⟨[]⟩] ro L (fun r Y=>xY v xs Y):=by
 refine zC [.l L]<|zD 3<|zW (a+1)<|zD 3<|dH [1,0,0] [] (fun(zz:Int×(List aj)×Cells)=>[(0,v),(1,zI a),(2,zI b),(3,.func (.func 119) ⟨[]⟩ ⟨[]⟩),(8,zI zz.1)]) (fun zz=>[.l zz.2.2]) (fun zz=>(a+1≤zz.1)∧aA v 8 138 cY zz.2.1 zz.2.2∧zz.2.1.Perm xs) (fun zz=>(b-zz.1).toNat) (⟨(a+1),xs,L⟩) ⟨by dsimp only;omega,ho,.refl _⟩ [0] ?_
 rintro⟨i,ys,L⟩ hI K1 bP rest
 dsimp only at hI
 have ZN:=hI.2.2.length_eq
 have hyp:=hP.perm hI.2.2
 refine zD 7<|zJ 14 (i <b) (fun h1=>?_) fun h1=>?_
 ·
  refine zD 10<|dH [1,0,0,1,0,0,1,0,0] [K1] (fun(zz:Int×(List aj)×Cells)=>[(0,v),(1,zI a),(2,zI b),(3,.func (.func 119) ⟨[]⟩ ⟨[]⟩),(8,zI i),(9,zI zz.1)]) (fun zz=>[.l zz.2.2]) (fun zz=>(a≤zz.1∧zz.1≤i)∧aA v 8 138 cY zz.2.1 zz.2.2∧zz.2.1.Perm xs) (fun zz=>(zz.1-a).toNat) (⟨i,ys,L⟩) ⟨by dsimp only;omega,hI.2⟩ [0] ?_
  rintro⟨j,ys,L⟩ hJ K2 lL rest
  dsimp only at hJ
  have ZN:=hJ.2.2.length_eq
  have hyp:=hP.perm hJ.2.2
  refine zD 7<|js 3 (decide (j>a)) (fun h2=>?_) (fun h2=>?_)
  ·
   have mU:=h2
   replace mU:=of_decide_eq_true mU
   refine zD 3 ?_
   obtain⟨sS,jU⟩:=zG ys (j.toNat) (by first|omega| (simp only[List.length_set];omega))
   refine zH j 8 hJ.2.1 jU fun oI ajd=>n7 0 [0] L (fun s _ hZ=>cB hJ.2.1 ajd hZ jU)<|zD 2<|zW (j-1) ?_
   obtain⟨pw,kS⟩:=zG ys ((j-1).toNat) (by first|omega| (simp only[List.length_set];omega))
   refine zH (j-1) 8 hJ.2.1 kS fun b30 WT=>n7 0 [0] L (fun s _ hZ=>cB hJ.2.1 WT hZ kS)<|aP 14 fun tA tH q5=>jp (vs:=[.agg ⟨[zI sS.past,zI sS.w0,zI sS.w1,zI sS.w2,zI sS.w3,zI sS.gone,zI sS.new,zI sS.af]⟩,.agg ⟨[zI pw.past,zI pw.w0,zI pw.w1,zI pw.w2,zI pw.w3,zI pw.gone,zI pw.new,zI pw.af]⟩]) [] [] (fun aJ hs hZ=>(aoM (x:=sS) (y:=pw) (hyp _ (zL jU)) (hyp _ (zL kS))))<|dW q5 [0]<|zD 3<|zJ 34 ((sS.past-pw.past) <0) (fun h4=>?_) fun h4=>?_
   ·
    refine zD 9<|zW (j-1)<|zD 2<|zW (j-1) ?_
    obtain⟨yL,FW⟩:=zG ys ((j-1).toNat) (by first|omega| (simp only[List.length_set];omega))
    refine zH (j-1) 8 hJ.2.1 FW fun b45 ajc=>n7 0 [0] L (fun s _ hZ=>cB hJ.2.1 ajc hZ FW)<|zD 2 ?_
    obtain⟨J9,FV⟩:=zG ys (j.toNat) (by first|omega| (simp only[List.length_set];omega))
    refine zH j 8 hJ.2.1 FV fun b49 ajb=>n7 0 [0] L (fun s _ hZ=>cB hJ.2.1 ajb hZ FV) ?_
    obtain⟨x51,FU⟩:=zG ys (j.toNat) (by first|omega| (simp only[List.length_set];omega))
    refine zH j 8 hJ.2.1 FU fun b51 aja=>aP 15 fun sR sX qZ=>Qc 0 0 [zI yL.past,zI yL.w0,zI yL.w1,zI yL.w2,zI yL.w3,zI yL.gone,zI yL.new,zI yL.af] yL hJ.2.1 aja FU rfl rfl (Nat.le_of_ble_eq_true rfl) fun L6 ho7=>eW qZ [] ?_
    obtain⟨x52,D5⟩:=zG ((ys.set j.toNat yL)) ((j-1).toNat) (by first|omega| (simp only[List.length_set];omega))
    refine zH (j-1) 8 ho7 D5 fun b52 ai9=>aP 17 fun Bg Br B7=>Qc 0 0 [zI J9.past,zI J9.w0,zI J9.w1,zI J9.w2,zI J9.w3,zI J9.gone,zI J9.new,zI J9.af] J9 ho7 ai9 D5 rfl rfl (Nat.le_of_ble_eq_true rfl) fun L9 aiv=>eB B7<|zD 3<|zW (j-1)<|zD 2<|zF lL (⟨(j-1),((ys.set j.toNat yL).set ((j-1).toNat) J9),L9⟩) ⟨aiv,(nY FV FW).trans hJ.2.2⟩ [0]
   refine zD 4<|zW (i+1)<|zD 2<|zF bP (⟨(i+1),ys,L⟩) hJ.2 [0]
  have mU:=h2
  replace mU:=of_decide_eq_false mU
  refine zD 18<|zW (i+1)<|zD 2<|zF bP (⟨(i+1),ys,L⟩) hJ.2 [0]
 refine zD 2<|zR (.tuple ⟨[]⟩) [] [0] L ⟨ys,hI.2.2,hI.2.1⟩
def aLB(n:Nat):Prop:=∀(ro:Nat→Option Obj) (v:Value) (xs:List aj) (L:Cells) (a m b:Int),aA v 8 138 cY xs L→xs.length≤100000→ia xs→(0≤a∧a <m∧m <b∧b≤xs.length)→(b-a).toNat=n→
 ee zT 219 [v,zI a,zI m,zI b,.func (.func 119) ⟨[]⟩ ⟨[]⟩] ro L (fun _ Y=>xY v xs Y)
theorem afh{v:Value}{xs:List aj}{L:Cells}{a b:Int}(ho:aA v 8 138 cY xs L)(hN:xs.length≤100000)(hP:ia xs)(Eh:(0≤a∧0≤b∧0≤n)∧a+n≤xs.length∧b+n≤xs.length∧a≠b):ee zT 291 [v,zI a,zI b,zI n,.func (.func 119) ⟨[]⟩ ⟨[]⟩] ro L (fun r Y=>xY v xs Y):=by
 refine zC [.l L]<|zD 5<|dH [1,0,0] [] (fun(zz:Int×(List aj)×Cells)=>[(0,v),(1,zI a),(2,zI b),(3,zI n),(10,zI zz.1)]) (fun zz=>[.l zz.2.2]) (fun zz=>(0≤zz.1∧zz.1≤n)∧aA v 8 138 cY zz.2.1 zz.2.2∧zz.2.1.Perm xs) (fun zz=>(n-zz.1).toNat) (⟨0,xs,L⟩) ⟨by dsimp only;omega,ho,.refl _⟩ [0] ?_
 rintro⟨i,ys,L⟩ hI K1 bP rest
 dsimp only at hI
 have ZN:=hI.2.2.length_eq
 have hyp:=hP.perm hI.2.2
 refine zD 7<|zJ 13 (i <n) (fun h1=>?_) fun h1=>?_
 ·
  refine zD 8<|zW (a+i)<|zD 3<|zW (b+i)<|zD 3<|zW (b+i) ?_
  obtain⟨x28,awH⟩:=zG ys ((b+i).toNat) (by first|omega| (simp only[List.length_set];omega))
  refine zH (b+i) 8 hI.2.1 awH fun b28 aW2=>n7 0 [0] L (fun s _ hZ=>cB hI.2.1 aW2 hZ awH)<|zD 3<|zW (a+i) ?_
  obtain⟨x34,OM⟩:=zG ys ((a+i).toNat) (by first|omega| (simp only[List.length_set];omega))
  refine zH (a+i) 8 hI.2.1 OM fun b34 aWZ=>n7 0 [0] L (fun s _ hZ=>cB hI.2.1 aWZ hZ OM) ?_
  obtain⟨x36,AE⟩:=zG ys ((a+i).toNat) (by first|omega| (simp only[List.length_set];omega))
  refine zH (a+i) 8 hI.2.1 AE fun tv ayG=>aP 21 fun zw Ab yZ=>Qc 0 0 [zI x28.past,zI x28.w0,zI x28.w1,zI x28.w2,zI x28.w3,zI x28.gone,zI x28.new,zI x28.af] x28 hI.2.1 ayG AE rfl rfl (Nat.le_of_ble_eq_true rfl) fun L3 ho4=>eW yZ [] ?_
  obtain⟨x37,acm⟩:=zG ((ys.set ((a+i).toNat) x28)) ((b+i).toNat) (by first|omega| (simp only[List.length_set];omega))
  refine zH (b+i) 8 ho4 acm fun b37 aWX=>aP 23 fun tA tH q5=>Qc 0 0 [zI x34.past,zI x34.w0,zI x34.w1,zI x34.w2,zI x34.w3,zI x34.gone,zI x34.new,zI x34.af] x34 ho4 aWX acm rfl rfl (Nat.le_of_ble_eq_true rfl) fun L6 ho7=>eB q5<|zD 3<|zW (i+1)<|zD 2<|zF bP (⟨(i+1),((ys.set ((a+i).toNat) x28).set ((b+i).toNat) x34),L6⟩) ⟨ho7,(nY OM awH).trans hI.2.2⟩ [0]
 refine zD 2<|zR (.tuple ⟨[]⟩) [] [0] L ⟨ys,hI.2.2,hI.2.1⟩
theorem aQ3{v:Value}{xs:List aj}{L:Cells}{a m b:Int}(ho:aA v 8 138 cY xs L)(hN:xs.length≤100000)(hP:ia xs)(Eh:0≤a∧a <m∧m <b∧b≤xs.length):ee zT 250 [v,zI a,zI m,zI b,.func (.func 119) ⟨[]⟩ ⟨[]⟩] ro L (fun r Y=>xY v xs Y):=by
 refine zC [.l L]<|zD 4<|zW (m-a)<|zD 6<|zW (b-m)<|zD 4<|dH [1,1,0,0,0] [] (fun(zz:Int×Int×(List aj)×Cells)=>[(0,v),(2,zI m),(4,.func (.func 119) ⟨[]⟩ ⟨[]⟩),(10,zI zz.1),(11,zI zz.2.1)]) (fun zz=>[.l zz.2.2.2]) (fun zz=>((0 <zz.1∧zz.1≤m-a)∧0 <zz.2.1∧zz.2.1≤b-m)∧aA v 8 138 cY zz.2.2.1 zz.2.2.2∧zz.2.2.1.Perm xs) (fun zz=>(zz.1+zz.2.1).toNat) (⟨(m-a),(b-m),xs,L⟩) ⟨by dsimp only;omega,ho,.refl _⟩ [0] ?_
 rintro⟨i,j,ys,L⟩ hI K1 bP rest
 dsimp only at hI
 have ZN:=hI.2.2.length_eq
 have hyp:=hP.perm hI.2.2
 refine zD 7<|js 20 (!decide (i=j)) (fun h1=>?_) (fun h1=>?_)
 ·
  replace h1:=of_decide_eq_false (by simpa using h1)
  refine zD 9<|zJ 23 (i>j) (fun h2=>?_) fun h2=>?_
  ·
   refine zD 6<|zW (m-i)<|zD 3<|jc (vs:=[v,zI (m-i),zI m,zI j,.func (.func 119) ⟨[]⟩ ⟨[]⟩]) [0] (afh hI.2.1 (by omega) hyp (by omega)) ?_
   rintro bgJ Y31 ⟨aOD,axb,aU7⟩
   have bdr:=axb.length_eq
   have bdk:=ia.perm hyp axb
   refine zD 4<|zW (i-j)<|zD 2<|zF bP (⟨(i-j),j,aOD,Y31⟩) ⟨aU7,(axb.trans hI.2.2)⟩ [0]
  refine zD 6<|zW (m-i)<|zD 2<|zW (m+j)<|zD 1<|zW ((m+j)-i)<|zD 2<|jc (vs:=[v,zI (m-i),zI ((m+j)-i),zI i,.func (.func 119) ⟨[]⟩ ⟨[]⟩]) [0] (afh hI.2.1 (by omega) hyp (by omega)) ?_
  rintro bgG Y46 ⟨aOB,aw9,aU3⟩
  have bdp:=aw9.length_eq
  have bdi:=ia.perm hyp aw9
  refine zD 4<|zW (j-i)<|zD 2<|zF bP (⟨i,(j-i),aOB,Y46⟩) ⟨aU3,(aw9.trans hI.2.2)⟩ [0]
 replace h1:=of_decide_eq_true (by simpa using h1)
 refine zD 6<|zW (m-i)<|zD 3<|jc (vs:=[v,zI (m-i),zI m,zI i,.func (.func 119) ⟨[]⟩ ⟨[]⟩]) [0] (afh hI.2.1 (by omega) hyp (by omega)) ?_
 rintro bgF Y57 ⟨bfL,aw7,ape⟩
 have bdo:=aw7.length_eq
 have bdh:=ia.perm hyp aw7
 refine zD 1<|zR (.tuple ⟨[]⟩) [] [0] Y57 ⟨_,(aw7.trans hI.2.2),ape⟩
theorem aDd{n:Nat}{v:Value}{xs:List aj}{L:Cells}{a m b:Int}(ih:∀k,k <n→aLB k)(ho:aA v 8 138 cY xs L)(hN:xs.length≤100000)(hP:ia xs)(Eh:0≤a∧a <m∧m <b∧b≤xs.length)(hn:(b-a).toNat=n):ee zT 219 [v,zI a,zI m,zI b,.func (.func 119) ⟨[]⟩ ⟨[]⟩] ro L (fun r Y=>xY v xs Y):=by
 refine zC [.l L]<|zD 5<|zW (m-a)<|zD 2<|zJ 28 ((m-a)=1) (fun h1=>?_) fun h1=>?_
 ·
  refine zD 13<|dH [0,1,0,1,1,0,0,0] [] (fun(zz:Int×Int)=>[(0,v),(1,zI a),(2,zI m),(3,zI b),(4,.func (.func 119) ⟨[]⟩ ⟨[]⟩),(10,zI zz.1),(11,zI zz.2)]) (fun zz=>[.l L]) (fun zz=>(m≤zz.1∧zz.1≤zz.2)∧zz.2≤b) (fun zz=>(zz.2-zz.1).toNat) (⟨m,b⟩) (by dsimp only;omega) [0] ?_
  rintro⟨i,j⟩ hI K1 bP rest
  dsimp only at hI
  refine zD 7<|zJ 33 (i <j) (fun h2=>?_) fun h2=>?_
  ·
   refine zD 7<|zW (i+j)<|zD 6 ?_
   have hh:=GO (x:=i+j) (by omega)
   refine zD 4 ?_
   obtain⟨x43,awD⟩:=zG xs ((IntKind.i64.wrap (aV .u64 (IntKind.u64.wrap (i+j)) 1)).toNat) (by first|omega| (simp only[List.length_set];omega))
   refine zH (IntKind.i64.wrap (aV .u64 (IntKind.u64.wrap (i+j)) 1)) 8 ho awD fun b43 aWT=>n7 0 [0] L (fun s _ hZ=>cB ho aWT hZ awD)<|zD 2 ?_
   obtain⟨x47,Wl⟩:=zG xs (a.toNat) (by first|omega| (simp only[List.length_set];omega))
   refine zH a 8 ho Wl fun b47 aWS=>n7 0 [0] L (fun s _ hZ=>cB ho aWS hZ Wl)<|aP 9 fun zw Ab yZ=>jp (vs:=[.agg ⟨[zI x43.past,zI x43.w0,zI x43.w1,zI x43.w2,zI x43.w3,zI x43.gone,zI x43.new,zI x43.af]⟩,.agg ⟨[zI x47.past,zI x47.w0,zI x47.w1,zI x47.w2,zI x47.w3,zI x47.gone,zI x47.new,zI x47.af]⟩]) [] [] (fun aJ hs hZ=>(aoM (x:=x43) (y:=x47) (hP _ (zL awD)) (hP _ (zL Wl))))<|dW yZ [0]<|zD 2<|zJ 50 ((x43.past-x47.past) <0) (fun h4=>?_) fun h4=>?_
   ·
    refine zD 3<|zW ((IntKind.i64.wrap (aV .u64 (IntKind.u64.wrap (i+j)) 1))+1)<|zD 2<|zY bP (⟨((IntKind.i64.wrap (aV .u64 (IntKind.u64.wrap (i+j)) 1))+1),j⟩) (by dsimp only;omega) [0]
   refine zD 5<|zY bP (⟨i,(IntKind.i64.wrap (aV .u64 (IntKind.u64.wrap (i+j)) 1))⟩) (by dsimp only;omega) [0]
  refine zD 9<|dH [0,1,0,1,1,1,0,1,0,0] [] (fun(zz:Int×(List aj)×Cells)=>[(0,v),(1,zI a),(2,zI m),(3,zI b),(4,.func (.func 119) ⟨[]⟩ ⟨[]⟩),(10,zI i),(13,zI zz.1)]) (fun zz=>[.l zz.2.2]) (fun zz=>a≤zz.1∧aA v 8 138 cY zz.2.1 zz.2.2∧zz.2.1.Perm xs) (fun zz=>(i-zz.1).toNat) (⟨a,xs,L⟩) ⟨by dsimp only;omega,ho,.refl _⟩ [0] ?_
  rintro⟨k,ys,L⟩ hJ K3 J0 rest
  dsimp only at hJ
  have ZN:=hJ.2.2.length_eq
  have hyp:=hP.perm hJ.2.2
  refine zD 5<|zW (i-1)<|zD 2<|zJ 58 (k <(i-1)) (fun h5=>?_) fun h5=>?_
  ·
   refine zD 9<|zW (k+1)<|zD 2<|zW (k+1) ?_
   obtain⟨UG,ack⟩:=zG ys ((k+1).toNat) (by first|omega| (simp only[List.length_set];omega))
   refine zH (k+1) 8 hJ.2.1 ack fun b69 ayE=>n7 0 [0] L (fun s _ hZ=>cB hJ.2.1 ayE hZ ack)<|zD 2 ?_
   obtain⟨x73,acj⟩:=zG ys (k.toNat) (by first|omega| (simp only[List.length_set];omega))
   refine zH k 8 hJ.2.1 acj fun b73 aWN=>n7 0 [0] L (fun s _ hZ=>cB hJ.2.1 aWN hZ acj) ?_
   obtain⟨x75,Wk⟩:=zG ys (k.toNat) (by first|omega| (simp only[List.length_set];omega))
   refine zH k 8 hJ.2.1 Wk fun b75 aWL=>aP 15 fun sR sX qZ=>Qc 0 0 [zI UG.past,zI UG.w0,zI UG.w1,zI UG.w2,zI UG.w3,zI UG.gone,zI UG.new,zI UG.af] UG hJ.2.1 aWL Wk rfl rfl (Nat.le_of_ble_eq_true rfl) fun L7 ho8=>eW qZ [] ?_
   obtain⟨x76,aF5⟩:=zG ((ys.set k.toNat UG)) ((k+1).toNat) (by first|omega| (simp only[List.length_set];omega))
   refine zH (k+1) 8 ho8 aF5 fun b76 aWK=>aP 17 fun Bg Br B7=>Qc 0 0 [zI x73.past,zI x73.w0,zI x73.w1,zI x73.w2,zI x73.w3,zI x73.gone,zI x73.new,zI x73.af] x73 ho8 aWK aF5 rfl rfl (Nat.le_of_ble_eq_true rfl) fun L10 axA=>eB B7<|zD 3<|zW (k+1)<|zD 2<|zF J0 (⟨(k+1),((ys.set k.toNat UG).set ((k+1).toNat) x73),L10⟩) ⟨axA,(nY acj ack).trans hJ.2.2⟩ [0]
  refine zD 3<|zR (.tuple ⟨[]⟩) [] [0] L ⟨_,hJ.2.2,hJ.2.1⟩
 refine zD 7<|zW (b-m)<|zD 2<|zJ 80 ((b-m)=1) (fun J1=>?_) fun J1=>?_
 ·
  refine zD 13<|dH [1,0,1,0,1,1,0,0,0] [] (fun(zz:Int×Int)=>[(0,v),(1,zI a),(2,zI m),(3,zI b),(4,.func (.func 119) ⟨[]⟩ ⟨[]⟩),(14,zI zz.1),(15,zI zz.2)]) (fun zz=>[.l L]) (fun zz=>(a≤zz.1∧zz.1≤zz.2)∧zz.2≤m) (fun zz=>(zz.2-zz.1).toNat) (⟨a,m⟩) (by dsimp only;omega) [0] ?_
  rintro⟨i,j⟩ hI K6 hK6 rest
  dsimp only at hI
  refine zD 7<|zJ 85 (i <j) (fun C1=>?_) fun C1=>?_
  ·
   refine zD 7<|zW (i+j)<|zD 6 ?_
   have hh:=GO (x:=i+j) (by omega)
   refine zD 4 ?_
   obtain⟨Lg,OF⟩:=zG xs (m.toNat) (by first|omega| (simp only[List.length_set];omega))
   refine zH m 8 ho OF fun b95 ayD=>n7 0 [0] L (fun s _ hZ=>cB ho ayD hZ OF)<|zD 2 ?_
   obtain⟨x99,awC⟩:=zG xs ((IntKind.i64.wrap (aV .u64 (IntKind.u64.wrap (i+j)) 1)).toNat) (by first|omega| (simp only[List.length_set];omega))
   refine zH (IntKind.i64.wrap (aV .u64 (IntKind.u64.wrap (i+j)) 1)) 8 ho awC fun b99 aWG=>n7 0 [0] L (fun s _ hZ=>cB ho aWG hZ awC)<|aP 9 fun aa8 abl O6=>jp (vs:=[.agg ⟨[zI Lg.past,zI Lg.w0,zI Lg.w1,zI Lg.w2,zI Lg.w3,zI Lg.gone,zI Lg.new,zI Lg.af]⟩,.agg ⟨[zI x99.past,zI x99.w0,zI x99.w1,zI x99.w2,zI x99.w3,zI x99.gone,zI x99.new,zI x99.af]⟩]) [] [] (fun aJ hs hZ=>(aoM (x:=Lg) (y:=x99) (hP _ (zL OF)) (hP _ (zL awC))))<|dW O6 [0]<|zD 3<|js 103 (!(decide ((Lg.past-x99.past) <0))) (fun xz=>?_) (fun xz=>?_)
   ·
    try simp only[zB] at xz
    refine zD 3<|zW ((IntKind.i64.wrap (aV .u64 (IntKind.u64.wrap (i+j)) 1))+1)<|zD 2<|zY hK6 (⟨((IntKind.i64.wrap (aV .u64 (IntKind.u64.wrap (i+j)) 1))+1),j⟩) (by dsimp only;omega) [0]
   try simp only[zB] at xz
   refine zD 5<|zY hK6 (⟨i,(IntKind.i64.wrap (aV .u64 (IntKind.u64.wrap (i+j)) 1))⟩) (by dsimp only;omega) [0]
  refine zD 9<|dH [1,0,1,0,1,1,1,0,1,0,0] [] (fun(zz:Int×(List aj)×Cells)=>[(0,v),(1,zI a),(2,zI m),(3,zI b),(4,.func (.func 119) ⟨[]⟩ ⟨[]⟩),(14,zI i),(17,zI zz.1)]) (fun zz=>[.l zz.2.2]) (fun zz=>(a≤i∧zz.1≤m)∧aA v 8 138 cY zz.2.1 zz.2.2∧zz.2.1.Perm xs) (fun zz=>(zz.1-i).toNat) (⟨m,xs,L⟩) ⟨by dsimp only;omega,ho,.refl _⟩ [0] ?_
  rintro⟨k,ys,L⟩ hJ K8 hK8 rest
  dsimp only at hJ
  have ZN:=hJ.2.2.length_eq
  have hyp:=hP.perm hJ.2.2
  refine zD 7<|zJ 110 (k>i) (fun Ga=>?_) fun Ga=>?_
  ·
   refine zD 9<|zW (k-1)<|zD 2<|zW (k-1) ?_
   obtain⟨C7,ahY⟩:=zG ys ((k-1).toNat) (by first|omega| (simp only[List.length_set];omega))
   refine zH (k-1) 8 hJ.2.1 ahY fun bmi aIk=>n7 0 [0] L (fun s _ hZ=>cB hJ.2.1 aIk hZ ahY)<|zD 2 ?_
   obtain⟨Kc,ahX⟩:=zG ys (k.toNat) (by first|omega| (simp only[List.length_set];omega))
   refine zH k 8 hJ.2.1 ahX fun bmh aIj=>n7 0 [0] L (fun s _ hZ=>cB hJ.2.1 aIj hZ ahX) ?_
   obtain⟨bf0,ar6⟩:=zG ys (k.toNat) (by first|omega| (simp only[List.length_set];omega))
   refine zH k 8 hJ.2.1 ar6 fun bmg aIi=>aP 15 fun UE U2 O5=>Qc 0 0 [zI C7.past,zI C7.w0,zI C7.w1,zI C7.w2,zI C7.w3,zI C7.gone,zI C7.new,zI C7.af] C7 hJ.2.1 aIi ar6 rfl rfl (Nat.le_of_ble_eq_true rfl) fun L18 aGU=>eW O5 [] ?_
   obtain⟨bfZ,ahV⟩:=zG ((ys.set k.toNat C7)) ((k-1).toNat) (by first|omega| (simp only[List.length_set];omega))
   refine zH (k-1) 8 aGU ahV fun ado aIh=>aP 17 fun GW G9 xv=>Qc 0 0 [zI Kc.past,zI Kc.w0,zI Kc.w1,zI Kc.w2,zI Kc.w3,zI Kc.gone,zI Kc.new,zI Kc.af] Kc aGU aIh ahV rfl rfl (Nat.le_of_ble_eq_true rfl) fun L21 aVa=>eB xv<|zD 3<|zW (k-1)<|zD 2<|zF hK8 (⟨(k-1),((ys.set k.toNat C7).set ((k-1).toNat) Kc),L21⟩) ⟨aVa,(nY ahX ahY).trans hJ.2.2⟩ [0]
  refine zD 3<|zR (.tuple ⟨[]⟩) [] [0] L ⟨_,hJ.2.2,hJ.2.1⟩
 refine zD 6<|zW (a+b)<|zD 6 ?_
 have bj6:=GO (x:=a+b) (by omega)
 refine zD 3<|zW ((IntKind.i64.wrap (aV .u64 (IntKind.u64.wrap (a+b)) 1))+m)<|zD 14<|GD [1,1,1,1,1,1] [] (fun(zz:Int×Int)=>[(0,v),(1,zI a),(2,zI m),(3,zI b),(4,.func (.func 119) ⟨[]⟩ ⟨[]⟩),(18,zI (IntKind.i64.wrap (aV .u64 (IntKind.u64.wrap (a+b)) 1))),(19,zI ((IntKind.i64.wrap (aV .u64 (IntKind.u64.wrap (a+b)) 1))+m)),(20,zI zz.1),(21,zI zz.2)]) (fun zz=>[.l L]) (fun zz=>(a≤zz.1∧zz.1≤zz.2)∧zz.2≤b∧a≤((IntKind.i64.wrap (aV .u64 (IntKind.u64.wrap (a+b)) 1))+m)-zz.2∧((IntKind.i64.wrap (aV .u64 (IntKind.u64.wrap (a+b)) 1))+m)-zz.1≤b) ?_ (fun K11 apK=>?_)
 ·
  rintro⟨s0,r0⟩ hC rest
  dsimp only at hC
  refine zD 3<|zW (((IntKind.i64.wrap (aV .u64 (IntKind.u64.wrap (a+b)) 1))+m)-1)<|zD 4<|dH [1,1,1,1,1,1,1,0,0,0] [] (fun(zz:Int×Int)=>[(0,v),(1,zI a),(2,zI m),(3,zI b),(4,.func (.func 119) ⟨[]⟩ ⟨[]⟩),(18,zI (IntKind.i64.wrap (aV .u64 (IntKind.u64.wrap (a+b)) 1))),(19,zI ((IntKind.i64.wrap (aV .u64 (IntKind.u64.wrap (a+b)) 1))+m)),(20,zI zz.1),(21,zI zz.2),(22,zI (((IntKind.i64.wrap (aV .u64 (IntKind.u64.wrap (a+b)) 1))+m)-1))]) (fun zz=>[.l L]) (fun zz=>(a≤zz.1∧zz.1≤zz.2)∧zz.2≤b∧a≤((IntKind.i64.wrap (aV .u64 (IntKind.u64.wrap (a+b)) 1))+m)-zz.2∧((IntKind.i64.wrap (aV .u64 (IntKind.u64.wrap (a+b)) 1))+m)-zz.1≤b) (fun zz=>(zz.2-zz.1).toNat) (⟨s0,r0⟩) hC [0] ?_
  rintro⟨sx,r⟩ hK K12 aJD rest
  dsimp only at hK
  refine zD 7<|zJ 151 (sx <r) (fun CZ=>?_) fun CZ=>?_
  ·
   refine zD 7<|zW (sx+r)<|zD 6 ?_
   have hsr:=GO (x:=sx+r) (by omega)
   refine zD 5<|zW ((((IntKind.i64.wrap (aV .u64 (IntKind.u64.wrap (a+b)) 1))+m)-1)-(IntKind.i64.wrap (aV .u64 (IntKind.u64.wrap (sx+r)) 1))) ?_
   obtain⟨Kb,ahR⟩:=zG xs (((((IntKind.i64.wrap (aV .u64 (IntKind.u64.wrap (a+b)) 1))+m)-1)-(IntKind.i64.wrap (aV .u64 (IntKind.u64.wrap (sx+r)) 1))).toNat) (by first|omega| (simp only[List.length_set];omega))
   refine zH ((((IntKind.i64.wrap (aV .u64 (IntKind.u64.wrap (a+b)) 1))+m)-1)-(IntKind.i64.wrap (aV .u64 (IntKind.u64.wrap (sx+r)) 1))) 8 ho ahR fun bme aIf=>n7 0 [0] L (fun s _ hZ=>cB ho aIf hZ ahR)<|zD 2 ?_
   obtain⟨Ka,ahP⟩:=zG xs ((IntKind.i64.wrap (aV .u64 (IntKind.u64.wrap (sx+r)) 1)).toNat) (by first|omega| (simp only[List.length_set];omega))
   refine zH (IntKind.i64.wrap (aV .u64 (IntKind.u64.wrap (sx+r)) 1)) 8 ho ahP fun bmd aIe=>n7 0 [0] L (fun s _ hZ=>cB ho aIe hZ ahP)<|aP 11 fun aqY ark Pb=>jp (vs:=[.agg ⟨[zI Kb.past,zI Kb.w0,zI Kb.w1,zI Kb.w2,zI Kb.w3,zI Kb.gone,zI Kb.new,zI Kb.af]⟩,.agg ⟨[zI Ka.past,zI Ka.w0,zI Ka.w1,zI Ka.w2,zI Ka.w3,zI Ka.gone,zI Ka.new,zI Ka.af]⟩]) [] [] (fun aJ hs hZ=>(aoM (x:=Kb) (y:=Ka) (hP _ (zL ahR)) (hP _ (zL ahP))))<|dW Pb [0]<|zD 3<|js 171 (!(decide ((Kb.past-Ka.past) <0))) (fun h25=>?_) (fun h25=>?_)
   ·
    try simp only[zB] at h25
    refine zD 3<|zW ((IntKind.i64.wrap (aV .u64 (IntKind.u64.wrap (sx+r)) 1))+1)<|zD 2<|zY aJD (⟨((IntKind.i64.wrap (aV .u64 (IntKind.u64.wrap (sx+r)) 1))+1),r⟩) (by dsimp only;omega) [0]
   try simp only[zB] at h25
   refine zD 5<|zY aJD (⟨sx,(IntKind.i64.wrap (aV .u64 (IntKind.u64.wrap (sx+r)) 1))⟩) (by dsimp only;omega) [0]
  refine zD 6<|zW (((IntKind.i64.wrap (aV .u64 (IntKind.u64.wrap (a+b)) 1))+m)-sx)<|zD 9<|jj 4 [(0,v),(1,zI a),(2,zI m),(3,zI b),(4,.func (.func 119) ⟨[]⟩ ⟨[]⟩),(18,zI (IntKind.i64.wrap (aV .u64 (IntKind.u64.wrap (a+b)) 1))),(20,zI sx),(24,zI (((IntKind.i64.wrap (aV .u64 (IntKind.u64.wrap (a+b)) 1))+m)-sx)),(185,.bool ((decide (sx <m))&&(decide (m <(((IntKind.i64.wrap (aV .u64 (IntKind.u64.wrap (a+b)) 1))+m)-sx)))))] (fun fA=>?_) (fun hj=>?_)
  rotate_left
  refine js 181 (decide (sx <m)) (fun Td=>?_) (fun Td=>?_)
  ·
   have IA:=Td
   replace IA:=of_decide_eq_true IA
   refine zD 4<|jw 185 (.bool ((decide (sx <m))&&(decide (m <(((IntKind.i64.wrap (aV .u64 (IntKind.u64.wrap (a+b)) 1))+m)-sx))))) (w:= .bool (decide (m <(((IntKind.i64.wrap (aV .u64 (IntKind.u64.wrap (a+b)) 1))+m)-sx)))) (by rw[Td]<;>rfl) ?_
   exact zK hj
  ·
   have IA:=Td
   replace IA:=of_decide_eq_false IA
   refine zD 4<|jw 185 (.bool ((decide (sx <m))&&(decide (m <(((IntKind.i64.wrap (aV .u64 (IntKind.u64.wrap (a+b)) 1))+m)-sx))))) (w:= .bool false) (by rw[Td]<;>rfl) ?_
   exact zK hj
  refine zD 1<|GD [1,1,1,1,1,1,1,1,1,1] [] (fun(zz:(List aj)×Cells)=>[(0,v),(1,zI a),(3,zI b),(4,.func (.func 119) ⟨[]⟩ ⟨[]⟩),(18,zI (IntKind.i64.wrap (aV .u64 (IntKind.u64.wrap (a+b)) 1))),(20,zI sx),(24,zI (((IntKind.i64.wrap (aV .u64 (IntKind.u64.wrap (a+b)) 1))+m)-sx))]) (fun zz=>[.l zz.2]) (fun zz=>zz.1.Perm xs∧aA v 8 138 cY zz.1 zz.2) ?_ (fun K14 F6=>?_)
  ·
   rintro⟨ys,L⟩ hA rest
   dsimp only at hA
   have ZN:=hA.1.length_eq
   have hyp:=hP.perm hA.1
   refine zD 7<|jj 4 [(0,v),(1,zI a),(3,zI b),(4,.func (.func 119) ⟨[]⟩ ⟨[]⟩),(18,zI (IntKind.i64.wrap (aV .u64 (IntKind.u64.wrap (a+b)) 1))),(20,zI sx),(24,zI (((IntKind.i64.wrap (aV .u64 (IntKind.u64.wrap (a+b)) 1))+m)-sx)),(199,.bool ((decide (a <sx))&&(decide (sx <(IntKind.i64.wrap (aV .u64 (IntKind.u64.wrap (a+b)) 1))))))] (fun fA=>?_) (fun hj=>?_)
   rotate_left
   refine js 195 (decide (a <sx)) (fun h27=>?_) (fun h27=>?_)
   ·
    have Iz:=h27
    replace Iz:=of_decide_eq_true Iz
    refine zD 4<|jw 199 (.bool ((decide (a <sx))&&(decide (sx <(IntKind.i64.wrap (aV .u64 (IntKind.u64.wrap (a+b)) 1)))))) (w:= .bool (decide (sx <(IntKind.i64.wrap (aV .u64 (IntKind.u64.wrap (a+b)) 1))))) (by rw[h27]<;>rfl) ?_
    exact zK hj
   ·
    have Iz:=h27
    replace Iz:=of_decide_eq_false Iz
    refine zD 4<|jw 199 (.bool ((decide (a <sx))&&(decide (sx <(IntKind.i64.wrap (aV .u64 (IntKind.u64.wrap (a+b)) 1)))))) (w:= .bool false) (by rw[h27]<;>rfl) ?_
    exact zK hj
   refine zD 1<|GD [1,1,1,1,1,1,1,1,1,1,1] [] (fun(zz:(List aj)×Cells)=>[(0,v),(3,zI b),(4,.func (.func 119) ⟨[]⟩ ⟨[]⟩),(18,zI (IntKind.i64.wrap (aV .u64 (IntKind.u64.wrap (a+b)) 1))),(24,zI (((IntKind.i64.wrap (aV .u64 (IntKind.u64.wrap (a+b)) 1))+m)-sx))]) (fun zz=>[.l zz.2]) (fun zz=>zz.1.Perm xs∧aA v 8 138 cY zz.1 zz.2) ?_ (fun K15 acL=>?_)
   ·
    rintro⟨ys,L⟩ hB rest
    dsimp only at hB
    have ZN:=hB.1.length_eq
    have hyp:=hP.perm hB.1
    refine zD 6<|jj 4 [(0,v),(3,zI b),(4,.func (.func 119) ⟨[]⟩ ⟨[]⟩),(18,zI (IntKind.i64.wrap (aV .u64 (IntKind.u64.wrap (a+b)) 1))),(24,zI (((IntKind.i64.wrap (aV .u64 (IntKind.u64.wrap (a+b)) 1))+m)-sx)),(213,.bool ((decide ((IntKind.i64.wrap (aV .u64 (IntKind.u64.wrap (a+b)) 1)) <(((IntKind.i64.wrap (aV .u64 (IntKind.u64.wrap (a+b)) 1))+m)-sx)))&&(decide ((((IntKind.i64.wrap (aV .u64 (IntKind.u64.wrap (a+b)) 1))+m)-sx) <b))))] (fun fA=>?_) (fun hj=>?_)
    rotate_left
    refine js 209 (decide ((IntKind.i64.wrap (aV .u64 (IntKind.u64.wrap (a+b)) 1)) <(((IntKind.i64.wrap (aV .u64 (IntKind.u64.wrap (a+b)) 1))+m)-sx))) (fun Tc=>?_) (fun Tc=>?_)
    ·
     have Iy:=Tc
     replace Iy:=of_decide_eq_true Iy
     refine zD 4<|jw 213 (.bool ((decide ((IntKind.i64.wrap (aV .u64 (IntKind.u64.wrap (a+b)) 1)) <(((IntKind.i64.wrap (aV .u64 (IntKind.u64.wrap (a+b)) 1))+m)-sx)))&&(decide ((((IntKind.i64.wrap (aV .u64 (IntKind.u64.wrap (a+b)) 1))+m)-sx) <b)))) (w:= .bool (decide ((((IntKind.i64.wrap (aV .u64 (IntKind.u64.wrap (a+b)) 1))+m)-sx) <b))) (by rw[Tc]<;>rfl) ?_
     exact zK hj
    ·
     have Iy:=Tc
     replace Iy:=of_decide_eq_false Iy
     refine zD 4<|jw 213 (.bool ((decide ((IntKind.i64.wrap (aV .u64 (IntKind.u64.wrap (a+b)) 1)) <(((IntKind.i64.wrap (aV .u64 (IntKind.u64.wrap (a+b)) 1))+m)-sx)))&&(decide ((((IntKind.i64.wrap (aV .u64 (IntKind.u64.wrap (a+b)) 1))+m)-sx) <b)))) (w:= .bool false) (by rw[Tc]<;>rfl) ?_
     exact zK hj
    refine zD 1<|js 213 ((decide ((IntKind.i64.wrap (aV .u64 (IntKind.u64.wrap (a+b)) 1)) <(((IntKind.i64.wrap (aV .u64 (IntKind.u64.wrap (a+b)) 1))+m)-sx)))&&(decide ((((IntKind.i64.wrap (aV .u64 (IntKind.u64.wrap (a+b)) 1))+m)-sx) <b))) (fun h29=>?_) (fun h29=>?_)
    ·
     try simp only[zB] at h29
     refine zD 7<|jc (vs:=[v,zI (IntKind.i64.wrap (aV .u64 (IntKind.u64.wrap (a+b)) 1)),zI (((IntKind.i64.wrap (aV .u64 (IntKind.u64.wrap (a+b)) 1))+m)-sx),zI b,.func (.func 119) ⟨[]⟩ ⟨[]⟩]) [0] (ih _ (show (b-(IntKind.i64.wrap (aV .u64 (IntKind.u64.wrap (a+b)) 1))).toNat <n by omega) _ _ _ _ _ _ _ hB.2 (by omega) hyp (by omega) rfl) ?_
     rintro bcd aZW ⟨bbi,aif,aGQ⟩
     have aTW:=aif.length_eq
     have aTS:=ia.perm hyp aif
     refine zD 1<|zR (.tuple ⟨[]⟩) [] [0] aZW ⟨_,(aif.trans hB.1),aGQ⟩
    try simp only[zB] at h29
    refine zD 2<|zR (.tuple ⟨[]⟩) [] [0] L ⟨_,hB.1,hB.2⟩
   refine js 199 ((decide (a <sx))&&(decide (sx <(IntKind.i64.wrap (aV .u64 (IntKind.u64.wrap (a+b)) 1))))) (fun Pd=>?_) (fun Pd=>?_)
   ·
    try simp only[zB] at Pd
    refine zD 7<|jc (vs:=[v,zI a,zI sx,zI (IntKind.i64.wrap (aV .u64 (IntKind.u64.wrap (a+b)) 1)),.func (.func 119) ⟨[]⟩ ⟨[]⟩]) [0] (ih _ (show ((IntKind.i64.wrap (aV .u64 (IntKind.u64.wrap (a+b)) 1))-a).toNat <n by omega) _ _ _ _ _ _ _ hA.2 (by omega) hyp (by omega) rfl) ?_
    rintro bcf aZX ⟨aBE,aih,aGS⟩
    have aTX:=aih.length_eq
    have aTT:=ia.perm hyp aih
    refine zD 1<|bF acL ⟨aBE,aZX⟩ ⟨(aih.trans hA.1),aGS⟩ Nat.zero_lt_one [0] (Sub.refl _)
   try simp only[zB] at Pd
   refine zD 2<|bF acL ⟨ys,L⟩ ⟨hA.1,hA.2⟩ Nat.zero_lt_one [0] (Sub.refl _)
  refine js 185 ((decide (sx <m))&&(decide (m <(((IntKind.i64.wrap (aV .u64 (IntKind.u64.wrap (a+b)) 1))+m)-sx)))) (fun Tb=>?_) (fun Tb=>?_)
  ·
   try simp only[zB] at Tb
   refine zD 7<|jc (vs:=[v,zI sx,zI m,zI (((IntKind.i64.wrap (aV .u64 (IntKind.u64.wrap (a+b)) 1))+m)-sx),.func (.func 119) ⟨[]⟩ ⟨[]⟩]) [0] (aQ3 ho (by omega) hP (by omega)) ?_
   rintro bcg aZY ⟨aBF,aii,aGT⟩
   have aTY:=aii.length_eq
   have aTU:=ia.perm hP aii
   refine zD 1<|bF F6 ⟨aBF,aZY⟩ ⟨(aii.trans (.refl _)),aGT⟩ Nat.zero_lt_one [0] (Sub.refl _)
  try simp only[zB] at Tb
  refine zD 2<|bF F6 ⟨xs,L⟩ ⟨(.refl _),ho⟩ Nat.zero_lt_one [0] (Sub.refl _)
 refine zJ 140 (m>(IntKind.i64.wrap (aV .u64 (IntKind.u64.wrap (a+b)) 1))) (fun Ta=>?_) fun Ta=>?_
 ·
  refine zD 5<|zW (((IntKind.i64.wrap (aV .u64 (IntKind.u64.wrap (a+b)) 1))+m)-b)<|zD 6<|bF apK ⟨(((IntKind.i64.wrap (aV .u64 (IntKind.u64.wrap (a+b)) 1))+m)-b),(IntKind.i64.wrap (aV .u64 (IntKind.u64.wrap (a+b)) 1))⟩ (by dsimp only;omega) Nat.zero_lt_one [0] (Sub.refl _)
 refine zD 10<|bF apK ⟨a,m⟩ (by dsimp only;omega) Nat.zero_lt_one [0] (Sub.refl _)
theorem aQ2:∀n,aLB n:=by
 intro n
 induction n using Nat.strongRecOn with
 |_ n ih=>exact fun ro v xs L a m b ho hN hP Eh hn=>aDd ih ho hN hP Eh hn
theorem arv{v:Value}{xs:List aj}{L:Cells}{a m b:Int}(ho:aA v 8 138 cY xs L)(hN:xs.length≤100000)(hP:ia xs)(Eh:0≤a∧a <m∧m <b∧b≤xs.length):ee zT 219 [v,zI a,zI m,zI b,.func (.func 119) ⟨[]⟩ ⟨[]⟩] ro L (fun _ Y=>xY v xs Y):=
 aQ2 _ ro v xs L a m b ho hN hP Eh rfl
theorem aDe{v:Value}{xs:List aj}{L:Cells}(ho:aA v 8 138 cY xs L)(hN:xs.length≤100000)(hP:ia xs)(hn:n=xs.length):ee zT 168 [v,zI n,.func (.func 119) ⟨[]⟩ ⟨[]⟩] ro L (fun r Y=>xY v xs Y):=by
 refine zC [.l L]<|zD 12<|dH [1,1,0,0,0] [] (fun(zz:Int×Int×(List aj)×Cells)=>[(0,v),(1,zI n),(2,.func (.func 119) ⟨[]⟩ ⟨[]⟩),(6,zI 20),(7,zI zz.1),(8,zI zz.2.1)]) (fun zz=>[.l zz.2.2.2]) (fun zz=>(zz.2.1=zz.1+20∧0≤zz.1∧zz.1≤n)∧aA v 8 138 cY zz.2.2.1 zz.2.2.2∧zz.2.2.1.Perm xs) (fun zz=>(n-zz.1).toNat) (⟨0,20,xs,L⟩) ⟨by dsimp only;omega,ho,.refl _⟩ [0] ?_
 rintro⟨a,b,ys,L⟩ hI K1 bP rest
 dsimp only at hI
 have ZN:=hI.2.2.length_eq
 have hyp:=hP.perm hI.2.2
 refine zD 7<|zJ 13 (b≤n) (fun h1=>?_) fun h1=>?_
 ·
  refine zD 9<|jc (vs:=[v,zI a,zI b,.func (.func 119) ⟨[]⟩ ⟨[]⟩]) [0] (aDg hI.2.1 (by omega) hyp (by omega)) ?_
  rintro bgL Y18 ⟨aOF,SF,acw⟩
  have bdu:=SF.length_eq
  have bdm:=ia.perm hyp SF
  refine zD 9<|zW (b+20)<|zD 2<|zF bP (⟨b,(b+20),aOF,Y18⟩) ⟨acw,(SF.trans hI.2.2)⟩ [0]
 refine zD 8<|jc (vs:=[v,zI a,zI n,.func (.func 119) ⟨[]⟩ ⟨[]⟩]) [0] (aDg hI.2.1 (by omega) hyp (by omega)) ?_
 rintro bgK Y27 ⟨bfM,axd,aU8⟩
 have bdt:=axd.length_eq
 have bdl:=ia.perm hyp axd
 refine zD 2<|dH [1,1,1,1,0,0] [] (fun(zz:Int×(List aj)×Cells)=>[(0,v),(1,zI n),(2,.func (.func 119) ⟨[]⟩ ⟨[]⟩),(6,zI zz.1)]) (fun zz=>[.l zz.2.2]) (fun zz=>(20≤zz.1∧zz.1≤1000000)∧aA v 8 138 cY zz.2.1 zz.2.2∧zz.2.1.Perm xs) (fun zz=>(n-zz.1).toNat) (⟨20,_,_⟩) ⟨by dsimp only;omega,aU8,axd.trans hI.2.2⟩ [0] ?_
 rintro⟨bz,ys,L⟩ hJ K2 lL rest
 dsimp only at hJ
 have ZN:=hJ.2.2.length_eq
 have hyp:=hP.perm hJ.2.2
 refine zD 7<|zJ 30 (bz <n) (fun h2=>?_) fun h2=>?_
 ·
  refine zD 6<|zW (2*bz)<|zD 5<|dH [1,1,1,1,0,0,1,0,1,0,0,0] [K2] (fun(zz:Int×Int×(List aj)×Cells)=>[(0,v),(1,zI n),(2,.func (.func 119) ⟨[]⟩ ⟨[]⟩),(6,zI bz),(7,zI zz.1),(8,zI zz.2.1)]) (fun zz=>[.l zz.2.2.2]) (fun zz=>(zz.2.1=zz.1+2*bz∧0≤zz.1∧zz.1≤n)∧aA v 8 138 cY zz.2.2.1 zz.2.2.2∧zz.2.2.1.Perm xs) (fun zz=>(n-zz.1).toNat) (⟨0,(2*bz),ys,L⟩) ⟨by dsimp only;omega,hJ.2⟩ [0] ?_
  rintro⟨a,b,ys,L⟩ hK K3 J0 rest
  dsimp only at hK
  have ZN:=hK.2.2.length_eq
  have hyp:=hP.perm hK.2.2
  refine zD 7<|zJ 35 (b≤n) (fun h3=>?_) fun h3=>?_
  ·
   refine zD 9<|zW (a+bz)<|zD 2<|jc (vs:=[v,zI a,zI (a+bz),zI b,.func (.func 119) ⟨[]⟩ ⟨[]⟩]) [0] (arv hK.2.1 (by omega) hyp (by omega)) ?_
   rintro bgH Y43 ⟨aOC,axa,aU4⟩
   have bdq:=axa.length_eq
   have bdj:=ia.perm hyp axa
   refine zD 9<|zW (2*bz)<|zW (b+(2*bz))<|zD 2<|zF J0 (⟨b,(b+(2*bz)),aOC,Y43⟩) ⟨aU4,(axa.trans hK.2.2)⟩ [0]
  refine zD 7<|zW (a+bz)<|zD 8<|zJ 54 ((a+bz) <n) (fun h4=>?_) fun h4=>?_
  ·
   refine zD 7<|jc (vs:=[v,zI a,zI (a+bz),zI n,.func (.func 119) ⟨[]⟩ ⟨[]⟩]) [0] (arv hK.2.1 (by omega) hyp (by omega)) ?_
   rintro bgE Y60 ⟨aOA,aie,OX⟩
   have bdn:=aie.length_eq
   have bdg:=ia.perm hyp aie
   refine zD 3<|zW (bz*2)<|zD 2<|zF lL (⟨(bz*2),aOA,Y60⟩) ⟨OX,(aie.trans hK.2.2)⟩ [0]
  refine zD 4<|zW (bz*2)<|zD 2<|zF lL (⟨(bz*2),ys,L⟩) ⟨hK.2.1,hK.2.2⟩ [0]
 refine zD 2<|zR (.tuple ⟨[]⟩) [] [0] L ⟨_,hJ.2.2,hJ.2.1⟩
theorem Rh{v:Value}{xs:List aj}{L:Cells}(ho:aA v 8 138 cY xs L)(hN:xs.length≤100000)(hP:ia xs):ee zT 118 [v,.func (.func 119) ⟨[]⟩ ⟨[]⟩] ro L (fun r Y=>xY v xs Y):=by
 refine zC [.l L]<|zD 3<|FP ho<|zD 1<|jc (vs:=[v,zI (xs.length:Int),.func (.func 119) ⟨[]⟩ ⟨[]⟩]) [0] (aDe ho (by omega) hP rfl) ?_
 rintro rv8 Y8 ⟨ys8,hp8,ho8⟩
 have biZ:=hp8.length_eq
 have biY:=ia.perm hP hp8
 refine zD 1<|zR (.tuple ⟨[]⟩) [] [0] Y8 ⟨_,hp8,ho8⟩
end Go.L
