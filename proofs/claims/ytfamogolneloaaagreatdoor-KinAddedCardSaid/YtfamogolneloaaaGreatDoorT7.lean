/- Part 7 of the proof. -/
import Derived.Test.YtfamogolneloaaaGreatDoorT6
set_option maxRecDepth 100000
set_option linter.all false
namespace Go.L
open Go Go.Conc Go.Proofs
variable {ro:Nat→Option Obj} {hd:List cy} {cs:List bO} {f t:ByteArray} {k i b sz:Nat} {l:List Value} {α β:Type} {xs ys:List ByteArray} {fs:List bK} {K:aE} {x:aB} {vc vh vp c11 vd c0 c1 c5 c6 c7 vt:Value} {r n ab gone new lo hi:Int}
set_option maxHeartbeats 2000000 in
theorem aUb {d:Nat} {X:Cells} {xs:List Int} {np nf:Int} (hN:Dn ro vd xs) (hD:bP vd xs d X) (hnp:0≤np∧np≤4) (hnf:0≤nf∧nf≤4):FnG zT 8 [zP d,zI np,zI nf] ro X (fun r aF Y=>∃(K:aE) (l:List Value),r= .agg ⟨l⟩∧TR K∧(K.facts.length:Int)≤nf∧eR aF l K∧bP vd xs d Y):=by
 refine aDY (hm:=ar) [.l X] [] aU<|zD 2<|jn fun b6=>zD 4<|jc [1] (apf hN hD) ?_
 rintro _ _ ⟨lA,kH,V6,Qi,aZw,Z18,X18,rfl,Iu,DI,aSJ,rfl,OT⟩
 refine jg 0 [.l Z18,.l X18]<|jf [0] Z18 (fun yt bL iJ=>?_)
 have nF:=aSJ _ iJ
 obtain⟨hc,hh,dr⟩:=id nF
 obtain⟨dS,yw,yu,dP,rfl,AR,vK,vJ⟩:=hc
 obtain⟨dC,s9,s8,de,rfl,uX,pJ,pH⟩:=hh
 refine zD 2<|jn fun b21=>zD 2<|jn fun Jp=>jn fun oF=>zD 3<|jn fun b7=>jd 5 [0]<|jf [1,2,3] ((oF,.cells ⟨[.slice (some ⟨b21,0,none⟩) 2 2,.slice (some ⟨Jp,0,none⟩) 2 2]⟩ 74 (0,0))::((Jp,.cells ⟨[zI 1,zI 0,zI 3,zI 0]⟩ 73 (0,0))::[(b21,.cells ⟨[zI 1,zI 0,zI 2,zI 0]⟩ 73 (0,0))])) (fun ro6 kV Zm=>?_)
 have aSK:=UI (Zm _ (.tail _ (.tail _ (.head _)))) (Zm _ (.tail _ (.head _))) (Zm _ (.head _))
 refine zD 1<|jc (vs:=[zP d,zI 2]) [1] (tG (hN.up (bL.trans kV)) OT (by omega)) ?_
 rintro _ X30 ⟨w30,rfl,aGC⟩
 refine zD 1<|EL [1,1,1] [] (fun(zz:Value×Cells×(List (List aL))×Cells)=>[(0,zP d),(1,zI np),(2,zI nf),(6,zP b6),(7,zP b7)]) (fun(zz:Value×Cells×(List (List aL))×Cells)=>[.l zz.2.1,.l zz.2.2.2,.b b7 (.cells ⟨[.slice (some ⟨oF,0,none⟩) 2 2,zz.1,zS,.slice dS lA.length dP,.slice dC kH.length de,zS,zS,zS,zI 0,zI 0,zI 0,zS]⟩ 40 (0,0)),.b b6 (.cells ⟨zO⟩ 40 (0,0))]) (fun(zz:Value×Cells×(List (List aL))×Cells)=>(∀kU,Knows kU zz.2.1→mz kU zz.1 zz.2.2.1)∧(zz.2.2.1.length≤1∧∀l∈zz.2.2.1,(1≤l.length∧l.length≤2)∧∀c∈l,j5 c)∧bP vd xs d zz.2.2.2) ?_ (fun K1 bE=>?_)
 ·
  rintro⟨vT,LT,ways,X⟩ Uf rest
  dsimp only at Uf
  refine zD 2<|jf [0] LT (fun ro9 sw hk8=>?_)
  have aGr:=Uf.1 _ hk8
  obtain⟨Um,ht,_⟩:=id aGr
  obtain⟨eB,yM,yK,dH,rfl,yL,qt,qp⟩:=ht
  refine zD 1<|jc (vs:=[zP d,zI 2]) [0] (ayC (hN.up ((bL.trans kV).trans sw)) Uf.2.2 (by decide)) ?_
  rintro v60 _ ⟨NT,L60,X60,Oy,ah3,ahs,rfl,aTp⟩
  refine jg 0 [.l L60,.l X60]<|zD 8<|nB<|dL [1,1,1,1,0,1,0,0] [] (fun(zz:Nat×Value×Cells×(List cR))=>[(0,zP d),(1,zI np),(2,zI nf),(6,zP b6),(7,zP b7),(8,v60),(9,zI (zz.1:Int))]) (fun zz=>[.l zz.2.2.1,.l X60,.b b7 (.cells ⟨[.slice (some ⟨oF,0,none⟩) 2 2,.slice eB Um.length dH,zS,.slice dS lA.length dP,.slice dC kH.length de,zz.2.1,zS,zS,zI 0,zI 0,zI 0,zS]⟩ 40 (0,0)),.l L60,.b b6 (.cells ⟨zO⟩ 40 (0,0))]) (fun zz=>(zz.1≤NT.length∧zz.2.2.2.length≤zz.1)∧aw zz.2.1 2 84 fW zz.2.2.2 zz.2.2.1∧∀r∈zz.2.2.2,Jx r) (fun zz=>NT.length-zz.1) (⟨0,zS,[],[]⟩) ⟨by simp,aw.nil _ _ _,(fun _ h=>by cases h)⟩ [0,2,3,1,4] ?_
  rintro⟨i,vR,LR,rs⟩ hR K2 lG rest
  dsimp only at hR
  refine zD 5<|Fy Oy<|zD 2<|zJ 64 ((i:Int) <(NT.length:Int)) (fun DM=>?_) fun DM=>?_
  ·
   refine zD 8 ?_
   obtain⟨Uk,abH⟩:=zG NT i
   refine YT 2 Oy abH fun b69 axE=>zD 1<|oQ 0 [3] L60 (fun s _ hZ=>cJ Oy axE hZ abH)<|zD 2 ?_
   obtain⟨x74,abF⟩:=zG NT i
   refine YT 2 Oy abF fun b74 aSf=>zD 1<|oQ 1 [3] L60 (fun s _ hZ=>cJ Oy aSf hZ abF)<|zD 2<|js 77 (!(cI Uk.f x74.t)) (fun BT=>?_) (fun BT=>?_)
   ·
    try simp only[zB] at BT
    refine jd 6 [2] ?_
    obtain⟨F8,VF⟩:=zG NT i
    refine YT 2 Oy VF fun b82 aSb=>oQ 0 [3] L60 (fun s _ hZ=>cJ Oy aSb hZ VF)<|aS 6 fun rZ r8 qM=>jn fun b84=>ep qM (zN 1 5)<|aS 7 fun sL sR qL=>gL (sz:=2) (ps:=rs) (qs:=[(⟨F8.f,F8.t⟩:cR)]) (enc:=fW) (w:= .slice (some ⟨b84,0,none⟩) 1 1) [1] [0] [(b84,.cells ⟨([(⟨F8.f,F8.t⟩:cR)].map fW).flatten⟩ 84 (0,0))] (hR.2.1) (fun s _ hZ=>bN [(⟨F8.f,F8.t⟩:cR)] (hZ _ (.head _)) (by intro p hp;rfl)) (fun p _=>ah rfl) (by simp<;>omega) (fun v85 L85 ahz=>?_)
    obtain⟨aLG,aLf,aRt⟩:=ahz.form
    subst aRt
    refine fR qL []<|zD 1<|aS 9 fun A0 Bm Au=>jd 1 [3]<|gA Au<|zD 3<|ja ((i:Int)+1) (by omega)<|zD 2<|bF lG (⟨i+1,(.slice aLG ((rs++[(⟨F8.f,F8.t⟩:cR)])).length aLf),L85,(rs++[(⟨F8.f,F8.t⟩:cR)])⟩) ⟨by simp only[zM];omega,ahz,ny hR.2.2 (ahs _ (zL VF))⟩ (by omega) [0,2,3,4,5] (Sub.refl _)
   try simp only[zB] at BT
   refine zD 4<|ja ((i:Int)+1) (by omega)<|zD 2<|bF lG (⟨i+1,vR,LR,rs⟩) ⟨by dsimp only;omega,hR.2⟩ (by omega) (zN 0 5) (Sub.refl _)
  refine zD 4<|jf [0] LR (fun baa jz aQ1=>?_)
  have hRU:=hR.2.1.jC aQ1
  refine jd 3 [1]<|jn fun lV=>jd 7 [0]<|jc (vs:=[zP d,zI np]) [1] (FR (hN.up (((bL.trans kV).trans sw).trans jz)) aTp (by omega)) ?_
  rintro _ X92 ⟨w92,rfl,bcl,bcg,aTk⟩
  refine zD 3<|nB<|dL [1,1,1,1,1,1,0,1,0,0] [] (fun(zz:Int×Value×Cells×(List aB)×Cells)=>[(0,zP d),(1,zI np),(2,zI nf),(6,zP b6),(7,zP b7),(10,zP lV),(11,zI zz.1)]) (fun zz=>[.l zz.2.2.1,.l zz.2.2.2.2,.b lV (.cells ⟨[zI 2,zI 0,zI 0,.slice dS lA.length dP,.slice dC kH.length de,zS,zS]⟩ 86 (0,0)),.b b7 (.cells ⟨[.slice (some ⟨oF,0,none⟩) 2 2,.slice eB Um.length dH,zS,.slice dS lA.length dP,.slice dC kH.length de,vR,zz.2.1,zS,zI 0,zI 0,zI 0,zS]⟩ 40 (0,0)),.b b6 (.cells ⟨zO⟩ 40 (0,0))]) (fun zz=>(0≤zz.1∧zz.2.2.2.1.length+zz.1≤4)∧aw zz.2.1 5 44 di zz.2.2.2.1 zz.2.2.1∧(∀p∈zz.2.2.2.1,akW V6 p)∧bP vd xs d zz.2.2.2.2) (fun zz=>zz.1.toNat) (⟨w92,zS,[],[],X92⟩) ⟨by simp only[List.length_nil];omega,aw.nil _ _ _,(fun _ h=>by cases h),aTk⟩ [0,1,2,3,5] ?_
  rintro⟨j,vB,LB,ve,X⟩ hB K6 hK6 rest
  dsimp only at hB
  refine zD 6<|zJ 94 (j>0) (fun OW=>?_) fun OW=>?_
  ·
   refine zD 5<|EL [1,1,1,1,1,1,0,1,0,0,1,0,0,1] [K6] (fun(zz:Nat×aB×Cells)=>[(0,zP d),(1,zI np),(2,zI nf),(6,zP b6),(7,zP b7),(10,zP lV),(11,zI j),(12,zP zz.1)]) (fun zz=>[.b zz.1 (.cells ⟨[.string zz.2.1.name,zI zz.2.1.st,zI zz.2.1.no,zI zz.2.1.head,.bool zz.2.1.bold]⟩ 44 (0,0)),.l LB,.l zz.2.2,.b lV (.cells ⟨[zI 2,zI 0,zI 0,.slice dS lA.length dP,.slice dC kH.length de,zS,zS]⟩ 86 (0,0)),.b b7 (.cells ⟨[.slice (some ⟨oF,0,none⟩) 2 2,.slice eB Um.length dH,zS,.slice dS lA.length dP,.slice dC kH.length de,vR,vB,zS,zI 0,zI 0,zI 0,zS]⟩ 40 (0,0)),.b b6 (.cells ⟨zO⟩ 40 (0,0))]) (fun zz=>(PC zz.2.1.name∧ou V6 zz.2.1.head∧(0≤zz.2.1.st∧zz.2.1.st≤1))∧bP vd xs d zz.2.2) ?_ (fun K7 hK7=>?_)
   ·
    rintro⟨xv,pp,X⟩ ai2 rest
    dsimp only at ai2
    refine zD 3<|jc (vs:=[zP d,zI 1,zI 2]) [2] (B8 (hN.up (((bL.trans kV).trans sw).trans jz)) ai2.2 (by omega) (by omega)) ?_
    rintro _ aUZ ⟨aK8,rfl,aXw,aXm,arX⟩
    refine jd 10 [1,1]<|EL [1,1,1,1,1,1,0,1,0,0,1,0,0,1,1,1] [K6] (fun(zz:Int×Cells)=>[(0,zP d),(1,zI np),(2,zI nf),(6,zP b6),(7,zP b7),(10,zP lV),(11,zI j),(12,zP xv)]) (fun zz=>[.b xv (.cells ⟨[.string pp.name,zI pp.st,zI zz.1,zI pp.head,.bool pp.bold]⟩ 44 (0,0)),.l LB,.l zz.2,.b lV (.cells ⟨[zI 2,zI 0,zI 0,.slice dS lA.length dP,.slice dC kH.length de,zS,zS]⟩ 86 (0,0)),.b b7 (.cells ⟨[.slice (some ⟨oF,0,none⟩) 2 2,.slice eB Um.length dH,zS,.slice dS lA.length dP,.slice dC kH.length de,vR,vB,zS,zI 0,zI 0,zI 0,zS]⟩ 40 (0,0)),.b b6 (.cells ⟨zO⟩ 40 (0,0))]) (fun zz=>((pp.st=0→zz.1=1∨zz.1=2)∧(pp.st=1→zz.1=1∨zz.1=3))∧bP vd xs d zz.2) ?_ (fun K8 hK8=>?_)
    ·
     rintro⟨q,X⟩ aoQ rest
     dsimp only at aoQ
     refine jd 7 [0]<|EL [1,1,1,1,1,1,0,1,0,0,1,0,0,1,1,1,1,0,1] [K6] (fun(zz:Bool×Cells)=>[(0,zP d),(1,zI np),(2,zI nf),(6,zP b6),(7,zP b7),(10,zP lV),(11,zI j),(12,zP xv),(120,.bool zz.1)]) (fun zz=>[.b xv (.cells ⟨[.string pp.name,zI pp.st,zI q,zI pp.head,.bool false]⟩ 44 (0,0)),.l LB,.l zz.2,.b lV (.cells ⟨[zI 2,zI 0,zI 0,.slice dS lA.length dP,.slice dC kH.length de,zS,zS]⟩ 86 (0,0)),.b b7 (.cells ⟨[.slice (some ⟨oF,0,none⟩) 2 2,.slice eB Um.length dH,zS,.slice dS lA.length dP,.slice dC kH.length de,vR,vB,zS,zI 0,zI 0,zI 0,zS]⟩ 40 (0,0)),.b b6 (.cells ⟨zO⟩ 40 (0,0))]) (fun zz=>(zz.1=true→0 <ve.length)∧bP vd xs d zz.2) ?_ (fun K9 hK9=>?_)
     ·
      rintro⟨g,X⟩ ai1 rest
      dsimp only at ai1
      refine EL [1,1,1,1,1,1,0,1,0,0,1,0,0,1,1,1,1,1] [K6] (fun(zz:aB×Cells)=>[(0,zP d),(1,zI np),(2,zI nf),(6,zP b6),(7,zP b7),(10,zP lV),(11,zI j),(12,zP xv)]) (fun zz=>[.b xv (.cells ⟨[.string zz.1.name,zI zz.1.st,zI zz.1.no,zI zz.1.head,.bool zz.1.bold]⟩ 44 (0,0)),.l LB,.l zz.2,.b lV (.cells ⟨[zI 2,zI 0,zI 0,.slice dS lA.length dP,.slice dC kH.length de,zS,zS]⟩ 86 (0,0)),.b b7 (.cells ⟨[.slice (some ⟨oF,0,none⟩) 2 2,.slice eB Um.length dH,zS,.slice dS lA.length dP,.slice dC kH.length de,vR,vB,zS,zI 0,zI 0,zI 0,zS]⟩ 40 (0,0)),.b b6 (.cells ⟨zO⟩ 40 (0,0))]) (fun zz=>akW V6 zz.1∧bP vd xs d zz.2) ?_ (fun K10 aGy=>?_)
      ·
       rintro⟨p2,X⟩ ax1 rest
       dsimp only at ax1
       refine jd 4 [4,0]<|jn fun aIa=>gL (sz:=5) (ps:=ve) (qs:=[(⟨p2.name,p2.st,p2.no,p2.head,p2.bold⟩:aB)]) (enc:=di) (w:= .slice (some ⟨aIa,0,none⟩) 1 1) [2] [0] [(aIa,.cells ⟨([(⟨p2.name,p2.st,p2.no,p2.head,p2.bold⟩:aB)].map di).flatten⟩ 44 (0,0))] (hB.2.1) (fun s _ hZ=>bN [(⟨p2.name,p2.st,p2.no,p2.head,p2.bold⟩:aB)] (hZ _ (.head _)) (by intro p hp;rfl)) (fun p _=>ah rfl) (by simp<;>omega) (fun aZM aVm Ze=>?_)
       obtain⟨aA0,aAS,aFT⟩:=Ze.form
       subst aFT
       refine jd 5 [5]<|ja (j-1) (by omega)<|zD 2<|bF hK6 (⟨j-1,(.slice aA0 ((ve++[(⟨p2.name,p2.st,p2.no,p2.head,p2.bold⟩:aB)])).length aAS),aVm,(ve++[(⟨p2.name,p2.st,p2.no,p2.head,p2.bold⟩:aB)]),X⟩) ⟨by simp only[zM];omega,Ze,ny hB.2.2.1 ax1.1,ax1.2⟩ (by omega) [0,3,4,5,6] (Sub.refl _)
      refine js 120 g (fun PZ=>?_) (fun PZ=>?_)
      ·
       subst PZ
       refine jd 7 [4,4]<|Fy hB.2.1<|ja ((ve.length:Int)-1) (by omega)<|aS 7 fun Eh Eo wQ=>jc (vs:=[zP d,zI ((ve.length:Int)-1)]) [2] (FR (hN.up (((bL.trans kV).trans sw).trans jz)) ai1.2 (by omega)) ?_
       rintro _ aUW ⟨adI,rfl,aXv,ag8,aGP⟩
       refine fR wQ [[4],[4]] ?_
       obtain⟨aKS,ag7⟩:=zG ve (adI.toNat) (by have:=ai1.1 rfl;omega)
       refine qA adI 5 hB.2.1 ag7 (Int.toNat_of_nonneg (show 0≤adI∧adI <((ve).length:Int) from (by have:=ai1.1 rfl;omega)).1).symm (fun be3 aGh=>?_)
       refine oQ 0 [2] LB (fun s _ hZ=>cJ hB.2.1 aGh hZ ag7)<|aS 10 fun GC GS wP=>jd 1 [1]<|gA wP<|zD 1<|bF aGy ⟨aKS,aUW⟩ ⟨hB.2.2.1 _ (zL ag7),aGP⟩ Nat.zero_lt_one [1,2,0,3,4,5] (Sub.refl _)
      subst PZ
      refine zD 2<|bF aGy ⟨⟨pp.name,pp.st,q,pp.head,false⟩,X⟩ ⟨⟨⟨ai2.1.1,ai2.1.2.1,ai2.1.2.2,rfl⟩,aoQ.1⟩,ai1.2⟩ Nat.zero_lt_one (zN 0 6) (Sub.refl _)
     refine jd 3 [4]<|Fy hB.2.1<|zD 2<|js 117 (decide ((ve.length:Int)>0)) (fun MK=>?_) (fun MK=>?_)
     ·
      have ajn:=MK
      replace ajn:=of_decide_eq_true ajn
      refine zD 1<|jc (vs:=[zP d,zI 5]) [2] (tG (hN.up (((bL.trans kV).trans sw).trans jz)) aoQ.2 (by omega)) ?_
      rintro _ aUX ⟨aK5,rfl,aGQ⟩
      refine zD 2<|bF hK9 ⟨aK5,aUX⟩ ⟨fun _=>by omega,aGQ⟩ Nat.zero_lt_one [1,2,0,3,4,5] (Sub.refl _)
     have ajn:=MK
     replace ajn:=of_decide_eq_false ajn
     refine zD 4<|bF hK9 ⟨false,X⟩ ⟨(fun h=>by cases h),aoQ.2⟩ Nat.zero_lt_one (zN 0 6) (Sub.refl _)
    refine zJ 107 (pp.st=1) (fun Gw=>?_) fun Gw=>?_
    ·
     refine zD 3<|jn fun aIc=>jcL (vs:=[zP d,.slice (some ⟨aIc,0,none⟩) 2 2]) [1] [0] [(aIc,.cells ⟨([1,3].map cD).flatten⟩ 3 (0,0))] (fun aF hs hZ=>akf ((hN.up (((bL.trans kV).trans sw).trans jz)).up hs) arX (bV [1,3] hZ.head (by intro p hp;rfl)) (by simp)) ?_
     rintro _ aUY ⟨aK6,rfl,aEk,aGR⟩
     refine jd 3 [2]<|bF hK8 ⟨aK6,aUY⟩ ⟨⟨(fun h=>by omega),(fun _=>by simpa using aEk)⟩,aGR⟩ Nat.zero_lt_one [2,3,0,4,5,6] (Sub.refl _)
    refine zD 2<|bF hK8 ⟨aK8,aUZ⟩ ⟨⟨(fun _=>by dsimp only;omega),(fun h=>by omega)⟩,arX⟩ Nat.zero_lt_one [1,2,0,3,4,5] (Sub.refl _)
   refine jd 4 [2]<|Gm [3,5] ⟨fun z13 t14 aiX=>?_,fun z16 t17 OP=>?_,trivial⟩
   ·
    refine jc [1] (ZO (hN.up (((bL.trans kV).trans sw).trans jz)) hB.2.2.2) ?_
    rintro _ aU0 ⟨al8,rfl,Y1,ZA⟩
    refine fR aiX [[2]]<|Gm [4,5] ⟨fun z19 t20 ab5=>?_,fun z22 t23 aiW=>?_,trivial⟩
    ·
     refine jc (vs:=[zP d,.agg ⟨[zI 2,zI 0,zI 0,.slice dS lA.length dP,.slice dC kH.length de,zS,zS]⟩,.string al8]) [0] (xZ (hN.up (((bL.trans kV).trans sw).trans jz)) ZA ((((show a8 _ _ _ _ _ from ⟨dC,s9,s8,de,rfl,uX,pJ,pH⟩).up kV).up sw).up jz) (by have:=DI.len;have:=Iu.nh;omega)) ?_
     rintro _ akS ⟨aAO,rfl,Sv,Sj,SE,SR⟩
     refine gA ab5<|aS 5 fun ap2 aqp OL=>jn fun xv=>gA OL<|aS 6 fun Xo XB BS=>jd 1 [0]<|gA BS<|zD 1<|bF hK7 ⟨xv,_,akS⟩ ⟨⟨Sv▸Y1,xT DI SE,Sj⟩,SR⟩ Nat.zero_lt_one [0,2,1,3,4,5] (Sub.refl _)
    refine jn fun xv=>ep aiW (zN 1 5)<|aS 4 fun KS K0 DJ=>jc (vs:=[zP d,.agg ⟨[zI 2,zI 0,zI 0,.slice dS lA.length dP,.slice dC kH.length de,zS,zS]⟩,.string al8]) [1] (xZ (hN.up (((bL.trans kV).trans sw).trans jz)) ZA ((((show a8 _ _ _ _ _ from ⟨dC,s9,s8,de,rfl,uX,pJ,pH⟩).up kV).up sw).up jz) (by have:=DI.len;have:=Iu.nh;omega)) ?_
    rintro _ akS ⟨aAO,rfl,Sv,Sj,SE,SR⟩
    refine gA DJ<|aS 6 fun Qa Qx Iw=>jd 1 [1]<|gA Iw<|zD 1<|bF hK7 ⟨xv,_,akS⟩ ⟨⟨Sv▸Y1,xT DI SE,Sj⟩,SR⟩ Nat.zero_lt_one [1,2,0,3,4,5] (Sub.refl _)
   refine jn fun xv=>ep OP (zN 1 5)<|aS 3 fun P9 Qw Iv=>jc [2] (ZO (hN.up (((bL.trans kV).trans sw).trans jz)) hB.2.2.2) ?_
   rintro _ aU0 ⟨al8,rfl,Y1,ZA⟩
   refine fR Iv [[3]]<|aS 4 fun adp aef Wk=>jc (vs:=[zP d,.agg ⟨[zI 2,zI 0,zI 0,.slice dS lA.length dP,.slice dC kH.length de,zS,zS]⟩,.string al8]) [0] (xZ (hN.up (((bL.trans kV).trans sw).trans jz)) ZA ((((show a8 _ _ _ _ _ from ⟨dC,s9,s8,de,rfl,uX,pJ,pH⟩).up kV).up sw).up jz) (by have:=DI.len;have:=Iu.nh;omega)) ?_
   rintro _ akS ⟨aAO,rfl,Sv,Sj,SE,SR⟩
   refine gA Wk<|aS 6 fun ado aee SP=>jd 1 [1]<|gA SP<|zD 1<|bF hK7 ⟨xv,_,akS⟩ ⟨⟨Sv▸Y1,xT DI SE,Sj⟩,SR⟩ Nat.zero_lt_one [1,2,0,3,4,5] (Sub.refl _)
  refine zD 7<|jc (vs:=[zP d,zI np]) [1] (FR (hN.up (((bL.trans kV).trans sw).trans jz)) hB.2.2.2 (by omega)) ?_
  rintro _ aUV ⟨aK3,rfl,aXu,aXl,aGO⟩
  refine zD 3<|nB<|dL [1,1,1,1,1,1,1,0,1,0,0] [] (fun(zz:Int×Value×Cells×(List aB)×Cells)=>[(0,zP d),(2,zI nf),(6,zP b6),(7,zP b7),(10,zP lV),(13,zI zz.1)]) (fun zz=>[.l zz.2.2.1,.l zz.2.2.2.2,.l LB,.b lV (.cells ⟨[zI 2,zI 0,zI 0,.slice dS lA.length dP,.slice dC kH.length de,zS,zS]⟩ 86 (0,0)),.b b7 (.cells ⟨[.slice (some ⟨oF,0,none⟩) 2 2,.slice eB Um.length dH,zS,.slice dS lA.length dP,.slice dC kH.length de,vR,vB,zz.2.1,zI 0,zI 0,zI 0,zS]⟩ 40 (0,0)),.b b6 (.cells ⟨zO⟩ 40 (0,0))]) (fun zz=>(0≤zz.1∧zz.2.2.2.1.length+zz.1≤4)∧aw zz.2.1 5 44 di zz.2.2.2.1 zz.2.2.1∧(∀p∈zz.2.2.2.1,akX V6 p)∧bP vd xs d zz.2.2.2.2) (fun zz=>zz.1.toNat) (⟨aK3,zS,[],[],aUV⟩) ⟨by simp only[List.length_nil];omega,aw.nil _ _ _,(fun _ h=>by cases h),aGO⟩ (zN 0 6) ?_
  rintro⟨j,vA,LA,Nb,X⟩ hA K32 aTb rest
  dsimp only at hA
  refine zD 6<|zJ 141 (j>0) (fun h35=>?_) fun h35=>?_
  ·
   refine zD 5<|EL [1,1,1,1,1,1,1,0,1,0,0,1,0,0,1] [K32] (fun(zz:Nat×aB×Cells)=>[(0,zP d),(2,zI nf),(6,zP b6),(7,zP b7),(10,zP lV),(13,zI j),(14,zP zz.1)]) (fun zz=>[.b zz.1 (.cells ⟨[.string zz.2.1.name,zI zz.2.1.st,zI zz.2.1.no,zI zz.2.1.head,.bool zz.2.1.bold]⟩ 44 (0,0)),.l LA,.l zz.2.2,.l LB,.b lV (.cells ⟨[zI 2,zI 0,zI 0,.slice dS lA.length dP,.slice dC kH.length de,zS,zS]⟩ 86 (0,0)),.b b7 (.cells ⟨[.slice (some ⟨oF,0,none⟩) 2 2,.slice eB Um.length dH,zS,.slice dS lA.length dP,.slice dC kH.length de,vR,vB,vA,zI 0,zI 0,zI 0,zS]⟩ 40 (0,0)),.b b6 (.cells ⟨zO⟩ 40 (0,0))]) (fun zz=>(PC zz.2.1.name∧ou V6 zz.2.1.head∧(0≤zz.2.1.st∧zz.2.1.st≤1))∧bP vd xs d zz.2.2) ?_ (fun K33 axZ=>?_)
   ·
    rintro⟨b14,pp,X⟩ ai0 rest
    dsimp only at ai0
    refine zD 3<|jc (vs:=[zP d,zI 1,zI 3]) [2] (B8 (hN.up (((bL.trans kV).trans sw).trans jz)) ai0.2 (by omega) (by omega)) ?_
    rintro _ aUT ⟨aAM,rfl,aXt,aXk,arU⟩
    refine jd 7 [1,1]<|EL [1,1,1,1,1,1,1,0,1,0,0,1,0,0,1,1,0,1] [K32] (fun(zz:Bool×Cells)=>[(0,zP d),(2,zI nf),(6,zP b6),(7,zP b7),(10,zP lV),(13,zI j),(14,zP b14),(161,.bool zz.1)]) (fun zz=>[.b b14 (.cells ⟨[.string pp.name,zI pp.st,zI aAM,zI pp.head,.bool false]⟩ 44 (0,0)),.l LA,.l zz.2,.l LB,.b lV (.cells ⟨[zI 2,zI 0,zI 0,.slice dS lA.length dP,.slice dC kH.length de,zS,zS]⟩ 86 (0,0)),.b b7 (.cells ⟨[.slice (some ⟨oF,0,none⟩) 2 2,.slice eB Um.length dH,zS,.slice dS lA.length dP,.slice dC kH.length de,vR,vB,vA,zI 0,zI 0,zI 0,zS]⟩ 40 (0,0)),.b b6 (.cells ⟨zO⟩ 40 (0,0))]) (fun zz=>(zz.1=true→0 <ve.length)∧bP vd xs d zz.2) ?_ (fun K34 aGw=>?_)
    ·
     rintro⟨g,X⟩ aiZ rest
     dsimp only at aiZ
     refine EL [1,1,1,1,1,1,1,0,1,0,0,1,0,0,1,1,1] [K32] (fun(zz:aB×Cells)=>[(0,zP d),(2,zI nf),(6,zP b6),(7,zP b7),(10,zP lV),(13,zI j),(14,zP b14)]) (fun zz=>[.b b14 (.cells ⟨[.string zz.1.name,zI zz.1.st,zI zz.1.no,zI zz.1.head,.bool zz.1.bold]⟩ 44 (0,0)),.l LA,.l zz.2,.l LB,.b lV (.cells ⟨[zI 2,zI 0,zI 0,.slice dS lA.length dP,.slice dC kH.length de,zS,zS]⟩ 86 (0,0)),.b b7 (.cells ⟨[.slice (some ⟨oF,0,none⟩) 2 2,.slice eB Um.length dH,zS,.slice dS lA.length dP,.slice dC kH.length de,vR,vB,vA,zI 0,zI 0,zI 0,zS]⟩ 40 (0,0)),.b b6 (.cells ⟨zO⟩ 40 (0,0))]) (fun zz=>akX V6 zz.1∧bP vd xs d zz.2) ?_ (fun K35 axY=>?_)
     ·
      rintro⟨p2,X⟩ ax0 rest
      dsimp only at ax0
      refine jd 4 [5,0]<|jn fun aH8=>gL (sz:=5) (ps:=Nb) (qs:=[(⟨p2.name,p2.st,p2.no,p2.head,p2.bold⟩:aB)]) (enc:=di) (w:= .slice (some ⟨aH8,0,none⟩) 1 1) [2] [0] [(aH8,.cells ⟨([(⟨p2.name,p2.st,p2.no,p2.head,p2.bold⟩:aB)].map di).flatten⟩ 44 (0,0))] (hA.2.1) (fun s _ hZ=>bN [(⟨p2.name,p2.st,p2.no,p2.head,p2.bold⟩:aB)] (hZ _ (.head _)) (by intro p hp;rfl)) (fun p _=>ah rfl) (by simp<;>omega) (fun aZL aVk Zd=>?_)
      obtain⟨aAZ,aAR,aFS⟩:=Zd.form
      subst aFS
      refine jd 5 [6]<|ja (j-1) (by omega)<|zD 2<|bF aTb (⟨j-1,(.slice aAZ ((Nb++[(⟨p2.name,p2.st,p2.no,p2.head,p2.bold⟩:aB)])).length aAR),aVk,(Nb++[(⟨p2.name,p2.st,p2.no,p2.head,p2.bold⟩:aB)]),X⟩) ⟨by simp only[zM];omega,Zd,ny hA.2.2.1 ax0.1,ax0.2⟩ (by omega) [0,3,4,5,6,7] (Sub.refl _)
     refine js 161 g (fun h36=>?_) (fun h36=>?_)
     ·
      subst h36
      refine jd 8 [5,5]<|Fy hB.2.1<|ja ((ve.length:Int)-1) (by omega)<|aS 7 fun adn aed OJ=>jc (vs:=[zP d,zI ((ve.length:Int)-1)]) [2] (FR (hN.up (((bL.trans kV).trans sw).trans jz)) aiZ.2 (by omega)) ?_
      rintro _ bfI ⟨adH,rfl,aXs,aXj,aGM⟩
      refine fR OJ [[5],[5]] ?_
      obtain⟨E7,Sc⟩:=zG ve (adH.toNat) (by have:=aiZ.1 rfl;omega)
      refine qA adH 5 hB.2.1 Sc (Int.toNat_of_nonneg (show 0≤adH∧adH <((ve).length:Int) from (by have:=aiZ.1 rfl;omega)).1).symm (fun be0 aGe=>?_)
      refine oQ 0 [3] LB (fun s _ hZ=>cJ hB.2.1 aGe hZ Sc)<|aS 10 fun adm aec Wi=>jd 1 [1]<|gA Wi<|zD 5<|jc (vs:=[zP d,zI 3]) [0] (tG (hN.up (((bL.trans kV).trans sw).trans jz)) aGM (by omega)) ?_
      rintro _ aUQ ⟨aK0,rfl,arT⟩
      refine zD 1<|EL [1,1,1,1,1,1,1,0,1,0,0,1,0,0,1,1,2,1,0,1,1] [K32,K35] (fun(zz:Int×Cells)=>[(0,zP d),(2,zI nf),(6,zP b6),(7,zP b7),(10,zP lV),(13,zI j),(14,zP b14)]) (fun zz=>[.b b14 (.cells ⟨[.string E7.name,zI E7.st,zI zz.1,zI E7.head,.bool E7.bold]⟩ 44 (0,0)),.l LA,.l zz.2,.l LB,.b lV (.cells ⟨[zI 2,zI 0,zI 0,.slice dS lA.length dP,.slice dC kH.length de,zS,zS]⟩ 86 (0,0)),.b b7 (.cells ⟨[.slice (some ⟨oF,0,none⟩) 2 2,.slice eB Um.length dH,zS,.slice dS lA.length dP,.slice dC kH.length de,vR,vB,vA,zI 0,zI 0,zI 0,zS]⟩ 40 (0,0)),.b b6 (.cells ⟨zO⟩ 40 (0,0))]) (fun zz=>(1≤zz.1∧zz.1≤3)∧bP vd xs d zz.2) ?_ (fun K38 aGv=>?_)
      ·
       rintro⟨q,X⟩ aoP rest
       dsimp only at aoP
       have hO:=hB.2.2.1 _ (zL Sc)
       have hO2:=hO.1.2.2.1
       have hO3:=hO.2
       refine zD 3<|jc (vs:=[zP d,zI 4]) [2] (tG (hN.up (((bL.trans kV).trans sw).trans jz)) aoP.2 (by omega)) ?_
       rintro _ aIs ⟨aKY,rfl,arS⟩
       refine zD 1<|js 178 aKY (fun h39=>?_) (fun h39=>?_)
       ·
        subst h39
        refine jd 5 [1]<|bF axY ⟨⟨E7.name,E7.st,q,-1,E7.bold⟩,aIs⟩ ⟨⟨⟨hO.1.1,.inl rfl,hO.1.2.2.1,hO.1.2.2.2⟩,aoP.1⟩,arS⟩ Nat.zero_lt_one [1,2,0,3,4,5,6] (Sub.refl _)
       subst h39
       refine zD 2<|bF axY ⟨⟨E7.name,E7.st,q,E7.head,E7.bold⟩,aIs⟩ ⟨⟨⟨hO.1.1,hO.1.2.1,hO.1.2.2.1,hO.1.2.2.2⟩,aoP.1⟩,arS⟩ Nat.zero_lt_one [1,2,0,3,4,5,6] (Sub.refl _)
      refine js 173 aK0 (fun h40=>?_) (fun h40=>?_)
      ·
       subst h40
       have hO:=hB.2.2.1 _ (zL Sc)
       have hO2:=hO.1.2.2.1
       have hO3:=hO.2
       refine zD 3<|jc (vs:=[zP d,zI 1,zI 3]) [0] (B8 (hN.up (((bL.trans kV).trans sw).trans jz)) arT (by omega) (by omega)) ?_
       rintro _ aUP ⟨aKZ,rfl,aXr,aXi,aGL⟩
       refine jd 3 [1]<|bF aGv ⟨aKZ,aUP⟩ ⟨by dsimp only;omega,aGL⟩ Nat.zero_lt_one [1,2,0,3,4,5,6] (Sub.refl _)
      subst h40
      have hO:=hB.2.2.1 _ (zL Sc)
      have hO2:=hO.1.2.2.1
      have hO3:=hO.2
      refine zD 2<|bF aGv ⟨E7.no,aUQ⟩ ⟨by dsimp only;omega,arT⟩ Nat.zero_lt_one [1,2,0,3,4,5,6] (Sub.refl _)
     subst h36
     refine zD 2<|bF axY ⟨⟨pp.name,pp.st,aAM,pp.head,false⟩,X⟩ ⟨⟨⟨ai0.1.1,ai0.1.2.1,ai0.1.2.2,rfl⟩,by dsimp only;omega⟩,aiZ.2⟩ Nat.zero_lt_one (zN 0 7) (Sub.refl _)
    refine jd 3 [5]<|Fy hB.2.1<|zD 2<|js 157 (decide ((ve.length:Int)>0)) (fun h41=>?_) (fun h41=>?_)
    ·
     have ai9:=h41
     replace ai9:=of_decide_eq_true ai9
     refine zD 1<|jc (vs:=[zP d,zI 3]) [0] (tG (hN.up (((bL.trans kV).trans sw).trans jz)) arU (by omega)) ?_
     rintro _ aUS ⟨aK2,rfl,aGN⟩
     refine zD 3<|bF aGw ⟨!aK2,aUS⟩ ⟨fun _=>by omega,aGN⟩ Nat.zero_lt_one [1,2,0,3,4,5,6] (Sub.refl _)
    have ai9:=h41
    replace ai9:=of_decide_eq_false ai9
    refine zD 5<|bF aGw ⟨false,aUT⟩ ⟨(fun h=>by cases h),arU⟩ Nat.zero_lt_one [1,2,0,3,4,5,6] (Sub.refl _)
   refine jd 4 [3]<|Gm [3,5] ⟨fun z39 t40 aiR=>?_,fun z42 t43 aS6=>?_,trivial⟩
   ·
    refine jc [1] (ZO (hN.up (((bL.trans kV).trans sw).trans jz)) hA.2.2.2) ?_
    rintro _ aUU ⟨al7,rfl,Y0,Zz⟩
    refine fR aiR [[3]]<|Gm [4,5] ⟨fun z45 t46 aS5=>?_,fun z48 t49 aiQ=>?_,trivial⟩
    ·
     refine jc (vs:=[zP d,.agg ⟨[zI 2,zI 0,zI 0,.slice dS lA.length dP,.slice dC kH.length de,zS,zS]⟩,.string al7]) [0] (xZ (hN.up (((bL.trans kV).trans sw).trans jz)) Zz ((((show a8 _ _ _ _ _ from ⟨dC,s9,s8,de,rfl,uX,pJ,pH⟩).up kV).up sw).up jz) (by have:=DI.len;have:=Iu.nh;omega)) ?_
     rintro _ akR ⟨aAN,rfl,Su,Si,SD,SQ⟩
     refine gA aS5<|aS 5 fun apY aql aiP=>jn fun b14=>gA aiP<|aS 6 fun apX aqk aiO=>jd 1 [0]<|gA aiO<|zD 1<|bF axZ ⟨b14,_,akR⟩ ⟨⟨Su▸Y0,xT DI SD,Si⟩,SQ⟩ Nat.zero_lt_one [0,2,1,3,4,5,6] (Sub.refl _)
    refine jn fun b14=>ep aiQ (zN 1 6)<|aS 4 fun apW aqj aiN=>jc (vs:=[zP d,.agg ⟨[zI 2,zI 0,zI 0,.slice dS lA.length dP,.slice dC kH.length de,zS,zS]⟩,.string al7]) [1] (xZ (hN.up (((bL.trans kV).trans sw).trans jz)) Zz ((((show a8 _ _ _ _ _ from ⟨dC,s9,s8,de,rfl,uX,pJ,pH⟩).up kV).up sw).up jz) (by have:=DI.len;have:=Iu.nh;omega)) ?_
    rintro _ akR ⟨aAN,rfl,Su,Si,SD,SQ⟩
    refine gA aiN<|aS 6 fun apU aqi aiM=>jd 1 [1]<|gA aiM<|zD 1<|bF axZ ⟨b14,_,akR⟩ ⟨⟨Su▸Y0,xT DI SD,Si⟩,SQ⟩ Nat.zero_lt_one [1,2,0,3,4,5,6] (Sub.refl _)
   refine jn fun b14=>ep aS6 (zN 1 6)<|aS 3 fun apT aqh aiL=>jc [2] (ZO (hN.up (((bL.trans kV).trans sw).trans jz)) hA.2.2.2) ?_
   rintro _ aUU ⟨al7,rfl,Y0,Zz⟩
   refine fR aiL [[4]]<|aS 4 fun apS aqg aiK=>jc (vs:=[zP d,.agg ⟨[zI 2,zI 0,zI 0,.slice dS lA.length dP,.slice dC kH.length de,zS,zS]⟩,.string al7]) [0] (xZ (hN.up (((bL.trans kV).trans sw).trans jz)) Zz ((((show a8 _ _ _ _ _ from ⟨dC,s9,s8,de,rfl,uX,pJ,pH⟩).up kV).up sw).up jz) (by have:=DI.len;have:=Iu.nh;omega)) ?_
   rintro _ akR ⟨aAN,rfl,Su,Si,SD,SQ⟩
   refine gA aiK<|aS 6 fun apR aqf aiJ=>jd 1 [1]<|gA aiJ<|zD 1<|bF axZ ⟨b14,_,akR⟩ ⟨⟨Su▸Y0,xT DI SD,Si⟩,SQ⟩ Nat.zero_lt_one [1,2,0,3,4,5,6] (Sub.refl _)
  refine zD 4<|jf [2,0] (LB++LA) (fun aZ5 wK aFz=>?_)
  have hb:=hB.2.1.jC (Knows.left aFz)
  have ha:=hA.2.1.jC (Knows.right aFz)
  have hBF:=hb
  have hAF:=ha
  obtain⟨jD,Hf,Hd,jv,rfl,He,Gi,Gh⟩:=hb
  obtain⟨iW,Fs,Fj,iQ,rfl,Fo,EA,Ez⟩:=ha
  refine zD 2<|jc (vs:=[zP d,zI 4]) [0] (FR (hN.up ((((bL.trans kV).trans sw).trans jz).trans wK)) hA.2.2.2 (by omega)) ?_
  rintro _ bfH ⟨al6,rfl,aXq,aXh,aGK⟩
  refine jn fun aH7=>jcL (vs:=[zP d,.slice (some ⟨aH7,0,none⟩) 4 4]) [1] [0] [(aH7,.cells ⟨([1,2,4,al6].map cD).flatten⟩ 3 (0,0))] (fun aF hs hZ=>akf ((hN.up ((((bL.trans kV).trans sw).trans jz).trans wK)).up hs) aGK (bV [1,2,4,al6] hZ.head (by intro p hp;rfl)) (by simp)) ?_
  rintro _ bfG ⟨adG,rfl,aEi,aGJ⟩
  refine zD 2<|jc (vs:=[zP d,zI 4]) [0] (FR (hN.up ((((bL.trans kV).trans sw).trans jz).trans wK)) aGJ (by omega)) ?_
  rintro _ bfF ⟨al5,rfl,aXp,aXg,aGI⟩
  refine jn fun aH6=>jcL (vs:=[zP d,.slice (some ⟨aH6,0,none⟩) 4 4]) [1] [0] [(aH6,.cells ⟨([1,2,4,al5].map cD).flatten⟩ 3 (0,0))] (fun aF hs hZ=>akf ((hN.up ((((bL.trans kV).trans sw).trans jz).trans wK)).up hs) aGI (bV [1,2,4,al5] hZ.head (by intro p hp;rfl)) (by simp)) ?_
  rintro _ bfE ⟨adF,rfl,aEh,aGH⟩
  refine zD 2<|jc (vs:=[zP d,zI 4]) [0] (FR (hN.up ((((bL.trans kV).trans sw).trans jz).trans wK)) aGH (by omega)) ?_
  rintro _ bfD ⟨al4,rfl,aXo,aXf,aGG⟩
  refine jn fun aH5=>jcL (vs:=[zP d,.slice (some ⟨aH5,0,none⟩) 4 4]) [1] [0] [(aH5,.cells ⟨([1,2,4,al4].map cD).flatten⟩ 3 (0,0))] (fun aF hs hZ=>akf ((hN.up ((((bL.trans kV).trans sw).trans jz).trans wK)).up hs) aGG (bV [1,2,4,al4] hZ.head (by intro p hp;rfl)) (by simp)) ?_
  rintro _ bfC ⟨adD,rfl,aEg,aGF⟩
  refine jd 6 [5,5,5] ?_
  have Cy:=auY aEi (by omega:0≤al6∧al6≤4)
  have Av:=auY aEh (by omega:0≤al5∧al5≤4)
  have qM:=auY aEg (by omega:0≤al4∧al4≤4)
  refine zD 6<|jc (vs:=[zP d,zI nf]) [0] (FR (hN.up ((((bL.trans kV).trans sw).trans jz).trans wK)) aGF (by omega)) ?_
  rintro _ aUO ⟨aKX,rfl,aXn,aXe,aGE⟩
  refine zD 3<|nB<|dL [1,1,1,1,1,1,1,1,1,0,1,0,0] [] (fun(zz:Int×Value×Cells×(List bK)×Cells)=>[(0,zP d),(6,zP b6),(7,zP b7),(15,zI zz.1)]) (fun zz=>[.l zz.2.2.1,.l zz.2.2.2.2,.b lV (.cells ⟨[zI 2,zI 0,zI 0,.slice dS lA.length dP,.slice dC kH.length de,zS,zS]⟩ 86 (0,0)),.b b7 (.cells ⟨[.slice (some ⟨oF,0,none⟩) 2 2,.slice eB Um.length dH,zS,.slice dS lA.length dP,.slice dC kH.length de,vR,.slice jD ve.length jv,.slice iW Nb.length iQ,zI adG,zI adF,zI adD,zz.2.1]⟩ 40 (0,0)),.b b6 (.cells ⟨zO⟩ 40 (0,0))]) (fun zz=>(0≤zz.1∧zz.2.2.2.1.length+zz.1≤nf)∧aw zz.2.1 3 54 kJ zz.2.2.2.1 zz.2.2.1∧Co ve.length Nb.length zz.2.2.2.1∧bP vd xs d zz.2.2.2.2) (fun zz=>zz.1.toNat) (⟨aKX,zS,[],[],aUO⟩) ⟨by simp only[List.length_nil];omega,aw.nil _ _ _,⟨(fun _ h=>by cases h),List.Pairwise.nil⟩,aGE⟩ [0,1,5,6,7] ?_
  rintro⟨j,vF,LF,fs,X⟩ hF K58 aGu rest
  dsimp only at hF
  have awK:=hB.1
  have aXF:=hA.1
  refine zD 6<|jj 5 [(0,zP d),(6,zP b6),(7,zP b7),(15,zI j),(214,.bool ((decide (j>0))&&(decide ((ve.length:Int)>0))))] (fun gN=>?_) (fun hj=>?_)
  rotate_left
  refine js 209 (decide (j>0)) (fun h56=>?_) (fun h56=>?_)
  ·
   have ai8:=h56
   replace ai8:=of_decide_eq_true ai8
   refine jd 5 [3]<|jw 214 (.bool ((decide (j>0))&&(decide ((ve.length:Int)>0)))) (w:= .bool (decide ((ve.length:Int)>0))) (by rw[h56]<;>rfl) ?_
   exact zK hj
  ·
   have ai8:=h56
   replace ai8:=of_decide_eq_false ai8
   refine zD 5<|jw 214 (.bool ((decide (j>0))&&(decide ((ve.length:Int)>0)))) (w:= .bool false) (by rw[h56]<;>rfl) ?_
   exact zK hj
  refine zD 1<|jj 5 [(0,zP d),(6,zP b6),(7,zP b7),(15,zI j),(220,.bool (((decide (j>0))&&(decide ((ve.length:Int)>0)))&&(decide ((Nb.length:Int)>0))))] (fun gN=>?_) (fun hj=>?_)
  rotate_left
  refine js 215 ((decide (j>0))&&(decide ((ve.length:Int)>0))) (fun h57=>?_) (fun h57=>?_)
  ·
   have ax7:=h57
   try simp only[zB] at ax7
   refine jd 5 [3]<|jw 220 (.bool (((decide (j>0))&&(decide ((ve.length:Int)>0)))&&(decide ((Nb.length:Int)>0)))) (w:= .bool (decide ((Nb.length:Int)>0))) (by rw[h57]<;>rfl) ?_
   exact zK hj
  ·
   have ax7:=h57
   try simp only[zB] at ax7
   refine zD 5<|jw 220 (.bool (((decide (j>0))&&(decide ((ve.length:Int)>0)))&&(decide ((Nb.length:Int)>0)))) (w:= .bool false) (by rw[h57]<;>rfl) ?_
   exact zK hj
  refine zD 1<|js 220 (((decide (j>0))&&(decide ((ve.length:Int)>0)))&&(decide ((Nb.length:Int)>0))) (fun h58=>?_) (fun h58=>?_)
  ·
   try simp only[zB] at h58
   refine jd 8 [3]<|jc (vs:=[zP d,.agg ⟨[.slice (some ⟨oF,0,none⟩) 2 2,.slice eB Um.length dH,zS,.slice dS lA.length dP,.slice dC kH.length de,vR,.slice jD ve.length jv,.slice iW Nb.length iQ,zI adG,zI adF,zI adD,vF]⟩]) [1] (aHF (hN.up ((((bL.trans kV).trans sw).trans jz).trans wK)) hF.2.2.2 (show a8 _ _ _ _ _ from ⟨jD,Hf,Hd,jv,rfl,He,Gi,Gh⟩) (show a8 _ _ _ _ _ from ⟨iW,Fs,Fj,iQ,rfl,Fo,EA,Ez⟩) (by omega)) ?_
   rintro _ aIr ⟨qi,rfl,aXU,aXT,arR⟩
   refine jn fun b16=>jd 6 [0,4,0]<|jp (vs:=[.agg ⟨[.slice (some ⟨oF,0,none⟩) 2 2,.slice eB Um.length dH,zS,.slice dS lA.length dP,.slice dC kH.length de,vR,.slice jD ve.length jv,.slice iW Nb.length iQ,zI adG,zI adF,zI adD,vF]⟩,.agg ⟨[zI qi.a,zI qi.b,.bool qi.same]⟩]) [2] LF (fun aF hs hZ=>aq8 (x:=⟨qi.a,qi.b,qi.same⟩) (hF.2.1.jC hZ) (by omega))<|zD 2<|js 229 (!(oJ fs qi.a qi.b)) (fun h59=>?_) (fun h59=>?_)
   ·
    try simp only[zB] at h59
    refine jd 5 [4,0]<|jn fun aH4=>gL (sz:=3) (ps:=fs) (qs:=[(⟨qi.a,qi.b,qi.same⟩:bK)]) (enc:=kJ) (w:= .slice (some ⟨aH4,0,none⟩) 1 1) [3] [0] [(aH4,.cells ⟨([(⟨qi.a,qi.b,qi.same⟩:bK)].map kJ).flatten⟩ 54 (0,0))] (hF.2.1) (fun s _ hZ=>bN [(⟨qi.a,qi.b,qi.same⟩:bK)] (hZ _ (.head _)) (by intro p hp;rfl)) (fun p _=>ah rfl) (by simp<;>omega) (fun aZJ aVj Zc=>?_)
    obtain⟨aAY,aAQ,aFR⟩:=Zc.form
    subst aFR
    refine jd 5 [5]<|ja (j-1) (by omega)<|zD 2<|bF aGu (⟨j-1,(.slice aAY ((fs++[(⟨qi.a,qi.b,qi.same⟩:bK)])).length aAQ),aVj,(fs++[(⟨qi.a,qi.b,qi.same⟩:bK)]),aIr⟩) ⟨by simp only[zM];omega,Zc,Co.snoc hF.2.2.1 (by dsimp only;omega) (by dsimp only;omega) (by assumption),arR⟩ (by omega) [0,3,4,5,6] (Sub.refl _)
   try simp only[zB] at h59
   refine zD 4<|ja (j-1) (by omega)<|zD 2<|bF aGu (⟨j-1,vF,LF,fs,aIr⟩) ⟨by dsimp only;omega,hF.2.1,hF.2.2.1,arR⟩ (by omega) [2,1,3,4,5] (Sub.refl _)
  try simp only[zB] at h58
  refine zD 4<|jf [0] LF (fun aZ4 VN aQY=>?_)
  have hFA:=hF.2.1.jC aQY
  refine jd 1 [2] ?_
  obtain⟨aLL,aLk,aRy⟩:=hR.2.1.form
  subst aRy
  obtain⟨aLK,aLj,aRx⟩:=hF.2.1.form
  subst aRx
  refine jd 3 [3]<|aI q0.a.a.a.a.a.a (.agg ⟨[.slice (some ⟨oF,0,none⟩) 2 2,.slice eB Um.length dH,zS,.slice dS lA.length dP,.slice dC kH.length de,(.slice aLL (rs).length aLk),.slice jD ve.length jv,.slice iW Nb.length iQ,zI adG,zI adF,zI adD,(.slice aLK (fs).length aLj)]⟩) [3] [0] X (Sub.refl _) ⟨_,_,X,rfl,rfl,(((((bL.trans kV).trans sw).trans jz).trans wK).trans VN),⟨ways,lA,V6,rs,ve,Nb,adG,adF,adD,fs,zu⟩,_,rfl,⟨Uf.2.1,Iu,⟨by dsimp only;omega,hR.2.2⟩,⟨by dsimp only;omega,hB.2.2.1⟩,⟨by dsimp only;omega,hA.2.2.1⟩,⟨Cy,Av,qM⟩,⟨by dsimp only;omega,hF.2.2.1.1⟩,hF.2.2.1.2,rfl⟩,(by dsimp only;omega),⟨_,_,_,_,_,_,_,_,none,0,kH,rfl,(aSK.up (((sw.trans jz).trans wK).trans VN)),(aGr.up ((jz.trans wK).trans VN)),(nF.up ((((kV.trans sw).trans jz).trans wK).trans VN)),DI,(hRU.up (wK.trans VN)),(hBF.up VN),(hAF.up VN),hFA⟩,hF.2.2.2⟩
 refine js 30 w30 (fun h65=>?_) (fun h65=>?_)
 ·
  subst h65
  refine jd 7 [1]<|aS 4 fun aVE aV1 aS4=>jc [0] (aHE (hN.up (bL.trans kV)) aGC) ?_
  rintro _ X35 ⟨uR,rfl,aEf,aTt⟩
  refine fR aS4 [[1]]<|aS 5 fun aVD aV0 aS3=>jn fun sE=>ep aS3 [1,2,3]<|zD 1<|aS 7 fun aVC aVZ aS2=>jn fun b38=>ep aS2 (zN 1 4)<|aS 8 fun aVB aVY aS1=>aOZ (E:=81) (sz:=1) fB (qs:=[(.slice (some ⟨sE,0,none⟩) 1 1:Value)]) (w:= .slice (some ⟨b38,0,none⟩) 1 1) [0] [(b38,.cells ⟨([(.slice (some ⟨sE,0,none⟩) 1 1:Value)].map fB).flatten⟩ 81 (0,0))] (fun s _ hZ=>bN [(.slice (some ⟨sE,0,none⟩) 1 1:Value)] (hZ _ (.head _)) (by intro p hp;rfl)) (by intro p hp;rw[List.mem_singleton] at hp;subst hp;exact ah rfl) (by simp<;>omega) (fun v39 L39 Dw=>?_)
  obtain⟨aAX,aAP,aim⟩:=Dw.form
  subst aim
  refine ep aS1 (zN 1 5)<|zD 2<|aS 11 fun aVA aVX aS0=>jd 1 [4]<|fR aS0 []<|zD 4<|jc (vs:=[zP d,zI 2]) [3] (tG (hN.up (bL.trans kV)) aTt (by omega)) ?_
  rintro _ X43 ⟨w43,rfl,aGB⟩
  refine zD 1<|js 43 w43 (fun h71=>?_) (fun h71=>?_)
  ·
   subst h71
   refine jd 8 [4,4]<|YT 1 Dw (show ([(.slice (some ⟨sE,0,none⟩) 1 1:Value)])[0]?=some (.slice (some ⟨sE,0,none⟩) 1 1:Value) from rfl) fun b50 aSk=>zD 1<|oQ 0 [1] L39 (fun s _ hZ=>cJ Dw aSk hZ (show ([(.slice (some ⟨sE,0,none⟩) 1 1:Value)])[0]?=some (.slice (some ⟨sE,0,none⟩) 1 1:Value) from rfl))<|zD 1<|aS 10 fun aVz aVW aSZ=>jc [0] (aHE (hN.up (bL.trans kV)) aGB) ?_
   rintro _ X54 ⟨vI,rfl,aPt,aTq⟩
   refine fR aSZ [[1],[4],[4]]<|aS 11 fun aVy aVV aSY=>jn fun b55=>ep aSY (zN 1 6)<|aS 12 fun aVx aVU aSX=>gL (sz:=7) (ps:=[(⟨uR.k,uR.st,uR.ot,uR.fn,uR.fl,uR.tn,uR.tl⟩:aL)]) (qs:=[(⟨vI.k,vI.st,vI.ot,vI.fn,vI.fl,vI.tn,vI.tl⟩:aL)]) (enc:=iu) (w:= .slice (some ⟨b55,0,none⟩) 1 1) [4] [0] [(b55,.cells ⟨([(⟨vI.k,vI.st,vI.ot,vI.fn,vI.fl,vI.tn,vI.tl⟩:aL)].map iu).flatten⟩ 77 (0,0))] (Ho (b:=sE) (T:=77) [(⟨uR.k,uR.st,uR.ot,uR.fn,uR.fl,uR.tn,uR.tl⟩:aL)] rfl (by intro p hp;rfl)) (fun s _ hZ=>bN [(⟨vI.k,vI.st,vI.ot,vI.fn,vI.fl,vI.tn,vI.tl⟩:aL)] (hZ _ (.head _)) (by intro p hp;rfl)) (fun p _=>ah rfl) (by simp<;>omega) (fun v56 L56 qF=>?_)
   obtain⟨Qk,Qh,DF⟩:=qF.form
   subst DF
   refine fR aSX [[5],[5]]<|YT 1 Dw (show ([(.slice (some ⟨sE,0,none⟩) 1 1:Value)])[0]?=some (.slice (some ⟨sE,0,none⟩) 1 1:Value) from rfl) fun b57 aSj=>zD 1<|aS 15 fun aVw aVT aSW=>R6 3 0 [(.slice Qk (([(⟨uR.k,uR.st,uR.ot,uR.fn,uR.fl,uR.tn,uR.tl⟩:aL)]++[(⟨vI.k,vI.st,vI.ot,vI.fn,vI.fl,vI.tn,vI.tl⟩:aL)])).length Qh)] ((.slice Qk (([(⟨uR.k,uR.st,uR.ot,uR.fn,uR.fl,uR.tn,uR.tl⟩:aL)]++[(⟨vI.k,vI.st,vI.ot,vI.fn,vI.fl,vI.tn,vI.tl⟩:aL)])).length Qh):Value) Dw aSj (show ([(.slice (some ⟨sE,0,none⟩) 1 1:Value)])[0]?=some (.slice (some ⟨sE,0,none⟩) 1 1:Value) from rfl) rfl rfl (Nat.le_of_ble_eq_true rfl) fun L76 aQm=>fR aSW []<|zD 1<|HM bE ⟨(.slice aAX ([(.slice (some ⟨sE,0,none⟩) 1 1:Value)]).length aAP),L76++L56,[[uR,vI]],X54⟩ ⟨fun _ hk=>⟨_,aQm.jC hk.left,.cons (qF.jC hk.right) .nil⟩,⟨by simp,by simpa using ⟨aEf,aPt⟩⟩,aTq⟩ Nat.zero_lt_one [[0,1],[3],[5],[6]] (Sub.refl _)
  subst h71
  refine zD 2<|HM bE ⟨(.slice aAX ([(.slice (some ⟨sE,0,none⟩) 1 1:Value)]).length aAP),L39++[(sE,.cells ⟨[zI uR.k,zI uR.st,zI uR.ot,zI uR.fn,zI uR.fl,zI uR.tn,zI uR.tl]⟩ 77 (0,0))],[[uR]],X43⟩ ⟨fun _ hk=>⟨_,Dw.jC hk.left,.cons (bV [uR] (hk.right _ (.head _)) (fun _ _=>rfl)) .nil⟩,⟨by simp,by simpa using aEf⟩,aGB⟩ Nat.zero_lt_one [[1,3],[0],[4],[5]] (Sub.refl _)
 subst h65
 refine zD 2<|nB<|bF bE ⟨zS,[],[],X30⟩ ⟨fun _ _=>UL,⟨by simp,by simp⟩,aGC⟩ Nat.zero_lt_one (zN 0 4) (Sub.refl _)
theorem aUa{xs:List Int}(hl:a8 ro vd 1 cD xs):dQ zT 7 [vd] ro [] (fun r Y=>∃d,r= zP d∧bP vd xs d Y):=by
 obtain⟨dB,mP,mO,dz,rfl,qd,gY,jV⟩:=hl
 refine zE<|zD 8<|jn fun b5=>zD 3<|zR (zP b5) [] [0] [(b5,.cells ⟨[.slice dB xs.length dz,zI 0,zU 11400714819323198485]⟩ 70 (0,0))] ⟨_,rfl,0,_,Nat.zero_le _,rfl⟩
theorem dc.set{R:α→β→Prop}{l:List α}{m:List β}(h:dc R l m){a:α}{b:β}(hb:m[k]?=some b) (hr:R a b):dc R (l.set k a) m:=by
 induction h generalizing k with
 |nil=>simp at hb
 |cons h1 h2 ih=>
  cases k with
  |zero=>simp at hb;subst hb;exact .cons hr h2
  |succ k=>exact .cons h1 (ih (by simpa using hb))
theorem dc.mem{R:α→β→Prop}{l:List α}{m:List β}(h:dc R l m){a:α}(ha:a∈l):∃b∈m,R a b:=by
 obtain⟨i,hi⟩:=List.getElem?_of_mem ha
 obtain⟨b,hb,hr⟩:=h.get hi
 exact⟨b,zL hb,hr⟩
theorem eX{hv:List aY}(h:dc (oG ro) hv hd):∀p∈hv,∀c∈jZ p,single c=true:=fun p hp=>by
 obtain⟨y,_,h1⟩:=h.mem hp
 obtain⟨w,c,s,a⟩:=p
 obtain⟨_,_,_,_,e,_⟩:=h1.2.2.2
 dsimp only at e
 subst e
 exact ah rfl
theorem B7{hw:List aY}{Z L:Cells}{v:Value}{x x':aY}{y:cy}(h:∀aC,Sub ro aC→Knows aC Z→dc (oG aC) hw hd)(hS:dc du hw hd)(hx:hw[k]?=some x) (mj:hw[k]?=some x') (hy:hd[k]?=some y) (ho:aw v 1 3 cD y.dt L):
 (∀aC,Sub ro aC→Knows aC (L++Z)→dc (oG aC) (hw.set k ⟨x'.word,x'.cls,x'.lE,v⟩) hd)∧dc du (hw.set k ⟨x'.word,x'.cls,x'.lE,v⟩) hd:=by
 rw[hx] at mj;cases mj
 obtain⟨y',h1,h2⟩:=hS.get hx
 rw[hy] at h1;cases h1
 exact⟨fun aC hs hk=>(h aC hs hk.right).set hy ⟨h2.1,h2.2.1,h2.2.2,ho.jC hk.left⟩,hS.set hy h2⟩
theorem M1{l m:List α}{a:α}(h:l.drop k=m.drop k):(l.set k a).drop (k+1)=m.drop (k+1):=by
 have h1:=congrArg (List.drop 1) h
 rw[List.drop_drop,List.drop_drop] at h1
 rw[List.drop_set_of_lt (by omega)]
 exact h1
theorem IX{l m:List α}{a:α}(h:l.drop k=m.drop k)(ha:l[k]?=some a):m[k]?=some a:=by
 have h1:=congrArg (fun q=>q[0]?) h
 simp only[List.getElem?_drop,Nat.add_zero] at h1
 rw[←h1];exact ha
theorem ur{hv:List aY}(hT:Px cs hd)(hR:iv ro vc vh cs hv hd)(hS:dc du hv hd):dQ zT 48 [.agg ⟨[vc,vh]⟩] ro [] (fun r Y=>∃(hw:List aY) (ca ha:Option Addr) (cc hc:Nat) (Z:Cells),r= .agg ⟨[.slice ca cs.length cc,.slice ha hw.length hc]⟩∧dc du hw hd∧(∀aC,Sub ro aC→Knows aC Z→iv aC (.slice ca cs.length cc) (.slice ha hw.length hc) cs hw hd)∧Y=Z):=by
 obtain⟨hc,hh,dr⟩:=id hR
 obtain⟨dS,yw,yu,dP,rfl,AR,vK,vJ⟩:=hc
 obtain⟨dC,s9,s8,de,rfl,uX,pJ,pH⟩:=hh
 have hlen:=hS.len
 have hnh:=hT.nh
 have Dy:=hT.nc
 refine zE<|zD 2<|jn fun b1=>jn fun b2=>zD 2<|EL [1,1] [] (fun(zz:Value×Cells×Value×Cells)=>[(1,zP b1),(2,zP b2)]) (fun zz=>[.b b1 (.cells ⟨[zz.1,zz.2.2.1]⟩ 35 (0,0)),.l zz.2.1,.l zz.2.2.2,.b b2 (.cells ⟨[zS,zS]⟩ 35 (0,0))]) (fun zz=>aw zz.1 2 140 lJ cs zz.2.1∧aw zz.2.2.1 4 143 jZ hv zz.2.2.2) ?_ (fun K1 bE=>?_)
 ·
  rintro⟨vC,LC,vH,LH⟩ hJ rest
  dsimp only at hJ
  refine zD 6<|nB<|dL [1,1,0,1,0,0] [] (fun(zz:Nat×Value×Cells×(List aY)×Cells)=>[(1,zP b1),(2,zP b2),(3,zI (zz.1:Int))]) (fun zz=>[.b b1 (.cells ⟨[vC,zz.2.1]⟩ 35 (0,0)),.l zz.2.2.1,.l zz.2.2.2.2,.l LC,.b b2 (.cells ⟨[zS,zS]⟩ 35 (0,0))]) (fun zz=>(zz.1≤zz.2.2.2.1.length∧zz.2.2.2.1.length=hv.length∧zz.2.2.2.1.drop zz.1=hv.drop zz.1)∧aw zz.2.1 4 143 jZ zz.2.2.2.1 zz.2.2.1∧(∀aC,Sub ro aC→Knows aC zz.2.2.2.2→dc (oG aC) zz.2.2.2.1 hd)∧dc du zz.2.2.2.1 hd) (fun zz=>hv.length-zz.1) (⟨0,vH,LH,hv,[]⟩) ⟨⟨by omega,rfl,rfl⟩,hJ.2,fun _ hs _=>(hR.up hs).2.2,hS⟩ [1,3,0,2,4] ?_
  rintro⟨k,vH,LH,hw,Z⟩ hI K2 lG rest
  dsimp only at hI
  refine jd 6 [0]<|Fy hI.2.1<|zD 2<|zJ 18 ((k:Int) <(hw.length:Int)) (fun h1=>?_) fun h1=>?_
  ·
   refine jd 11 [0,0] ?_
   obtain⟨x27,Kr⟩:=zG hw k
   refine YT 4 hI.2.1 Kr fun b27 aSw=>zD 1<|oQ 3 [1] LH (fun s _ hZ=>cJ hI.2.1 aSw hZ Kr)<|aS 9 (fun rZ r8 qM=>?_)
   obtain⟨y27,avH,aP5⟩:=hR.2.2.get (IX hI.1.2.2 Kr)
   have aXS:=(hT.u4 _ _ avH).2.2.1.1
   refine jc (vs:=[x27.dt]) [] (agK aP5.2.2.2 (by omega)) ?_
   rintro v30 L30 ⟨_,wN,rfl⟩
   refine ep qM (zN 1 5) ?_
   obtain⟨x31,an3⟩:=zG hw k
   refine YT 4 hI.2.1 an3 fun J0 aSu=>zD 1<|aS 12 (fun sL sR qL=>?_)
   obtain⟨va4,vc4,he4⟩:=wN.form
   subst he4
   refine R6 2 3 [(.slice va4 (y27.dt).length vc4)] (⟨x31.word,x31.cls,x31.lE,(.slice va4 (y27.dt).length vc4)⟩:aY) hI.2.1 aSu an3 rfl rfl (Nat.le_of_ble_eq_true rfl) fun L5 ho6=>fR qL []<|zD 3<|ja ((k:Int)+1) (by omega)<|zD 2<|HM lG (⟨k+1,vH,L5,(hw.set k (⟨x31.word,x31.cls,x31.lE,(.slice va4 (y27.dt).length vc4)⟩:aY)),L30++Z⟩) ⟨⟨by rw[List.length_set];omega,by rw[List.length_set];exact hI.1.2.1,M1 hI.1.2.2⟩,ho6,(B7 hI.2.2.1 hI.2.2.2 Kr an3 avH wN).1,(B7 hI.2.2.1 hI.2.2.2 Kr an3 avH wN).2⟩ (by omega) [[2],[0],[1,3],[4],[5]] (Sub.refl _)
  refine jd 5 [0] ?_
  obtain⟨yp,yo,wO⟩:=hJ.1.form
  subst wO
  obtain⟨va8,vc8,he8⟩:=hI.2.1.form
  subst he8
  refine jd 3 [4]<|zR (.agg ⟨[(.slice yp (cs).length yo),(.slice va8 (hw).length vc8)]⟩) [4] [1,2,3] (LH++(Z++LC)) ⟨hw,_,_,_,_,_,rfl,hI.2.2.2,fun aC hs hk=>⟨hJ.1.jC hk.right.right,hI.2.1.jC hk.left,hI.2.2.1 aC hs hk.right.left⟩,rfl⟩
 refine jd 5 [1,1]<|Gm [0,4] ⟨fun z5 t6 OI=>?_,fun z8 t9 qN=>?_,trivial⟩
 ·
  refine jn fun b4=>ep OI [1,2]<|Gm [3,4] ⟨fun z11 t12 DL=>?_,fun z14 t15 FM=>?_,trivial⟩
  ·
   refine gL (sz:=2) (ps:=[]) (qs:=cs) (enc:=lJ) (w:= .slice dS cs.length dP) [0] [] [] (aO (b:=b4) (T:=140)) (fun s he _=>⟨dS,yw,yu,dP,rfl,vK,fun i p hp=>(vJ i p hp).ext he⟩) (fun p _=>ah rfl) (by simp<;>omega) (fun v7 L7 cm=>?_)
   rw[List.nil_append] at cm
   obtain⟨yp,yo,wO⟩:=cm.form
   subst wO
   refine fR DL [[2]]<|zD 1<|aS 4 fun Xp XE DK=>jn fun b8=>ep DK [1,2,3]<|aS 7 fun adr aeh OP=>gL (sz:=4) (ps:=[]) (qs:=hv) (enc:=jZ) (w:= .slice dC hv.length de) [0] [] [] (aO (b:=b8) (T:=143)) (fun s he _=>⟨dC,s9,s8,de,rfl,pJ,fun i p hp=>(pH i p hp).ext he⟩) (eX dr) (by simp only[List.length_nil,Nat.zero_add];omega) (fun v11 L11 qH=>?_)
   rw[List.nil_append] at qH
   obtain⟨adU,adN,air⟩:=qH.form
   subst air
   refine fR OP []<|aS 9 fun adq aeg OO=>jd 1 [3]<|gA OO<|zD 1<|aS 11 fun ap4 aqr ON=>jd 1 [3]<|gA ON<|zD 1<|bF bE ⟨(.slice yp (cs).length yo),L7,(.slice adU (hv).length adN),L11⟩ ⟨cm,qH⟩ Nat.zero_lt_one [3,1,0,2] (Sub.refl _)
  refine jn fun b8=>ep FM [1,2,3]<|aS 3 fun aAA aBs ab5=>gL (sz:=2) (ps:=[]) (qs:=cs) (enc:=lJ) (w:= .slice dS cs.length dP) [1] [] [] (aO (b:=b4) (T:=140)) (fun s he _=>⟨dS,yw,yu,dP,rfl,vK,fun i p hp=>(vJ i p hp).ext he⟩) (fun p _=>ah rfl) (by simp<;>omega) (fun v7 L7 cm=>?_)
  rw[List.nil_append] at cm
  obtain⟨yp,yo,wO⟩:=cm.form
  subst wO
  refine fR ab5 [[3]]<|zD 1<|aS 7 fun aAz aBr Wl=>gL (sz:=4) (ps:=[]) (qs:=hv) (enc:=jZ) (w:= .slice dC hv.length de) [1] [] [] (aO (b:=b8) (T:=143)) (fun s he _=>⟨dC,s9,s8,de,rfl,pJ,fun i p hp=>(pH i p hp).ext he⟩) (eX dr) (by simp only[List.length_nil,Nat.zero_add];omega) (fun v11 L11 qH=>?_)
  rw[List.nil_append] at qH
  obtain⟨adU,adN,air⟩:=qH.form
  subst air
  refine fR Wl []<|aS 9 fun ap3 aqq OM=>jd 1 [3]<|gA OM<|zD 1<|aS 11 fun aAy aBq aiW=>jd 1 [3]<|gA aiW<|zD 1<|bF bE ⟨(.slice yp (cs).length yo),L7,(.slice adU (hv).length adN),L11⟩ ⟨cm,qH⟩ Nat.zero_lt_one [3,1,0,2] (Sub.refl _)
 refine jn fun b8=>ep qN [1,2]<|aS 0 fun ap2 aqp OL=>jn fun b4=>ep OL [1,2,3]<|aS 3 fun Xo XB BS=>gL (sz:=2) (ps:=[]) (qs:=cs) (enc:=lJ) (w:= .slice dS cs.length dP) [0] [] [] (aO (b:=b4) (T:=140)) (fun s he _=>⟨dS,yw,yu,dP,rfl,vK,fun i p hp=>(vJ i p hp).ext he⟩) (fun p _=>ah rfl) (by simp<;>omega) (fun v7 L7 cm=>?_)
 rw[List.nil_append] at cm
 obtain⟨yp,yo,wO⟩:=cm.form
 subst wO
 refine fR BS [[3]]<|zD 1<|aS 7 fun KS K0 DJ=>gL (sz:=4) (ps:=[]) (qs:=hv) (enc:=jZ) (w:= .slice dC hv.length de) [1] [] [] (aO (b:=b8) (T:=143)) (fun s he _=>⟨dC,s9,s8,de,rfl,pJ,fun i p hp=>(pH i p hp).ext he⟩) (eX dr) (by simp only[List.length_nil,Nat.zero_add];omega) (fun v11 L11 qH=>?_)
 rw[List.nil_append] at qH
 obtain⟨adU,adN,air⟩:=qH.form
 subst air
 refine fR DJ []<|aS 9 fun Qa Qx Iw=>jd 1 [3]<|gA Iw<|zD 1<|aS 11 fun P9 Qw Iv=>jd 1 [3]<|gA Iv<|zD 1<|bF bE ⟨(.slice yp (cs).length yo),L7,(.slice adU (hv).length adN),L11⟩ ⟨cm,qH⟩ Nat.zero_lt_one [3,1,0,2] (Sub.refl _)
structure bU where
 a:Int
 b:Int
 c:Int
 d:Int
 e:Int
 f:Int
abbrev jF(x:bU):List Value:=[zI x.a,zI x.b,zI x.c,zI x.d,zI x.e,zI x.f]
def Jz(K:aE)(l:List Value):Prop:=∃v0 v1 v3 v4 v5 v6 v7 vb fa fc,l=[v0,v1,.slice fa 0 fc,v3,v4,v5,v6,v7,zI K.gone,zI K.new,zI K.ab,vb]∧∀v∈[v0,v1,v3,v4,v5,v6,v7,vb],single v=true
theorem Jz.all(h:Jz K l):∀v∈l,single v=true:=by
 obtain⟨v0,v1,v3,v4,v5,v6,v7,vb,fa,fc,rfl,h⟩:=h
 simp only[List.mem_cons,List.not_mem_nil,or_false] at h ⊢
 rintro v (rfl|rfl|rfl|rfl|rfl|rfl|rfl|rfl|rfl|rfl|rfl|rfl)<;>first|rfl|exact h _ (by simp)
theorem cv{v:Value}{T:TypeId}{enc:α→List Value}{ps:List α}{L:Cells}(h:aw v sz T enc ps L):single v=true:=by
 obtain⟨a,c,rfl⟩:=h.form;rfl
theorem iB{v:Value}{enc:α→List Value}{ps:List α}(h:a8 ro v sz enc ps):single v=true:=by
 obtain⟨a,b,o,c,rfl,_⟩:=h;rfl
theorem qn{a b c d e f g h:Value}(h1:single a=true)(h2:single b=true)(h3:single c=true)(h4:single d=true)(h5:single e=true)(h6:single f=true)(h7:single g=true)(h8:single h=true):∀v∈[a,b,c,d,e,f,g,h],single v=true:=by
 simp only[List.mem_cons,List.not_mem_nil,or_false]
 rintro v (rfl|rfl|rfl|rfl|rfl|rfl|rfl|rfl)<;>assumption
theorem eR.L(h:eR ro l K):Jz K l:=by
 obtain⟨v0,v1,v3,v4,v5,v6,v7,vb,fa,fc,hv,rfl,⟨_,h0,_⟩,⟨_,h1,_⟩,⟨h3,h4,_⟩,_,h5,h6,h7,hb⟩:=h
 exact⟨_,_,_,_,_,_,_,_,_,_,rfl,qn (iB h0) (iB h1) (iB h3) (iB h4) (iB h5) (iB h6) (iB h7) (iB hb)⟩
theorem lR{P:Prop}{p:α}(h:([]:List α)[i]?=some p):P:=by simp at h
theorem e8{l:List α}{a:α}(h:l[i]?=some a):l.take (i+1)=l.take i++[a]:=by
 rw[List.take_succ,h];rfl
theorem mL{R:α→β→Prop}{ws:List α}{ls:List β}{w:α}{l:β}(h:dc R ws (ls.take i))(hl:ls[i]?=some l) (hr:R w l):dc R (ws++[w]) (ls.take (i+1)):=by
 rw[e8 hl];exact h.snoc hr
def hqw:ByteArray:=bs [72,81,87]
def kindOf(r:Int):Int:=if 97≤r∧r≤122 then 1 else if (65≤r∧r≤90)∧R7 hqw (UInt8.ofNat (IntKind.u8.wrap r).toNat) <0 then 2 else 0
theorem aHy:EF zT 308 Extern.BytealgIndexByte.indexByte:=⟨Tryz.f308,Tryz.func308,by kernel_rfl,by kernel_rfl,by kernel_rfl,by kernel_rfl⟩
theorem abx{a:ByteArray}{b:Int}:dv zT 300 [.string a,.int .u8 b] ro (zI (R7 a (b).toNat.toUInt8)):=by
 refine zE<|zD 8<|jib (a:=a) (b:=b) aHy<|zD 3<|zX (zI (R7 a (b).toNat.toUInt8)) ⟨rfl,rfl⟩
theorem aby{a:ByteArray}{b:Int}:dv zT 283 [.string a,.int .u8 b] ro (zI (R7 a (b).toNat.toUInt8)):=by
 refine zE<|zD 8<|jp (vs:=[.string a,.int .u8 b]) [] [] (fun aF hs hZ=>abx)<|zD 3<|zX (zI (R7 a (b).toNat.toUInt8)) ⟨rfl,rfl⟩
theorem avA{a:ByteArray}(hr:0≤r∧r <128):dv zT 259 [.string a,.int .i32 r] ro (zI (R7 a (IntKind.u8.wrap r).toNat.toUInt8)):=by
 refine zE<|zD 10<|jj 3 [(0,.string a),(1,.int .i32 r),(4,zI 0),(166,.bool ((decide (0≤r))&&(decide (r <128))))] (fun gN=>?_) (fun hj=>?_)
 rotate_left
 refine js 163 (decide (0≤r)) (fun h1=>?_) (fun h1=>?_)
 ·
  have fH:=h1
  replace fH:=of_decide_eq_true fH
  refine zD 3<|jw 166 (.bool ((decide (0≤r))&&(decide (r <128)))) (w:= .bool (decide (r <128))) (by rw[h1]<;>rfl) ?_
  exact zK hj
 ·
  have fH:=h1
  replace fH:=of_decide_eq_false fH
  refine zD 3<|jw 166 (.bool ((decide (0≤r))&&(decide (r <128)))) (w:= .bool false) (by rw[h1]<;>rfl) ?_
  exact zK hj
 refine zD 2<|js 160 ((decide (0≤r))&&(decide (r <128))) (fun h2=>?_) (fun h2=>?_)
 ·
  try simp only[zB] at h2
  refine zD 6<|jp (vs:=[.string a,.int .u8 (IntKind.u8.wrap r)]) [] [] (fun aF hs hZ=>aby)<|zD 3<|zX (zI (R7 a ((IntKind.u8.wrap r)).toNat.toUInt8)) ⟨rfl,rfl⟩
 try simp only[zB] at h2
 exfalso;omega
theorem aoC{a:ByteArray}(hr:0≤r∧r <128):dv zT 239 [.string a,.int .i32 r] ro (.bool (decide (R7 a (IntKind.u8.wrap r).toNat.toUInt8≥0))):=by
 refine zE<|zD 8<|jp (vs:=[.string a,.int .i32 r]) [] [] (fun aF hs hZ=>avA (by omega))<|zD 4<|zX (.bool (decide ((R7 a (IntKind.u8.wrap r).toNat.toUInt8)≥0))) ⟨rfl,rfl⟩
theorem aqV:dv zT 218 [.int .i32 r] ro (zI (kindOf r)):=by
 refine zE<|zD 11<|jj 3 [(0,.int .i32 r),(2,zI 0),(9,.bool ((decide (r≥97))&&(decide (r≤122))))] (fun gN=>?_) (fun hj=>?_)
 rotate_left
 refine js 6 (decide (r≥97)) (fun h1=>?_) (fun h1=>?_)
 ·
  have fH:=h1
  replace fH:=of_decide_eq_true fH
  refine zD 3<|jw 9 (.bool ((decide (r≥97))&&(decide (r≤122)))) (w:= .bool (decide (r≤122))) (by rw[h1]<;>rfl) ?_
  exact zK hj
 ·
  have fH:=h1
  replace fH:=of_decide_eq_false fH
  refine zD 3<|jw 9 (.bool ((decide (r≥97))&&(decide (r≤122)))) (w:= .bool false) (by rw[h1]<;>rfl) ?_
  exact zK hj
 refine zD 2<|js 3 ((decide (r≥97))&&(decide (r≤122))) (fun h2=>?_) (fun h2=>?_)
 ·
  try simp only[zB] at h2
  refine zD 6<|zX (zI 1) ⟨by simp only[kindOf,hqw];congr 1;(try simp at*);(repeat' split)<;>omega,rfl⟩
 try simp only[zB] at h2
 refine zD 6<|jj 3 [(0,.int .i32 r),(2,zI 0),(16,.bool ((decide (r≥65))&&(decide (r≤90))))] (fun gN=>?_) (fun hj=>?_)
 rotate_left
 refine js 13 (decide (r≥65)) (fun h3=>?_) (fun h3=>?_)
 ·
  have wR:=h3
  replace wR:=of_decide_eq_true wR
  refine zD 3<|jw 16 (.bool ((decide (r≥65))&&(decide (r≤90)))) (w:= .bool (decide (r≤90))) (by rw[h3]<;>rfl) ?_
  exact zK hj
 ·
  have wR:=h3
  replace wR:=of_decide_eq_false wR
  refine zD 3<|jw 16 (.bool ((decide (r≥65))&&(decide (r≤90)))) (w:= .bool false) (by rw[h3]<;>rfl) ?_
  exact zK hj
 refine zD 1<|jj 4 [(2,zI 0),(21,.bool (((decide (r≥65))&&(decide (r≤90)))&&(!(decide (R7 (bs [72,81,87]) (IntKind.u8.wrap r).toNat.toUInt8≥0)))))] (fun gN=>?_) (fun hj=>?_)
 rotate_left
 refine js 17 ((decide (r≥65))&&(decide (r≤90))) (fun h4=>?_) (fun h4=>?_)
 ·
  have uC:=h4
  try simp only[zB] at uC
  refine zD 1<|jp (vs:=[.string (bs [72,81,87]),.int .i32 r]) [] [] (fun aF hs hZ=>aoC (by omega))<|zD 2<|jw 21 (.bool (((decide (r≥65))&&(decide (r≤90)))&&(!(decide (R7 (bs [72,81,87]) (IntKind.u8.wrap r).toNat.toUInt8≥0))))) (w:= .bool (!(decide (R7 (bs [72,81,87]) (IntKind.u8.wrap r).toNat.toUInt8≥0)))) (by rw[h4]<;>rfl) ?_
  exact zK hj
 ·
  have uC:=h4
  try simp only[zB] at uC
  refine zD 4<|jw 21 (.bool (((decide (r≥65))&&(decide (r≤90)))&&(!(decide (R7 (bs [72,81,87]) (IntKind.u8.wrap r).toNat.toUInt8≥0))))) (w:= .bool false) (by rw[h4]<;>rfl) ?_
  exact zK hj
 refine zD 2<|js 10 (((decide (r≥65))&&(decide (r≤90)))&&(!(decide (R7 (bs [72,81,87]) (IntKind.u8.wrap r).toNat.toUInt8≥0)))) (fun h5=>?_) (fun h5=>?_)
 ·
  try simp only[zB] at h5
  refine zD 6<|zX (zI 2) ⟨by simp only[kindOf,hqw];congr 1;(try simp at*);(repeat' split)<;>omega,rfl⟩
 try simp only[zB] at h5
 refine zD 7<|zX (zI 0) ⟨by simp only[kindOf,hqw];congr 1;(try simp at*);(repeat' split)<;>omega,rfl⟩
theorem agl:((List.range 256).all fun n=> !HI (UInt8.ofNat n)||decide (kindOf (n:Int)=1))=true:=by kernel_rfl
theorem agk:((List.range 256).all fun n=> !Hq (UInt8.ofNat n)||decide (kindOf (n:Int)=2))=true:=by kernel_rfl
def aao(w:ByteArray)(k:Int):Prop:=∀b∈w.data.toList,b.toNat <128∧kindOf (b.toNat:Int)=k
theorem QT{w:ByteArray}(h:Script w):∃k:Int,(k=1∨k=2)∧aao w k:=by
 have hb:∀b:UInt8,UInt8.ofNat b.toNat=b:=fun b=>by simp
 rcases h with h|h
 ·refine⟨1,.inl rfl,fun b mT=>?_⟩
  have h1:=h b mT
  have h2:=List.all_eq_true.1 agl b.toNat (List.mem_range.2 b.toNat_lt)
  rw[hb,h1] at h2
  simp only[HI,Bool.and_eq_true,Nat.ble_eq] at h1
  exact⟨by omega,by simpa using h2⟩
 refine⟨2,.inr rfl,fun b mT=>?_⟩
 have h1:=h b mT
 have h2:=List.all_eq_true.1 agk b.toNat (List.mem_range.2 b.toNat_lt)
 rw[hb,h1] at h2
 simp only[Hq,Bool.and_eq_true,Nat.ble_eq] at h1
 exact⟨by omega,by simpa using h2⟩
theorem anc{w:ByteArray}{k:Int}(hs:1≤w.size∧w.size≤6)(hk:k=1∨k=2)(hK:aao w k):dv zT 185 [.string w] ro (zI 0):=by
 refine zE<|zD 11<|zJ 9 ((w.size:Int)=0) (fun h1=>?_) fun h1=>?_
 ·
  exfalso;omega
 refine zD 9<|zJ 12 ((w.size:Int)>6) (fun h2=>?_) fun h2=>?_
 ·
  exfalso;omega
 refine zD 10<|jn fun r14=>zD 2<|dL [1,1,1,1,0,1,0,0] [] (fun(zz:Nat×Int)=>[(3,zI zz.2),(14,zP r14)]) (fun zz=>[.b r14 (.stringIter w zz.1)]) (fun zz=>zz.1≤w.data.toList.length∧(zz.2=0∨zz.2=k)) (fun zz=>w.data.toList.length-zz.1) (⟨0,0⟩) ⟨by omega,.inl rfl⟩ [0] ?_
 rintro⟨p,sc⟩ hI K1 bE rest
 dsimp only at hI
 refine zD 2 ?_
 cases Ss:w.data.toList[p]? with
 |some A3=>
  refine jnA r14 0 Ss (hK _ (zL Ss)).1<|zD 7 ?_
  have Zl:=(hK _ (zL Ss)).2
  refine zD 7<|jp (vs:=[.int .i32 (A3.toNat:Int)]) [] [] (fun aF hs hZ=>aqV)<|zD 8<|zJ 21 (sc=0) (fun h3=>?_) fun h3=>?_
  ·
   refine zD 10<|jj 4 [(3,zI (kindOf (A3.toNat:Int))),(14,zP r14),(29,.bool ((decide ((kindOf (A3.toNat:Int))=0))||(!decide ((kindOf (A3.toNat:Int))=(kindOf (A3.toNat:Int))))))] (fun gN=>?_) (fun hj=>?_)
   rotate_left
   refine js 25 (decide ((kindOf (A3.toNat:Int))=0)) (fun h4=>?_) (fun h4=>?_)
   ·
    have uC:=h4
    replace uC:=of_decide_eq_true uC
    refine zD 4<|jw 29 (.bool ((decide ((kindOf (A3.toNat:Int))=0))||(!decide ((kindOf (A3.toNat:Int))=(kindOf (A3.toNat:Int)))))) (w:= .bool true) (by rw[h4]<;>rfl) ?_
    exact zK hj
   ·
    have uC:=h4
    replace uC:=of_decide_eq_false uC
    refine zD 4<|jw 29 (.bool ((decide ((kindOf (A3.toNat:Int))=0))||(!decide ((kindOf (A3.toNat:Int))=(kindOf (A3.toNat:Int)))))) (w:= .bool (!decide ((kindOf (A3.toNat:Int))=(kindOf (A3.toNat:Int))))) (by rw[h4]<;>rfl) ?_
    exact zK hj
   refine zD 1<|js 29 ((decide ((kindOf (A3.toNat:Int))=0))||(!decide ((kindOf (A3.toNat:Int))=(kindOf (A3.toNat:Int))))) (fun h5=>?_) (fun h5=>?_)
   ·
    try simp only[zB] at h5
    exfalso;omega
   try simp only[zB] at h5
   refine zD 2<|bF bE (⟨p+1,(kindOf (A3.toNat:Int))⟩) ⟨by have:=(List.getElem?_eq_some_iff.1 Ss).1;dsimp only;omega,by dsimp only;omega⟩ (by have:=(List.getElem?_eq_some_iff.1 Ss).1;dsimp only;omega) [0] (Sub.refl _)
  refine zD 7<|jj 4 [(3,zI sc),(14,zP r14),(29,.bool ((decide ((kindOf (A3.toNat:Int))=0))||(!decide ((kindOf (A3.toNat:Int))=sc))))] (fun gN=>?_) (fun hj=>?_)
  rotate_left
  refine js 25 (decide ((kindOf (A3.toNat:Int))=0)) (fun h6=>?_) (fun h6=>?_)
  ·
   have SS:=h6
   replace SS:=of_decide_eq_true SS
   refine zD 4<|jw 29 (.bool ((decide ((kindOf (A3.toNat:Int))=0))||(!decide ((kindOf (A3.toNat:Int))=sc)))) (w:= .bool true) (by rw[h6]<;>rfl) ?_
   exact zK hj
  ·
   have SS:=h6
   replace SS:=of_decide_eq_false SS
   refine zD 4<|jw 29 (.bool ((decide ((kindOf (A3.toNat:Int))=0))||(!decide ((kindOf (A3.toNat:Int))=sc)))) (w:= .bool (!decide ((kindOf (A3.toNat:Int))=sc))) (by rw[h6]<;>rfl) ?_
   exact zK hj
  refine zD 1<|js 29 ((decide ((kindOf (A3.toNat:Int))=0))||(!decide ((kindOf (A3.toNat:Int))=sc))) (fun h7=>?_) (fun h7=>?_)
  ·
   try simp only[zB] at h7
   exfalso;omega
  try simp only[zB] at h7
  refine zD 2<|bF bE (⟨p+1,sc⟩) ⟨by have:=(List.getElem?_eq_some_iff.1 Ss).1;dsimp only;omega,by dsimp only;omega⟩ (by have:=(List.getElem?_eq_some_iff.1 Ss).1;dsimp only;omega) [0] (Sub.refl _)
 |none=>
  refine jnZ r14 0 Ss<|zD 10<|zX (zI 0) ⟨rfl,rfl⟩
def fw:=(ig Tryz.typeInfo3 Tryz.underlying3 rfl rfl rfl rfl rfl rfl:TF zT 3 _ 1 8 _ false)
theorem Ti(a b c d:Int)(dep:Nat):EqD zT (dep+2) 73 (.agg ⟨[zI a,zI b]⟩) (.agg ⟨[zI c,zI d]⟩) (a==c&&(b==d&&true)):=
 jO (ig Tryz.typeInfo73 Tryz.underlying73 rfl rfl rfl rfl rfl rfl) Tryz.stoodInHeld73 (.cons (by decide) (cg fw rfl) (cg fw rfl) (gk fw _ _) (.cons (by decide) (cg fw rfl) (cg fw rfl) (gk fw _ _) .nil))
theorem u9(a b c d:Int):EqV zT 73 (.agg ⟨[zI a,zI b]⟩) (.agg ⟨[zI c,zI d]⟩) (a==c&&(b==d&&true)):=uI (Ti a b c d _)
theorem ayq(a b c d e f:Int):EqV zT 164 (.agg ⟨[zI a,zI b,zI c]⟩) (.agg ⟨[zI d,zI e,zI f]⟩) (a==d&&(b==e&&(c==f&&true)&&true)):=
 uI (jO (ig Tryz.typeInfo164 Tryz.underlying164 rfl rfl rfl rfl rfl rfl) Tryz.stoodInHeld164 (.cons (by decide) (cg fw rfl) (cg fw rfl) (gk fw _ _) (.cons (by decide) (ud (ig Tryz.typeInfo73 Tryz.underlying73 rfl rfl rfl rfl rfl rfl) rfl) (ud (ig Tryz.typeInfo73 Tryz.underlying73 rfl rfl rfl rfl rfl rfl) rfl) (Ti _ _ _ _ _) .nil)))
theorem Fv:jR zT 73:=Tryz.eqGuardType73
theorem aDp:jR zT 164:=Tryz.eqGuardType164
def Da(n l:Int)(y:ai):Bool:=n==y.n&&(l==y.l&&true)
theorem Vn{w:ByteArray}(hs:1≤w.size∧w.size≤6)(h:Script w):dv zT 185 [.string w] ro (zI 0):=by
 obtain⟨k,h1,h2⟩:=QT h
 exact anc hs h1 h2
theorem BI:dv zT 87 [zI 0] ro (.tuple ⟨[]⟩):=by
 refine zE<|zD 7<|zX (.tuple ⟨[]⟩) ⟨rfl,rfl⟩
theorem YQ:dv zT 86 [.agg ⟨[.string x.name,zI x.st,zI x.no,zI x.head,.bool x.bold]⟩] ro (.agg ⟨[zI x.st,zI x.no,zI 0]⟩):=by
 refine zE<|zD 2<|jn fun b1=>jn fun b2=>jd 12 [1,1,0]<|zR (.agg ⟨[zI x.st,zI x.no,zI 0]⟩) [0] [] [] ⟨rfl,rfl⟩
theorem agE{v:Value}{ps:List ai}{l:Int}(hp:a8 ro v 2 cA ps)(hn:ps.length≤1000):dv zT 219 [v,.agg ⟨[zI n,zI l]⟩] ro (zI (bJ (Da n l) ps 0)):=by
 obtain⟨Hc,qpb,qpo,Bu,rfl,qpk,NO,NN⟩:=hp
 refine zE<|zD 2<|jn fun b3=>zD 10<|dL [1,0,1,0,0] [] (fun(zz:Nat)=>[(0,.slice Hc ps.length Bu),(3,zP b3),(7,zI (ps.length:Int)),(8,zI (zz:Int))]) (fun zz=>[.b b3 (.cells ⟨[zI n,zI l]⟩ 73 (0,0))]) (fun zz=>zz≤ps.length∧bJ (Da n l) ps 0=bJ (Da n l) (ps.drop zz) zz) (fun zz=>ps.length-zz) 0 ⟨by omega,rfl⟩ [0] ?_
 rintro k hI K1 bE rest
 refine zD 5<|zJ 9 ((k:Int) <(ps.length:Int)) (fun h1=>?_) fun h1=>?_
 ·
  refine jd 14 [0] ?_
  obtain⟨eE,dN⟩:=zG ps k
  refine fL Bu 2 NO dN<|jl 0 (NN _ _ dN)<|jeq Fv (u9 n l eE.n eE.l)<|zD 1<|js 16 (n==eE.n&&(l==eE.l&&true)) (fun h2=>?_) (fun h2=>?_)
  ·
   refine zD 7<|zX (zI (k:Int)) ⟨by rw[hI.2,gJ dN,show Da n l eE=true from (by assumption)];rfl,rfl⟩
  refine zD 3<|ja ((k:Int)+1) (by omega)<|zD 2<|bF bE (k+1) ⟨by omega,by rw[hI.2,gJ dN,show Da n l eE=false from (by assumption)];rfl⟩ (by omega) [0] (Sub.refl _)
 refine zD 7<|zX (zI (-1)) ⟨by rw[hI.2,nu (by omega)],rfl⟩
theorem Mt{v:Value}{ps:List ai}{l:Int}(hp:a8 ro v 2 cA ps)(hn:ps.length≤1000):dv zT 186 [v,.agg ⟨[zI n,zI l]⟩] ro (.bool (decide (bJ (Da n l) ps 0≥0))):=by
 obtain⟨Hc,qpb,qpo,Bu,rfl,qpk,NO,NN⟩:=hp
 refine zE<|zD 2<|jn fun b3=>jd 6 [0]<|jp (vs:=[.slice Hc ps.length Bu,.agg ⟨[zI n,zI l]⟩]) [] [] (fun aF hs hZ=>agE ((show a8 _ _ _ _ _ from ⟨Hc,qpb,qpo,Bu,rfl,qpk,NO,NN⟩).up hs) (by first|omega| (simp only[List.length_set,zM];omega))) ?_
 refine zD 4<|zX (.bool (decide ((bJ (Da n l) ps 0)≥0))) ⟨rfl,rfl⟩
theorem Zr{i:Int}(h:ou hd i): -1≤i∧i <hd.length:=by
 rcases h with h| ⟨h0,x,h1,_⟩
 ·omega
 have:=(List.getElem?_eq_some_iff.1 h1).1
 omega
theorem SI{hv:List aY}{i:Int}{x:aY}(h:dc du hv hd)(hi:ou hd i)(h0:i≥0)(hx:hv[i.toNat]?=some x):0≤x.cls:=by
 rcases hi with hi| ⟨_,y,h1,h2⟩
 ·omega
 obtain⟨z,h3,h4⟩:=h.get hx
 rw[h1] at h3;cases h3
 rw[h4.2.1];exact h2
theorem LP{S:List (List ai)}{l:List ai}(h:apM S hd x)(hl:S[x.st.toNat]?=some l):bJ (Da x.no 0) l 0≥0:=by
 obtain⟨l',h1,h2⟩:=h.2
 rw[h1] at hl;cases hl
 have key:∀(l:List ai) (k:Nat),(⟨x.no,0⟩:ai)∈l→bJ (Da x.no 0) l k≥0:=by
  intro l
  induction l with
  |nil=>intro k h;cases h
  |cons y l ih=>
   intro k h
   simp only[bJ]
   cases hx:Da x.no 0 y with
   |true=>simp
   |false=>
    simp only[cond_false]
    rcases List.mem_cons.1 h with rfl|h
    ·simp[Da] at hx
    exact ih _ h
 exact key _ 0 h2
theorem agy(hK:eR ro l K)(hO:jm K)(hx:apM K.str K.hd x):dv zT 156 [.agg ⟨l⟩,.agg ⟨[.string x.name,zI x.st,zI x.no,zI x.head,.bool x.bold]⟩,.bool true] ro (zI 0):=by
 obtain⟨vS,vT,vc,vh,vr,vb,va,vf,fa,fc,hv,rfl,hS,hT,nF,mH,hr,hb,ha,hf⟩:=hK
 obtain⟨fD,hs,ei⟩:=id hS
 obtain⟨fK,ht,dY⟩:=id hT
 obtain⟨hc,hh,rJ⟩:=id nF
 obtain⟨kg,PO,PM,jo,rfl,PN,Gg,Gf⟩:=hs
 obtain⟨eB,yM,yK,dH,rfl,yL,qt,qp⟩:=ht
 obtain⟨dS,yw,yu,dP,rfl,AR,vK,vJ⟩:=hc
 obtain⟨dC,s9,s8,de,rfl,uX,pJ,pH⟩:=hh
 obtain⟨ju,Fg,Ff,jq,rfl,Kb,Ey,Ex⟩:=hr
 obtain⟨jD,Hf,Hd,jv,rfl,He,Gi,Gh⟩:=hb
 obtain⟨iW,Fs,Fj,iQ,rfl,Fo,EA,Ez⟩:=ha
 obtain⟨fp,td,tb,eS,rfl,wu,pM,pK⟩:=hf
 have yR:=hO.rules
 have pF:=hO.before.1
 have JL:=hO.after.1
 have JK:=hO.facts.1
 have MC:=hO.ways.1
 have Gs:=ei.len
 have DE:=dY.len
 have Ua:=hO.m8.two
 have Zk:=hO.cX.nh
 have Hb:∀(i:Nat) (p:bU),([]:List bU)[i]?=some p→cb ⟨ro,[]⟩ 0 (0+i*6) 6 (jF p):=fun _ _ h=>lR h
 have hNm:=hx.1.1
 have hNs:=hNm.1
 have hHd:=hx.1.2.1
 have hHl:=Zr hHd
 have hSt:=hx.1.2.2.1
 have hBd:=hx.1.2.2.2
 have hlen:=mH.len
 refine zE<|zD 2<|jn fun b3=>jn fun b4=>jd 7 [0]<|jp (vs:=[.string x.name]) [] [] (fun aF hs hZ=>(Vn (by omega) hNm.2))<|jd 27 [1,0,1]<|ja ((hv.length:Int)-1) (by omega)<|jp (vs:=[zI x.head,zI (-1),zI ((hv.length:Int)-1)]) [] [] (fun aF hs hZ=>dW)<|zD 3<|js 19 (!(gT x.head (-1) ((hv.length:Int)-1))) (fun h1=>?_) (fun h1=>?_)
 ·
  try simp only[zB] at h1
  exfalso;simp only[gT,Bool.and_eq_false_iff,decide_eq_false_iff_not] at h1;omega
 try simp only[zB] at h1
 refine jd 7 [0]<|js 33 (decide (x.head≥0)) (fun h2=>?_) (fun h2=>?_)
 ·
  have kI:=h2
  replace kI:=of_decide_eq_true kI
  refine jd 5 [1,0] ?_
  obtain⟨Ga,yB⟩:=zG hv (x.head.toNat)
  refine PT x.head de 4 pJ yB (by omega)<|zD 1<|jl 1 (pH _ _ yB)<|zD 4<|zJ 29 (Ga.cls=(-1)) (fun h3=>?_) fun h3=>?_
  ·
   exfalso;have:=SI mH hHd (by omega) yB;omega
  refine jd 8 [0]<|ja ((fD.length:Int)-1) (by omega)<|jp (vs:=[zI x.st,zI 0,zI ((fD.length:Int)-1)]) [] [] (fun aF hs hZ=>dW)<|zD 3<|js 44 (!(gT x.st 0 ((fD.length:Int)-1))) (fun h4=>?_) (fun h4=>?_)
  ·
   try simp only[zB] at h4
   exfalso;simp only[gT,Bool.and_eq_false_iff,decide_eq_false_iff_not] at h4;omega
  try simp only[zB] at h4
  refine jd 7 [0] ?_
  obtain⟨x57,FB⟩:=zG fD (x.st.toNat)
  refine PT x.st jo 1 Gg FB (by omega) ?_
  obtain⟨l58,ah4,h58⟩:=ei.get FB
  obtain aQJ:=hO.m8.len _ (zL ah4)
  obtain⟨ae3,auh,aud,ae2,rfl,auf,aug,aue⟩:=h58
  refine jl 0 (Gf _ _ FB)<|jd 1 [0]<|jp (vs:=[.agg ⟨[.string x.name,zI x.st,zI x.no,zI x.head,.bool x.bold]⟩]) [] [] (fun aF hs hZ=>(YQ (x:=(⟨x.name,x.st,x.no,x.head,x.bold⟩:aB))))<|zD 1<|jp (vs:=[.slice ae3 l58.length ae2,.agg ⟨[zI x.no,zI 0]⟩]) [] [] (fun aF hs hZ=>Mt ((show a8 _ _ _ _ _ from ⟨ae3,auh,aud,ae2,rfl,auf,aug,aue⟩).up hs) (by first|omega| (simp only[List.length_set,zM];omega))) ?_
  refine zD 4<|js 44 (!(decide (bJ (Da x.no 0) l58 0≥0))) (fun h5=>?_) (fun h5=>?_)
  ·
   try simp only[zB] at h5
   exfalso;have:=LP hx ah4;omega
  try simp only[zB] at h5
  refine jd 20 [0]<|js 74 x.bold (fun h6=>?_) (fun h6=>?_)
  ·
   exfalso;rw[hBd] at h6;cases h6
  refine zD 7<|zX (zI 0) ⟨rfl,rfl⟩
 have kI:=h2
 replace kI:=of_decide_eq_false kI
 refine jd 20 [0]<|ja ((fD.length:Int)-1) (by omega)<|jp (vs:=[zI x.st,zI 0,zI ((fD.length:Int)-1)]) [] [] (fun aF hs hZ=>dW)<|zD 3<|js 44 (!(gT x.st 0 ((fD.length:Int)-1))) (fun h7=>?_) (fun h7=>?_)
 ·
  try simp only[zB] at h7
  exfalso;simp only[gT,Bool.and_eq_false_iff,decide_eq_false_iff_not] at h7;omega
 try simp only[zB] at h7
 refine jd 7 [0] ?_
 obtain⟨x57,FB⟩:=zG fD (x.st.toNat)
 refine PT x.st jo 1 Gg FB (by omega) ?_
 obtain⟨l58,ah4,h58⟩:=ei.get FB
 obtain aQJ:=hO.m8.len _ (zL ah4)
 obtain⟨ae3,auh,aud,ae2,rfl,auf,aug,aue⟩:=h58
 refine jl 0 (Gf _ _ FB)<|jd 1 [0]<|jp (vs:=[.agg ⟨[.string x.name,zI x.st,zI x.no,zI x.head,.bool x.bold]⟩]) [] [] (fun aF hs hZ=>(YQ (x:=(⟨x.name,x.st,x.no,x.head,x.bold⟩:aB))))<|zD 1<|jp (vs:=[.slice ae3 l58.length ae2,.agg ⟨[zI x.no,zI 0]⟩]) [] [] (fun aF hs hZ=>Mt ((show a8 _ _ _ _ _ from ⟨ae3,auh,aud,ae2,rfl,auf,aug,aue⟩).up hs) (by first|omega| (simp only[List.length_set,zM];omega))) ?_
 refine zD 4<|js 44 (!(decide (bJ (Da x.no 0) l58 0≥0))) (fun h8=>?_) (fun h8=>?_)
 ·
  try simp only[zB] at h8
  exfalso;have:=LP hx ah4;omega
 try simp only[zB] at h8
 refine jd 20 [0]<|js 74 x.bold (fun h9=>?_) (fun h9=>?_)
 ·
  exfalso;rw[hBd] at h9;cases h9
 refine zD 7<|zX (zI 0) ⟨rfl,rfl⟩
theorem agz(hK:eR ro l K)(hO:jm K)(hx:aIy K.hd x):dv zT 156 [.agg ⟨l⟩,.agg ⟨[.string x.name,zI x.st,zI x.no,zI x.head,.bool x.bold]⟩,.bool false] ro (zI 0):=by
 obtain⟨vS,vT,vc,vh,vr,vb,va,vf,fa,fc,hv,rfl,hS,hT,nF,mH,hr,hb,ha,hf⟩:=hK
 obtain⟨fD,hs,ei⟩:=id hS
 obtain⟨fK,ht,dY⟩:=id hT
 obtain⟨hc,hh,rJ⟩:=id nF
 obtain⟨kg,PO,PM,jo,rfl,PN,Gg,Gf⟩:=hs
 obtain⟨eB,yM,yK,dH,rfl,yL,qt,qp⟩:=ht
 obtain⟨dS,yw,yu,dP,rfl,AR,vK,vJ⟩:=hc
 obtain⟨dC,s9,s8,de,rfl,uX,pJ,pH⟩:=hh
 obtain⟨ju,Fg,Ff,jq,rfl,Kb,Ey,Ex⟩:=hr
 obtain⟨jD,Hf,Hd,jv,rfl,He,Gi,Gh⟩:=hb
 obtain⟨iW,Fs,Fj,iQ,rfl,Fo,EA,Ez⟩:=ha
 obtain⟨fp,td,tb,eS,rfl,wu,pM,pK⟩:=hf
 have yR:=hO.rules
 have pF:=hO.before.1
 have JL:=hO.after.1
 have JK:=hO.facts.1
 have MC:=hO.ways.1
 have Gs:=ei.len
 have DE:=dY.len
 have Ua:=hO.m8.two
 have Zk:=hO.cX.nh
 have Hb:∀(i:Nat) (p:bU),([]:List bU)[i]?=some p→cb ⟨ro,[]⟩ 0 (0+i*6) 6 (jF p):=fun _ _ h=>lR h
 have hNm:=hx.1.1
 have hNs:=hNm.1
 have hHd:=hx.1.2.1
 have hHl:=Zr hHd
 have hSt:=hx.1.2.2.1
 have hBd:=hx.1.2.2.2
 have hlen:=mH.len
 have hNo:=hx.2
 refine zE<|zD 2<|jn fun b3=>jn fun b4=>jd 7 [0]<|jp (vs:=[.string x.name]) [] [] (fun aF hs hZ=>(Vn (by omega) hNm.2))<|jd 27 [1,0,1]<|ja ((hv.length:Int)-1) (by omega)<|jp (vs:=[zI x.head,zI (-1),zI ((hv.length:Int)-1)]) [] [] (fun aF hs hZ=>dW)<|zD 3<|js 19 (!(gT x.head (-1) ((hv.length:Int)-1))) (fun h1=>?_) (fun h1=>?_)
 ·
  try simp only[zB] at h1
  exfalso;simp only[gT,Bool.and_eq_false_iff,decide_eq_false_iff_not] at h1;omega
 try simp only[zB] at h1
 refine jd 7 [0]<|js 33 (decide (x.head≥0)) (fun h2=>?_) (fun h2=>?_)
 ·
  have kI:=h2
  replace kI:=of_decide_eq_true kI
  refine jd 5 [1,0] ?_
  obtain⟨Ga,yB⟩:=zG hv (x.head.toNat)
  refine PT x.head de 4 pJ yB (by omega)<|zD 1<|jl 1 (pH _ _ yB)<|zD 4<|zJ 29 (Ga.cls=(-1)) (fun h3=>?_) fun h3=>?_
  ·
   exfalso;have:=SI mH hHd (by omega) yB;omega
  refine jd 8 [0]<|ja ((fD.length:Int)-1) (by omega)<|jp (vs:=[zI x.st,zI 0,zI ((fD.length:Int)-1)]) [] [] (fun aF hs hZ=>dW)<|zD 3<|js 44 (!(gT x.st 0 ((fD.length:Int)-1))) (fun h4=>?_) (fun h4=>?_)
  ·
   try simp only[zB] at h4
   exfalso;simp only[gT,Bool.and_eq_false_iff,decide_eq_false_iff_not] at h4;omega
  try simp only[zB] at h4
  refine jd 25 [0]<|jp (vs:=[zI x.no,zI 1,zI 40]) [] [] (fun aF hs hZ=>dW)<|zD 4<|js 65 (!(gT x.no 1 40)) (fun h5=>?_) (fun h5=>?_)
  ·
   try simp only[zB] at h5
   exfalso;simp only[gT,Bool.and_eq_false_iff,decide_eq_false_iff_not] at h5;omega
  try simp only[zB] at h5
  refine jd 7 [0]<|js 74 x.bold (fun h6=>?_) (fun h6=>?_)
  ·
   exfalso;rw[hBd] at h6;cases h6
  refine zD 7<|zX (zI 0) ⟨rfl,rfl⟩
 have kI:=h2
 replace kI:=of_decide_eq_false kI
 refine jd 20 [0]<|ja ((fD.length:Int)-1) (by omega)<|jp (vs:=[zI x.st,zI 0,zI ((fD.length:Int)-1)]) [] [] (fun aF hs hZ=>dW)<|zD 3<|js 44 (!(gT x.st 0 ((fD.length:Int)-1))) (fun h7=>?_) (fun h7=>?_)
 ·
  try simp only[zB] at h7
  exfalso;simp only[gT,Bool.and_eq_false_iff,decide_eq_false_iff_not] at h7;omega
 try simp only[zB] at h7
 refine jd 25 [0]<|jp (vs:=[zI x.no,zI 1,zI 40]) [] [] (fun aF hs hZ=>dW)<|zD 4<|js 65 (!(gT x.no 1 40)) (fun h8=>?_) (fun h8=>?_)
 ·
  try simp only[zB] at h8
  exfalso;simp only[gT,Bool.and_eq_false_iff,decide_eq_false_iff_not] at h8;omega
 try simp only[zB] at h8
 refine jd 7 [0]<|js 74 x.bold (fun h9=>?_) (fun h9=>?_)
 ·
  exfalso;rw[hBd] at h9;cases h9
 refine zD 7<|zX (zI 0) ⟨rfl,rfl⟩
theorem eR.up{aC:Nat→Option Obj}(h:eR ro l K)(hs:Sub ro aC):eR aC l K:=by
 obtain⟨vS,vT,vc,vh,vr,vb,va,vf,fa,fc,hv,rfl,h1,h2,h3,h4,h5,h6,h7,h8⟩:=h
 exact⟨_,_,_,_,_,_,_,_,_,_,_,rfl,h1.up hs,h2.up hs,h3.up hs,h4,h5.up hs,h6.up hs,h7.up hs,h8.up hs⟩
theorem agA(hK:eR ro l K)(hO:jm K)(hp:a8 ro vp 5 di K.before):dv zT 121 [.agg ⟨l⟩,vp,.bool true] ro (zI 0):=by
 have MJ:=hK
 obtain⟨vS,vT,vc,vh,vr,vb,va,vf,fa,fc,hv,rfl,hS,hT,nF,mH,hr,hb,ha,hf⟩:=hK
 obtain⟨fD,hs,ei⟩:=id hS
 obtain⟨fK,ht,dY⟩:=id hT
 obtain⟨hc,hh,rJ⟩:=id nF
 obtain⟨kg,PO,PM,jo,rfl,PN,Gg,Gf⟩:=hs
 obtain⟨eB,yM,yK,dH,rfl,yL,qt,qp⟩:=ht
 obtain⟨dS,yw,yu,dP,rfl,AR,vK,vJ⟩:=hc
 obtain⟨dC,s9,s8,de,rfl,uX,pJ,pH⟩:=hh
 obtain⟨ju,Fg,Ff,jq,rfl,Kb,Ey,Ex⟩:=hr
 obtain⟨jD,Hf,Hd,jv,rfl,He,Gi,Gh⟩:=hb
 obtain⟨iW,Fs,Fj,iQ,rfl,Fo,EA,Ez⟩:=ha
 obtain⟨fp,td,tb,eS,rfl,wu,pM,pK⟩:=hf
 have yR:=hO.rules
 have pF:=hO.before.1
 have JL:=hO.after.1
 have JK:=hO.facts.1
 have MC:=hO.ways.1
 have Gs:=ei.len
 have DE:=dY.len
 have Ua:=hO.m8.two
 have Zk:=hO.cX.nh
 have Hb:∀(i:Nat) (p:bU),([]:List bU)[i]?=some p→cb ⟨ro,[]⟩ 0 (0+i*6) 6 (jF p):=fun _ _ h=>lR h
 obtain⟨Hc,qpb,qpo,Bu,rfl,qpk,NO,NN⟩:=hp
 refine zE<|zD 2<|jn fun b3=>zD 9<|zJ 12 ((K.before.length:Int)>4) (fun h1=>?_) fun h1=>?_
 ·
  exfalso;omega
 refine zD 10<|dL [1,1,0,1,0,0] [] (fun(zz:Nat)=>[(2,.bool true),(3,zP b3),(13,.slice Hc K.before.length Bu),(14,zI (K.before.length:Int)),(15,zI (zz:Int))]) (fun zz=>[.b b3 (.cells ⟨[.slice kg fD.length jo,.slice eB fK.length dH,.slice fa 0 fc,.slice dS K.cs.length dP,.slice dC hv.length de,.slice ju K.rules.length jq,.slice jD K.before.length jv,.slice iW K.after.length iQ,zI K.gone,zI K.new,zI K.ab,.slice fp K.facts.length eS]⟩ 40 (0,0))]) (fun zz=>zz≤K.before.length) (fun zz=>K.before.length-zz) 0 (by omega) [0] ?_
 rintro k hI K1 bE rest
 refine zD 5<|zJ 16 ((k:Int) <(K.before.length:Int)) (fun h2=>?_) fun h2=>?_
 ·
  refine zD 6 ?_
  obtain⟨Xt,HV⟩:=zG K.before k
  refine fL Bu 5 NO HV<|jl 0 (NN _ _ HV)<|jn fun b8=>jd 7 [0,1,0]<|jp (vs:=[.agg ⟨[.slice kg fD.length jo,.slice eB fK.length dH,.slice fa 0 fc,.slice dS K.cs.length dP,.slice dC hv.length de,.slice ju K.rules.length jq,.slice jD K.before.length jv,.slice iW K.after.length iQ,zI K.gone,zI K.new,zI K.ab,.slice fp K.facts.length eS]⟩,.agg ⟨[.string Xt.name,zI Xt.st,zI Xt.no,zI Xt.head,.bool Xt.bold]⟩,.bool true]) [] [] (fun aF hs hZ=>(agy (x:=Xt) (MJ.up hs) hO (hO.before.2 _ (zL HV))))<|zD 10<|ja ((k:Int)+1) (by omega)<|zD 2<|bF bE (k+1) (by omega) (by omega) [1] (Sub.refl _)
 refine zD 7<|zX (zI 0) ⟨rfl,rfl⟩
theorem agB(hK:eR ro l K)(hO:jm K)(hp:a8 ro vp 5 di K.after):dv zT 121 [.agg ⟨l⟩,vp,.bool false] ro (zI 0):=by
 have MJ:=hK
 obtain⟨vS,vT,vc,vh,vr,vb,va,vf,fa,fc,hv,rfl,hS,hT,nF,mH,hr,hb,ha,hf⟩:=hK
 obtain⟨fD,hs,ei⟩:=id hS
 obtain⟨fK,ht,dY⟩:=id hT
 obtain⟨hc,hh,rJ⟩:=id nF
 obtain⟨kg,PO,PM,jo,rfl,PN,Gg,Gf⟩:=hs
 obtain⟨eB,yM,yK,dH,rfl,yL,qt,qp⟩:=ht
 obtain⟨dS,yw,yu,dP,rfl,AR,vK,vJ⟩:=hc
 obtain⟨dC,s9,s8,de,rfl,uX,pJ,pH⟩:=hh
 obtain⟨ju,Fg,Ff,jq,rfl,Kb,Ey,Ex⟩:=hr
 obtain⟨jD,Hf,Hd,jv,rfl,He,Gi,Gh⟩:=hb
 obtain⟨iW,Fs,Fj,iQ,rfl,Fo,EA,Ez⟩:=ha
 obtain⟨fp,td,tb,eS,rfl,wu,pM,pK⟩:=hf
 have yR:=hO.rules
 have pF:=hO.before.1
 have JL:=hO.after.1
 have JK:=hO.facts.1
 have MC:=hO.ways.1
 have Gs:=ei.len
 have DE:=dY.len
 have Ua:=hO.m8.two
 have Zk:=hO.cX.nh
 have Hb:∀(i:Nat) (p:bU),([]:List bU)[i]?=some p→cb ⟨ro,[]⟩ 0 (0+i*6) 6 (jF p):=fun _ _ h=>lR h
 obtain⟨Hc,qpb,qpo,Bu,rfl,qpk,NO,NN⟩:=hp
 refine zE<|zD 2<|jn fun b3=>zD 9<|zJ 12 ((K.after.length:Int)>4) (fun h1=>?_) fun h1=>?_
 ·
  exfalso;omega
 refine zD 10<|dL [1,1,0,1,0,0] [] (fun(zz:Nat)=>[(2,.bool false),(3,zP b3),(13,.slice Hc K.after.length Bu),(14,zI (K.after.length:Int)),(15,zI (zz:Int))]) (fun zz=>[.b b3 (.cells ⟨[.slice kg fD.length jo,.slice eB fK.length dH,.slice fa 0 fc,.slice dS K.cs.length dP,.slice dC hv.length de,.slice ju K.rules.length jq,.slice jD K.before.length jv,.slice iW K.after.length iQ,zI K.gone,zI K.new,zI K.ab,.slice fp K.facts.length eS]⟩ 40 (0,0))]) (fun zz=>zz≤K.after.length) (fun zz=>K.after.length-zz) 0 (by omega) [0] ?_
 rintro k hI K1 bE rest
 refine zD 5<|zJ 16 ((k:Int) <(K.after.length:Int)) (fun h2=>?_) fun h2=>?_
 ·
  refine zD 6 ?_
  obtain⟨Xt,HV⟩:=zG K.after k
  refine fL Bu 5 NO HV<|jl 0 (NN _ _ HV)<|jn fun b8=>jd 7 [0,1,0]<|jp (vs:=[.agg ⟨[.slice kg fD.length jo,.slice eB fK.length dH,.slice fa 0 fc,.slice dS K.cs.length dP,.slice dC hv.length de,.slice ju K.rules.length jq,.slice jD K.before.length jv,.slice iW K.after.length iQ,zI K.gone,zI K.new,zI K.ab,.slice fp K.facts.length eS]⟩,.agg ⟨[.string Xt.name,zI Xt.st,zI Xt.no,zI Xt.head,.bool Xt.bold]⟩,.bool false]) [] [] (fun aF hs hZ=>(agz (x:=Xt) (MJ.up hs) hO (hO.after.2 _ (zL HV))))<|zD 10<|ja ((k:Int)+1) (by omega)<|zD 2<|bF bE (k+1) (by omega) (by omega) [1] (Sub.refl _)
 refine zD 7<|zX (zI 0) ⟨rfl,rfl⟩
theorem au7{x y:bK}(hb:ro b=some (.cells ⟨[zI y.a,zI y.b,.bool y.same]⟩ 54 (0,0))):dv zT 93 [.agg ⟨[zI x.a,zI x.b,.bool x.same]⟩,zP b] ro (.bool (decide (x.a=y.a)&&decide (x.b=y.b))):=by
 refine zE<|zD 2<|jn fun b2=>jd 7 [0]<|jl (b:=b) (off:=0) (m:=3) (vs:=[zI y.a,zI y.b,.bool y.same]) 0 ⟨_,_,_,.inl hb,rfl⟩<|zD 2<|jj 6 [(3,.bool false),(15,.bool ((decide (x.a=y.a))&&(decide (x.b=y.b))))] (fun gN=>?_) (fun hj=>?_)
 rotate_left
 refine js 9 (decide (x.a=y.a)) (fun h1=>?_) (fun h1=>?_)
 ·
  have fH:=h1
  replace fH:=of_decide_eq_true fH
  refine jd 3 [0]<|jl (b:=b) (off:=0) (m:=3) (vs:=[zI y.a,zI y.b,.bool y.same]) 1 ⟨_,_,_,.inl hb,rfl⟩<|zD 2<|jw 15 (.bool ((decide (x.a=y.a))&&(decide (x.b=y.b)))) (w:= .bool (decide (x.b=y.b))) (by rw[h1]<;>rfl) ?_
  exact zK hj
 ·
  have fH:=h1
  replace fH:=of_decide_eq_false fH
  refine zD 6<|jw 15 (.bool ((decide (x.a=y.a))&&(decide (x.b=y.b)))) (w:= .bool false) (by rw[h1]<;>rfl) ?_
  exact zK hj
 refine zD 3<|zX (.bool ((decide (x.a=y.a))&&(decide (x.b=y.b)))) ⟨rfl,rfl⟩
def zh(x y:bK):Bool:=decide (y.a=x.a)&&decide (y.b=x.b)
theorem DU{p:α→Bool}:∀ {l:List α} {k:Nat},(∀y∈l,p y=false)→bJ p l k= -1
 | [],_,_=>rfl
 |x::l,k,h=>by simp only[bJ,h x (List.mem_cons_self ..),cond_false];exact DU fun y hy=>h y (List.mem_cons_of_mem _ hy)
theorem ajO{x:bK}(h:fs.Pairwise fun x y=>¬(x.a=y.a∧x.b=y.b))(hx:fs[i]?=some x):bJ (zh x) (fs.take i) 0 <0:=by
 rw[DU]
 ·omega
 intro y hy
 obtain⟨j,hj⟩:=List.getElem?_of_mem hy
 rw[List.getElem?_take] at hj
 split at hj
 ·rename_i AV
  have:=qu h AV hj hx
  simp only[zh,Bool.and_eq_false_iff,decide_eq_false_iff_not]
  by_cases h1:y.a=x.a
  ·exact .inr fun h2=>this ⟨h1,h2⟩
  exact .inl h1
 cases hj
theorem avr{v:Value}{x:bK}(hf:a8 ro v 3 kJ fs)(hn:fs.length≤1000)(hb:ro b=some (.cells ⟨[zI x.a,zI x.b,.bool x.same]⟩ 54 (0,0))):dv zT 125 [v,.func (.func 93) ⟨[]⟩ ⟨[zP b]⟩] ro (zI (bJ (zh x) fs 0)):=by
 obtain⟨fp,td,tb,eS,rfl,wu,pM,pK⟩:=hf
 refine zE<|zD 12<|dL [1,0,1,0,0] [] (fun(zz:Nat)=>[(0,.slice fp fs.length eS),(1,.func (.func 93) ⟨[]⟩ ⟨[zP b]⟩),(7,zI (fs.length:Int)),(8,zI (zz:Int))]) (fun zz=>[]) (fun zz=>zz≤fs.length∧bJ (zh x) fs 0=bJ (zh x) (fs.drop zz) zz) (fun zz=>fs.length-zz) 0 ⟨by omega,rfl⟩ [] ?_
 rintro k hI K1 bE rest
 refine zD 5<|zJ 9 ((k:Int) <(fs.length:Int)) (fun h1=>?_) fun h1=>?_
 ·
  refine zD 14 ?_
  obtain⟨eE,dN⟩:=zG fs k
  refine fL eS 3 pM dN<|jl 0 (pK _ _ dN)<|jp (vs:=[.agg ⟨[zI eE.a,zI eE.b,.bool eE.same]⟩,zP b]) [] [] (fun aF hs hZ=>(au7 (hs _ _ hb)))<|zD 1<|js 16 (zh x eE) (fun h2=>?_) (fun h2=>?_)
  ·
   refine zD 7<|zX (zI (k:Int)) ⟨by rw[hI.2,gJ dN,show zh x eE=true from (by assumption)];rfl,rfl⟩
  refine zD 3<|ja ((k:Int)+1) (by omega)<|zD 2<|bF bE (k+1) ⟨by omega,by rw[hI.2,gJ dN,show zh x eE=false from (by assumption)];rfl⟩ (by omega) [] (Sub.refl _)
 refine zD 7<|zX (zI (-1)) ⟨by rw[hI.2,nu (by omega)],rfl⟩
theorem YR{v:Value}{x:bK}(hf:a8 ro v 3 kJ fs)(hn:fs.length≤1000)(hb:ro b=some (.cells ⟨[zI x.a,zI x.b,.bool x.same]⟩ 54 (0,0))):dv zT 92 [v,.func (.func 93) ⟨[]⟩ ⟨[zP b]⟩] ro (.bool (decide (bJ (zh x) fs 0≥0))):=by
 obtain⟨fp,td,tb,eS,rfl,wu,pM,pK⟩:=hf
 refine zE<|zD 8<|jp (vs:=[.slice fp fs.length eS,.func (.func 93) ⟨[]⟩ ⟨[zP b]⟩]) [] [] (fun aF hs hZ=>avr ((show a8 _ _ _ _ _ from ⟨fp,td,tb,eS,rfl,wu,pM,pK⟩).up hs) (by first|omega| (simp only[List.length_set,zM];omega)) (hs _ _ hb)) ?_
 refine zD 4<|zX (.bool (decide ((bJ (zh x) fs 0)≥0))) ⟨rfl,rfl⟩
theorem arc{x:bK}(hK:eR ro l K)(hO:jm K)(hp:a8 ro vp 3 kJ fs)(hn:fs.length≤1000)(hx:(0≤x.a∧x.a <K.before.length)∧(0≤x.b∧x.b <K.after.length))(hw:bJ (zh x) fs 0 <0):dv zT 55 [.agg ⟨l⟩,vp,.agg ⟨[zI x.a,zI x.b,.bool x.same]⟩] ro (zI 0):=by
 obtain⟨vS,vT,vc,vh,vr,vb,va,vf,fa,fc,hv,rfl,hS,hT,nF,mH,hr,hb,ha,hf⟩:=hK
 obtain⟨fD,hs,ei⟩:=id hS
 obtain⟨fK,ht,dY⟩:=id hT
 obtain⟨hc,hh,rJ⟩:=id nF
 obtain⟨kg,PO,PM,jo,rfl,PN,Gg,Gf⟩:=hs
 obtain⟨eB,yM,yK,dH,rfl,yL,qt,qp⟩:=ht
 obtain⟨dS,yw,yu,dP,rfl,AR,vK,vJ⟩:=hc
 obtain⟨dC,s9,s8,de,rfl,uX,pJ,pH⟩:=hh
 obtain⟨ju,Fg,Ff,jq,rfl,Kb,Ey,Ex⟩:=hr
 obtain⟨jD,Hf,Hd,jv,rfl,He,Gi,Gh⟩:=hb
 obtain⟨iW,Fs,Fj,iQ,rfl,Fo,EA,Ez⟩:=ha
 obtain⟨fp,td,tb,eS,rfl,wu,pM,pK⟩:=hf
 have yR:=hO.rules
 have pF:=hO.before.1
 have JL:=hO.after.1
 have JK:=hO.facts.1
 have MC:=hO.ways.1
 have Gs:=ei.len
 have DE:=dY.len
 have Ua:=hO.m8.two
 have Zk:=hO.cX.nh
 have Hb:∀(i:Nat) (p:bU),([]:List bU)[i]?=some p→cb ⟨ro,[]⟩ 0 (0+i*6) 6 (jF p):=fun _ _ h=>lR h
 obtain⟨Hc,qpb,qpo,Bu,rfl,qpk,NO,NN⟩:=hp
 refine zE<|zD 2<|jn fun b3=>jn fun b5=>jd 12 [0,1]<|ja ((K.before.length:Int)-1) (by omega)<|jp (vs:=[zI x.a,zI 0,zI ((K.before.length:Int)-1)]) [] [] (fun aF hs hZ=>dW)<|zD 3<|js 7 (!(gT x.a 0 ((K.before.length:Int)-1))) (fun h1=>?_) (fun h1=>?_)
 ·
  try simp only[zB] at h1
  exfalso;simp only[gT,Bool.and_eq_false_iff,decide_eq_false_iff_not] at h1;omega
 try simp only[zB] at h1
 refine jd 7 [0,1]<|ja ((K.after.length:Int)-1) (by omega)<|jp (vs:=[zI x.b,zI 0,zI ((K.after.length:Int)-1)]) [] [] (fun aF hs hZ=>dW)<|zD 3<|js 7 (!(gT x.b 0 ((K.after.length:Int)-1))) (fun h2=>?_) (fun h2=>?_)
 ·
  try simp only[zB] at h2
  exfalso;simp only[gT,Bool.and_eq_false_iff,decide_eq_false_iff_not] at h2;omega
 try simp only[zB] at h2
 refine zD 5<|jp (vs:=[.slice Hc fs.length Bu,.func (.func 93) ⟨[]⟩ ⟨[zP b5]⟩]) [0] [(b5,.cells ⟨[zI x.a,zI x.b,.bool x.same]⟩ 54 (0,0))] (fun aF hs hZ=>YR ((show a8 _ _ _ _ _ from ⟨Hc,qpb,qpo,Bu,rfl,qpk,NO,NN⟩).up hs) (by first|omega| (simp only[List.length_set,zM];omega)) hZ.head) ?_
 refine zD 2<|js 24 (decide (bJ (zh x) fs 0≥0)) (fun h3=>?_) (fun h3=>?_)
 ·
  exfalso;have:=of_decide_eq_true h3;omega
 refine zD 7<|zX (zI 0) ⟨rfl,rfl⟩
theorem aBv{w:ByteArray}(hs:1≤w.size∧w.size≤12)(hc:cI w (bs [99,108,97,115,115])=false)(hf:cI w (bs [102,105,110,105,115])=false)(hK:∀b∈w.data.toList,97≤b.toNat∧b.toNat≤122):dv zT 208 [.string w] ro (.bool true):=by
 refine zE<|zD 11<|jj 4 [(0,.string w),(2,.bool false),(12,.bool ((decide ((w.size:Int)=0))||(decide ((w.size:Int)>12))))] (fun gN=>?_) (fun hj=>?_)
 rotate_left
 refine js 8 (decide ((w.size:Int)=0)) (fun h1=>?_) (fun h1=>?_)
 ·
  have fH:=h1
  replace fH:=of_decide_eq_true fH
  refine zD 4<|jw 12 (.bool ((decide ((w.size:Int)=0))||(decide ((w.size:Int)>12)))) (w:= .bool true) (by rw[h1]<;>rfl) ?_
  exact zK hj
 ·
  have fH:=h1
  replace fH:=of_decide_eq_false fH
  refine zD 4<|jw 12 (.bool ((decide ((w.size:Int)=0))||(decide ((w.size:Int)>12)))) (w:= .bool (decide ((w.size:Int)>12))) (by rw[h1]<;>rfl) ?_
  exact zK hj
 refine zD 1<|jj 3 [(0,.string w),(2,.bool false),(16,.bool (((decide ((w.size:Int)=0))||(decide ((w.size:Int)>12)))||(cI w (bs [99,108,97,115,115]))))] (fun gN=>?_) (fun hj=>?_)
 rotate_left
 refine js 13 ((decide ((w.size:Int)=0))||(decide ((w.size:Int)>12))) (fun h2=>?_) (fun h2=>?_)
 ·
  have kI:=h2
  try simp only[zB] at kI
  refine zD 3<|jw 16 (.bool (((decide ((w.size:Int)=0))||(decide ((w.size:Int)>12)))||(cI w (bs [99,108,97,115,115])))) (w:= .bool true) (by rw[h2]<;>rfl) ?_
  exact zK hj
 ·
  have kI:=h2
  try simp only[zB] at kI
  refine zD 3<|jw 16 (.bool (((decide ((w.size:Int)=0))||(decide ((w.size:Int)>12)))||(cI w (bs [99,108,97,115,115])))) (w:= .bool (cI w (bs [99,108,97,115,115]))) (by rw[h2]<;>rfl) ?_
  exact zK hj
 refine zD 1<|jj 3 [(0,.string w),(2,.bool false),(20,.bool ((((decide ((w.size:Int)=0))||(decide ((w.size:Int)>12)))||(cI w (bs [99,108,97,115,115])))||(cI w (bs [102,105,110,105,115]))))] (fun gN=>?_) (fun hj=>?_)
 rotate_left
 refine js 17 (((decide ((w.size:Int)=0))||(decide ((w.size:Int)>12)))||(cI w (bs [99,108,97,115,115]))) (fun h3=>?_) (fun h3=>?_)
 ·
  have wR:=h3
  try simp only[zB] at wR
  refine zD 3<|jw 20 (.bool ((((decide ((w.size:Int)=0))||(decide ((w.size:Int)>12)))||(cI w (bs [99,108,97,115,115])))||(cI w (bs [102,105,110,105,115])))) (w:= .bool true) (by rw[h3]<;>rfl) ?_
  exact zK hj
 ·
  have wR:=h3
  try simp only[zB] at wR
  refine zD 3<|jw 20 (.bool ((((decide ((w.size:Int)=0))||(decide ((w.size:Int)>12)))||(cI w (bs [99,108,97,115,115])))||(cI w (bs [102,105,110,105,115])))) (w:= .bool (cI w (bs [102,105,110,105,115]))) (by rw[h3]<;>rfl) ?_
  exact zK hj
 refine zD 1<|js 20 ((((decide ((w.size:Int)=0))||(decide ((w.size:Int)>12)))||(cI w (bs [99,108,97,115,115])))||(cI w (bs [102,105,110,105,115]))) (fun h4=>?_) (fun h4=>?_)
 ·
  try simp only[zB] at h4
  exfalso;simp only[hc,hf,Bool.or_false,Bool.or_eq_true,decide_eq_true_eq,Bool.false_eq_true,or_false] at h4;omega
 try simp only[zB] at h4
 refine zD 6<|jn fun r22=>zD 2<|dL [1,1,0,1,0,0] [] (fun(zz:Nat)=>[(22,zP r22)]) (fun zz=>[.b r22 (.stringIter w zz)]) (fun zz=>zz≤w.data.toList.length) (fun zz=>w.data.toList.length-zz) 0 (by omega) [0] ?_
 rintro p hI K1 bE rest
 refine zD 2 ?_
 cases abU:w.data.toList[p]? with
 |some mV=>
  refine jnA r22 0 abU (by have:=hK _ (zL abU);omega) ?_
  refine zD 7 ?_
  have Zl:=hK _ (zL abU)
  refine zD 9<|jj 3 [(22,zP r22),(31,.bool ((decide ((mV.toNat:Int) <97))||(decide ((mV.toNat:Int)>122))))] (fun gN=>?_) (fun hj=>?_)
  rotate_left
  refine js 28 (decide ((mV.toNat:Int) <97)) (fun h5=>?_) (fun h5=>?_)
  ·
   have yU:=h5
   replace yU:=of_decide_eq_true yU
   refine zD 3<|jw 31 (.bool ((decide ((mV.toNat:Int) <97))||(decide ((mV.toNat:Int)>122)))) (w:= .bool true) (by rw[h5]<;>rfl) ?_
   exact zK hj
  ·
   have yU:=h5
   replace yU:=of_decide_eq_false yU
   refine zD 3<|jw 31 (.bool ((decide ((mV.toNat:Int) <97))||(decide ((mV.toNat:Int)>122)))) (w:= .bool (decide ((mV.toNat:Int)>122))) (by rw[h5]<;>rfl) ?_
   exact zK hj
  refine zD 1<|js 31 ((decide ((mV.toNat:Int) <97))||(decide ((mV.toNat:Int)>122))) (fun h6=>?_) (fun h6=>?_)
  ·
   try simp only[zB] at h6
   exfalso;omega
  try simp only[zB] at h6
  refine zD 2<|bF bE (p+1) (by have:=(List.getElem?_eq_some_iff.1 abU).1;omega) (by have:=(List.getElem?_eq_some_iff.1 abU).1;omega) [0] (Sub.refl _)
 |none=>
  refine jnZ r22 0 abU<|zD 10<|zX (.bool true) ⟨rfl,rfl⟩
def FT(x y:bO):Bool:=cI y.name x.name
theorem atz{x y:bO}(hb:ro b=some (.cells ⟨[.string x.name,zI x.under]⟩ 140 (0,0))):dv zT 210 [.agg ⟨[.string y.name,zI y.under]⟩,zP b] ro (.bool (cI y.name x.name)):=by
 refine zE<|zD 2<|jn fun b2=>jd 7 [0]<|jl (b:=b) (off:=0) (m:=2) (vs:=[.string x.name,zI x.under]) 0 ⟨_,_,_,.inl hb,rfl⟩<|zD 4<|zX (.bool (cI y.name x.name)) ⟨rfl,rfl⟩
theorem aty{v:Value}{fs:List bO}{x:bO}(hf:a8 ro v 2 lJ fs)(hn:fs.length≤1000)(hb:ro b=some (.cells ⟨[.string x.name,zI x.under]⟩ 140 (0,0))):dv zT 232 [v,.func (.func 210) ⟨[]⟩ ⟨[zP b]⟩] ro (zI (bJ (FT x) fs 0)):=by
 obtain⟨fp,td,tb,eS,rfl,wu,pM,pK⟩:=hf
 refine zE<|zD 12<|dL [1,0,1,0,0] [] (fun(zz:Nat)=>[(0,.slice fp fs.length eS),(1,.func (.func 210) ⟨[]⟩ ⟨[zP b]⟩),(7,zI (fs.length:Int)),(8,zI (zz:Int))]) (fun zz=>[]) (fun zz=>zz≤fs.length∧bJ (FT x) fs 0=bJ (FT x) (fs.drop zz) zz) (fun zz=>fs.length-zz) 0 ⟨by omega,rfl⟩ [] ?_
 rintro k hI K1 bE rest
 refine zD 5<|zJ 9 ((k:Int) <(fs.length:Int)) (fun h1=>?_) fun h1=>?_
 ·
  refine zD 14 ?_
  obtain⟨eE,dN⟩:=zG fs k
  refine fL eS 2 pM dN<|jl 0 (pK _ _ dN)<|jp (vs:=[.agg ⟨[.string eE.name,zI eE.under]⟩,zP b]) [] [] (fun aF hs hZ=>(atz (y:=eE) (hs _ _ hb)))<|zD 1<|js 16 (FT x eE) (fun h2=>?_) (fun h2=>?_)
  ·
   refine zD 7<|zX (zI (k:Int)) ⟨by rw[hI.2,gJ dN,show FT x eE=true from (by assumption)];rfl,rfl⟩
  refine zD 3<|ja ((k:Int)+1) (by omega)<|zD 2<|bF bE (k+1) ⟨by omega,by rw[hI.2,gJ dN,show FT x eE=false from (by assumption)];rfl⟩ (by omega) [] (Sub.refl _)
 refine zD 7<|zX (zI (-1)) ⟨by rw[hI.2,nu (by omega)],rfl⟩
theorem amm{v:Value}{fs:List bO}{x:bO}(hf:a8 ro v 2 lJ fs)(hn:fs.length≤1000)(hb:ro b=some (.cells ⟨[.string x.name,zI x.under]⟩ 140 (0,0))):dv zT 209 [v,.func (.func 210) ⟨[]⟩ ⟨[zP b]⟩] ro (.bool (decide (bJ (FT x) fs 0≥0))):=by
 obtain⟨fp,td,tb,eS,rfl,wu,pM,pK⟩:=hf
 refine zE<|zD 8<|jp (vs:=[.slice fp fs.length eS,.func (.func 210) ⟨[]⟩ ⟨[zP b]⟩]) [] [] (fun aF hs hZ=>aty ((show a8 _ _ _ _ _ from ⟨fp,td,tb,eS,rfl,wu,pM,pK⟩).up hs) (by first|omega| (simp only[List.length_set,zM];omega)) (hs _ _ hb)) ?_
 refine zD 4<|zX (.bool (decide ((bJ (FT x) fs 0)≥0))) ⟨rfl,rfl⟩
def hdP(x y:aY):Bool:=cI y.word x.word
theorem aBD{x y:aY}(hb:ro b=some (.cells ⟨[.string x.word,zI x.cls,zI x.lE,x.dt]⟩ 143 (0,0))):dv zT 213 [.agg ⟨[.string y.word,zI y.cls,zI y.lE,y.dt]⟩,zP b] ro (.bool (cI y.word x.word)):=by
 refine zE<|zD 2<|jn fun b2=>jd 7 [0]<|jl (b:=b) (off:=0) (m:=4) (vs:=[.string x.word,zI x.cls,zI x.lE,x.dt]) 0 ⟨_,_,_,.inl hb,rfl⟩<|zD 4<|zX (.bool (cI y.word x.word)) ⟨rfl,rfl⟩
theorem aBC{v:Value}{fs:List aY}{x:aY}(hf:a8 ro v 4 jZ fs)(hn:fs.length≤1000)(hb:ro b=some (.cells ⟨[.string x.word,zI x.cls,zI x.lE,x.dt]⟩ 143 (0,0))):dv zT 233 [v,.func (.func 213) ⟨[]⟩ ⟨[zP b]⟩] ro (zI (bJ (hdP x) fs 0)):=by
 obtain⟨fp,td,tb,eS,rfl,wu,pM,pK⟩:=hf
 refine zE<|zD 12<|dL [1,0,1,0,0] [] (fun(zz:Nat)=>[(0,.slice fp fs.length eS),(1,.func (.func 213) ⟨[]⟩ ⟨[zP b]⟩),(7,zI (fs.length:Int)),(8,zI (zz:Int))]) (fun zz=>[]) (fun zz=>zz≤fs.length∧bJ (hdP x) fs 0=bJ (hdP x) (fs.drop zz) zz) (fun zz=>fs.length-zz) 0 ⟨by omega,rfl⟩ [] ?_
 rintro k hI K1 bE rest
 refine zD 5<|zJ 9 ((k:Int) <(fs.length:Int)) (fun h1=>?_) fun h1=>?_
 ·
  refine zD 14 ?_
  obtain⟨eE,dN⟩:=zG fs k
  refine fL eS 4 pM dN<|jl 0 (pK _ _ dN)<|jp (vs:=[.agg ⟨[.string eE.word,zI eE.cls,zI eE.lE,eE.dt]⟩,zP b]) [] [] (fun aF hs hZ=>(aBD (y:=eE) (hs _ _ hb)))<|zD 1<|js 16 (hdP x eE) (fun h2=>?_) (fun h2=>?_)
  ·
   refine zD 7<|zX (zI (k:Int)) ⟨by rw[hI.2,gJ dN,show hdP x eE=true from (by assumption)];rfl,rfl⟩
  refine zD 3<|ja ((k:Int)+1) (by omega)<|zD 2<|bF bE (k+1) ⟨by omega,by rw[hI.2,gJ dN,show hdP x eE=false from (by assumption)];rfl⟩ (by omega) [] (Sub.refl _)
 refine zD 7<|zX (zI (-1)) ⟨by rw[hI.2,nu (by omega)],rfl⟩
theorem atv{v:Value}{fs:List aY}{x:aY}(hf:a8 ro v 4 jZ fs)(hn:fs.length≤1000)(hb:ro b=some (.cells ⟨[.string x.word,zI x.cls,zI x.lE,x.dt]⟩ 143 (0,0))):dv zT 212 [v,.func (.func 213) ⟨[]⟩ ⟨[zP b]⟩] ro (.bool (decide (bJ (hdP x) fs 0≥0))):=by
 obtain⟨fp,td,tb,eS,rfl,wu,pM,pK⟩:=hf
 refine zE<|zD 8<|jp (vs:=[.slice fp fs.length eS,.func (.func 213) ⟨[]⟩ ⟨[zP b]⟩]) [] [] (fun aF hs hZ=>aBC ((show a8 _ _ _ _ _ from ⟨fp,td,tb,eS,rfl,wu,pM,pK⟩).up hs) (by first|omega| (simp only[List.length_set,zM];omega)) (hs _ _ hb)) ?_
 refine zD 4<|zX (.bool (decide ((bJ (hdP x) fs 0)≥0))) ⟨rfl,rfl⟩
def A7(w:ByteArray):Bool:=Nat.ble 1 w.size&&(Nat.ble w.size 12&&(!cI w (bs [99,108,97,115,115])&&(!cI w (bs [102,105,110,105,115])&&w.data.toList.all fun b=>Nat.ble 97 b.toNat&&Nat.ble b.toNat 122)))
theorem aaB:∀w∈nT,A7 w=true:=List.all_eq_true.1 (by kernel_rfl)
theorem acw:∀w∈pR,A7 w=true:=List.all_eq_true.1 (by kernel_rfl)
theorem aek{w:ByteArray}(h:A7 w=true):dv zT 208 [.string w] ro (.bool true):=by
 simp only[A7,Bool.and_eq_true,Nat.ble_eq,Bool.not_eq_true',List.all_eq_true] at h
 exact aBv ⟨h.1,h.2.1⟩ h.2.2.1 h.2.2.2.1 h.2.2.2.2
structure mb(cs:List bO)(hd:List cy):Prop where
 nc:0 <cs.length∧cs.length≤6
 nh:hd.length≤6
 cls:∀(i:Nat) (c:bO),cs[i]?=some c→A7 c.name=true∧ -1≤c.under∧c.under <i
 names:(cs.map (·.name)).Pairwise fun a b=>cI a b=false
 u4:∀(i:Nat) (x:cy),hd[i]?=some x→A7 x.word=true∧gZ cs.length hd.length i x
 words:(hd.map (·.word)).Pairwise fun a b=>cI a b=false∧strLt b a=false
theorem xB.v(h:xB cs hd):mb cs hd:=
 ⟨⟨h.nc.1,by have:=h.nc.2;omega⟩,by have:=h.nh;omega,fun i c hc=>⟨aaB _ (h.cls i c hc).1,(h.cls i c hc).2⟩,h.names,fun i x hx=>⟨acw _ (h.u4 i x hx).1,(h.u4 i x hx).2⟩,h.words⟩
theorem Te{p:α→α→Bool}{l:List α}{x:α}(h:l.Pairwise fun y x=>p x y=false)(hx:l[i]?=some x):bJ (p x) (l.take i) 0 <0:=by
 rw[DU]
 ·omega
 intro y hy
 obtain⟨j,hj⟩:=List.getElem?_of_mem hy
 rw[List.getElem?_take] at hj
 split at hj
 ·rename_i AV
  exact qu h AV hj hx
 cases hj
theorem apn{x:bO}(h:mb cs hd)(hx:cs[i]?=some x):bJ (FT x) (cs.take i) 0 <0:=
 Te (p:=FT) (List.pairwise_map.1 h.names) hx
theorem Qg{hv:List aY}(h:dc du hv hd):hv.map (·.word)=hd.map (·.word):=by
 induction h with
 |nil=>rfl
 |cons h1 _ ih=>simp only[List.map_cons,h1.1,ih]
theorem axs{hv:List aY}{x:aY}(h:mb cs hd)(hs:dc du hv hd)(hx:hv[i]?=some x):bJ (hdP x) (hv.take i) 0 <0:=
 Te (p:=hdP) ((List.pairwise_map.1 (Qg hs▸h.words)).imp fun h=>h.1) hx
theorem aF0{hv:List aY}{j:Nat}{x y:aY}(h:mb cs hd)(hs:dc du hv hd)(JN:j <i)(hx:hv[i]?=some x) (hy:hv[j]?=some y):strLt x.word y.word=false:=
 (qu (List.pairwise_map.1 (Qg hs▸h.words)) JN hy hx).2
theorem aeB{nc nh:Nat}{x:aY}{y:cy}(h:gZ nc nh i y)(hr:oG ro x y):
 (-1≤x.cls∧x.cls <nc)∧(-1≤x.lE∧x.lE <nh∧x.lE≠i)∧(y.dt.length≤nh∧y.dt.Pairwise (· < ·)∧∀z∈y.dt,0≤z∧z <nh∧z≠i)∧(x.lE≠ -1→x.cls= -1∧y.dt.length=0)∧(x.lE= -1→x.cls= -1→y.dt.length≠0):=by
 rw[hr.2.1,hr.2.2.1]
 exact⟨h.1,h.2.1,h.2.2.1,fun a=>⟨(h.2.2.2.1 a).1,by rw[(h.2.2.2.1 a).2];rfl⟩,fun a b c=>h.2.2.2.2 a b (List.eq_nil_of_length_eq_zero c)⟩
theorem atB{v:Value}(hc:a8 ro v 2 lJ cs)(hT:mb cs hd)(hi:i <cs.length):dv zT 182 [v,zI (i:Int)] ro (zI 0):=by
 obtain⟨dS,yw,yu,dP,rfl,AR,vK,vJ⟩:=hc
 have Dy:=hT.nc
 refine zE<|zD 8 ?_
 obtain⟨x8,hx8⟩:=zG cs i
 refine fL dP 2 vK hx8<|jl 0 (vJ _ _ hx8)<|jn fun b5=>jd 5 [0] ?_
 have iZ:=hT.cls _ _ hx8
 have hcn:bJ (FT x8) (cs.take (i:Int).toNat) 0 <0:=apn hT hx8
 have htk:(cs.take (i:Int).toNat).length≤cs.length:=by rw[List.length_take];omega
 refine jd 3 [0]<|jp (vs:=[.string x8.name]) [] [] (fun aF hs hZ=>(aek iZ.1))<|zD 8<|jcH (hi:=(i:Int)) (show a8 _ _ _ _ _ from ⟨dS,yw,yu,dP,rfl,AR,vK,vJ⟩) (by omega) (fun v18 av7=>?_)
 obtain⟨aqP,aCo,aCk,aqO,rfl,aCm,aCn,aCl⟩:=av7
 refine zD 1<|jp (vs:=[.slice aqP ((((cs).take (i:Int).toNat)).length) aqO,.func (.func 210) ⟨[]⟩ ⟨[zP b5]⟩]) [0] [(b5,.cells ⟨[.string x8.name,zI x8.under]⟩ 140 (0,0))] (fun aF hs hZ=>amm (x:=x8) ((show a8 _ _ _ _ _ from ⟨aqP,aCo,aCk,aqO,rfl,aCm,aCn,aCl⟩).up hs) (by first|omega| (simp only[List.length_set,zM];omega)) hZ.head) ?_
 refine zD 2<|js 15 (decide (bJ (FT x8) ((cs).take (i:Int).toNat) 0≥0)) (fun h1=>?_) (fun h1=>?_)
 ·
  exfalso;have:=of_decide_eq_true h1;omega
 refine jd 7 [0]<|ja ((cs.length:Int)-1) (by omega)<|jp (vs:=[zI x8.under,zI (-1),zI ((cs.length:Int)-1)]) [] [] (fun aF hs hZ=>jQ)<|zD 3<|js 21 (!(gT x8.under (-1) ((cs.length:Int)-1))) (fun h2=>?_) (fun h2=>?_)
 ·
  try simp only[zB] at h2
  exfalso;simp only[gT,Bool.and_eq_false_iff,decide_eq_false_iff_not] at h2;omega
 try simp only[zB] at h2
 refine jd 9 [0]<|zJ 29 (x8.under≥(i:Int)) (fun h3=>?_) fun h3=>?_
 ·
  exfalso;omega
 refine zD 7<|zX (zI 0) ⟨rfl,rfl⟩
theorem aBB{hv:List aY}(hR:iv ro vc vh cs hv hd)(mH:dc du hv hd)(hT:mb cs hd)(hi:i <hv.length):dv zT 183 [.agg ⟨[vc,vh]⟩,zI (i:Int)] ro (zI 0):=by
 obtain⟨hc,hh,dr⟩:=id hR
 obtain⟨dS,yw,yu,dP,rfl,AR,vK,vJ⟩:=hc
 obtain⟨dC,s9,s8,de,rfl,uX,pJ,pH⟩:=hh
 have Dy:=hT.nc
 have hnh:=hT.nh
 have hlen:=mH.len
 refine zE<|zD 2<|jn fun b2=>jd 9 [0,0] ?_
 obtain⟨eE,dN⟩:=zG hv i
 refine fL de 4 pJ dN<|jl 0 (pH _ _ dN)<|aS 7 fun E5 E9 Cy=>jn fun b6=>ep Cy [1]<|zD 1<|aS 9 fun A1 Bn Av=>PS 0 b6 0 [.string ByteArray.empty,zI 0,zI 0,zS] [.string eE.word,zI eE.cls,zI eE.lE,eE.dt] 143 (eX dr _ (zL dN)) rfl<|gA Av<|zD 4 ?_
 obtain⟨F7,aEc,awd⟩:=dr.get dN
 obtain⟨dB,mP,mO,dz,hqe,qd,gY,jV⟩:=awd.2.2.2
 have aPz:=(hT.u4 _ _ aEc).1
 have hsh:=aeB (hT.u4 _ _ aEc).2 awd
 obtain⟨bL,oC,JG,kV,PW⟩:=hsh
 have hwb:A7 eE.word=true:=by rw[awd.1];exact aPz
 have hcn:bJ (hdP eE) (hv.take (i:Int).toNat) 0 <0:=axs hT mH dN
 have htk:(hv.take (i:Int).toNat).length≤hv.length:=by rw[List.length_take];omega
 refine jmw 0 [.b b6 (.cells ⟨[.string eE.word,zI eE.cls,zI eE.lE,.slice dB F7.dt.length dz]⟩ 143 (0,0))] (L:=[(b6,.cells ⟨[.string eE.word,zI eE.cls,zI eE.lE,eE.dt]⟩ 143 (0,0))]) (by rw[hqe];rfl) ?_
 refine jd 3 [0]<|jp (vs:=[.string eE.word]) [] [] (fun aF hs hZ=>(aek hwb))<|zD 8<|jcH (hi:=(i:Int)) (show a8 _ _ _ _ _ from ⟨dC,s9,s8,de,rfl,uX,pJ,pH⟩) (by omega) (fun v24 aPV=>?_)
 obtain⟨aqN,aCj,aCf,aqM,rfl,aCh,aCi,aCg⟩:=aPV
 refine zD 1<|jp (vs:=[.slice aqN ((((hv).take (i:Int).toNat)).length) aqM,.func (.func 213) ⟨[]⟩ ⟨[zP b6]⟩]) [0] [(b6,.cells ⟨[.string eE.word,zI eE.cls,zI eE.lE,.slice dB F7.dt.length dz]⟩ 143 (0,0))] (fun aF hs hZ=>atv (x:=eE) ((show a8 _ _ _ _ _ from ⟨aqN,aCj,aCf,aqM,rfl,aCh,aCi,aCg⟩).up hs) (by first|omega| (simp only[List.length_set,zM];omega)) (by rw[hqe];exact hZ.head)) ?_
 refine zD 2<|js 21 (decide (bJ (hdP eE) ((hv).take (i:Int).toNat) 0≥0)) (fun h3=>?_) (fun h3=>?_)
 ·
  exfalso;have:=of_decide_eq_true h3;omega
 refine zD 6<|js 2 (decide ((i:Int)>0)) (fun h4=>?_) (fun h4=>?_)
 ·
  have uC:=h4
  replace uC:=of_decide_eq_true uC
  refine jd 4 [0]<|ja ((i:Int)-1) (by omega) ?_
  obtain⟨x36,Ag⟩:=zG hv (((i:Int)-1).toNat)
  refine PT ((i:Int)-1) de 4 pJ Ag (by omega)<|zD 1<|jl 0 (pH _ _ Ag)<|zD 4<|js 27 (strLt eE.word x36.word) (fun h5=>?_) (fun h5=>?_)
  ·
   exfalso;rw[aF0 hT mH (by omega) dN Ag] at h5;cases h5
  refine jd 9 [0,1]<|ja ((cs.length:Int)-1) (by omega)<|jp (vs:=[zI eE.cls,zI (-1),zI ((cs.length:Int)-1)]) [] [] (fun aF hs hZ=>jQ)<|zD 3<|js 41 (!(gT eE.cls (-1) ((cs.length:Int)-1))) (fun h6=>?_) (fun h6=>?_)
  ·
   try simp only[zB] at h6
   exfalso;simp only[gT,Bool.and_eq_false_iff,decide_eq_false_iff_not] at h6;omega
  try simp only[zB] at h6
  refine jd 6 [0]<|ja ((hv.length:Int)-1) (by omega)<|jp (vs:=[zI eE.lE,zI (-1),zI ((hv.length:Int)-1)]) [] [] (fun aF hs hZ=>jQ)<|zD 3<|js 41 (!(gT eE.lE (-1) ((hv.length:Int)-1))) (fun h7=>?_) (fun h7=>?_)
  ·
   try simp only[zB] at h7
   exfalso;simp only[gT,Bool.and_eq_false_iff,decide_eq_false_iff_not] at h7;omega
  try simp only[zB] at h7
  refine jd 9 [0]<|zJ 57 (eE.lE=(i:Int)) (fun h8=>?_) fun h8=>?_
  ·
   exfalso;omega
  refine jd 11 [0]<|dL [1,1,1,0,1,0,0] [] (fun(zz:Nat)=>[(1,zI (i:Int)),(5,.slice dC hv.length de),(6,zP b6),(63,.slice dB F7.dt.length dz),(64,zI (F7.dt.length:Int)),(65,zI (zz:Int))]) (fun zz=>[.b b6 (.cells ⟨[.string eE.word,zI eE.cls,zI eE.lE,.slice dB F7.dt.length dz]⟩ 143 (0,0))]) (fun zz=>zz≤F7.dt.length) (fun zz=>F7.dt.length-zz) 0 (by omega) [0] ?_
  rintro k hI K3 Zy rest
  refine zD 5<|zJ 66 ((k:Int) <(F7.dt.length:Int)) (fun h9=>?_) fun h9=>?_
  ·
   refine zD 7 ?_
   obtain⟨x68,Ol⟩:=zG F7.dt k
   refine fL dz 1 gY Ol<|jl 0 (jV _ _ Ol)<|zD 5 ?_
   have aSF:=JG.2.2 _ (zL Ol)
   refine zD 4<|ja ((hv.length:Int)-1) (by omega)<|jp (vs:=[zI x68,zI 0,zI ((hv.length:Int)-1)]) [] [] (fun aF hs hZ=>jQ)<|zD 3<|js 70 (!(gT x68 0 ((hv.length:Int)-1))) (fun DM=>?_) (fun DM=>?_)
   ·
    try simp only[zB] at DM
    exfalso;simp only[gT,Bool.and_eq_false_iff,decide_eq_false_iff_not] at DM;omega
   try simp only[zB] at DM
   refine zD 8<|zJ 77 (x68=(i:Int)) (fun BT=>?_) fun BT=>?_
   ·
    exfalso;omega
   refine zD 6<|js 84 (decide ((k:Int)>0)) (fun EP=>?_) (fun EP=>?_)
   ·
    have Iz:=EP
    replace Iz:=of_decide_eq_true Iz
    refine jd 4 [0]<|ja ((k:Int)-1) (by omega) ?_
    obtain⟨x90,VE⟩:=zG F7.dt (((k:Int)-1).toNat)
    refine PT ((k:Int)-1) dz 1 gY VE (by omega)<|jl 0 (jV _ _ VE)<|zD 4<|zJ 81 (x68≤x90) (fun Cz=>?_) fun Cz=>?_
    ·
     exfalso;have:=qu JG.2.1 (show ((k:Int)-1).toNat <k by omega) VE Ol;omega
    refine zD 3<|ja ((k:Int)+1) (by omega)<|zD 2<|bF Zy (k+1) (by omega) (by omega) [0] (Sub.refl _)
   have Iz:=EP
   replace Iz:=of_decide_eq_false Iz
   refine zD 14<|ja ((k:Int)+1) (by omega)<|zD 2<|bF Zy (k+1) (by omega) (by omega) [0] (Sub.refl _)
  refine jd 9 [0]<|js 98 (!decide (eE.lE=(-1))) (fun SW=>?_) (fun SW=>?_)
  ·
   have Iy:=SW
   replace Iy:=of_decide_eq_false (by simpa using Iy)
   refine jd 4 [0]<|js 102 (!decide (eE.cls=(-1))) (fun Ix=>?_) (fun Ix=>?_)
   ·
    have wU:=Ix
    replace wU:=of_decide_eq_false (by simpa using wU)
    refine zD 29 ?_
    exfalso;omega
   have wU:=Ix
   replace wU:=of_decide_eq_true (by simpa using wU)
   refine jd 7 [0]<|js 109 (decide ((F7.dt.length:Int)>0)) (fun SV=>?_) (fun SV=>?_)
   ·
    have ajq:=SV
    replace ajq:=of_decide_eq_true ajq
    refine zD 22 ?_
    exfalso;omega
   have ajq:=SV
   replace ajq:=of_decide_eq_false ajq
   refine jd 4 [0]<|js 113 (decide (eE.lE=(-1))) (fun SU=>?_) (fun SU=>?_)
   ·
    have qO:=SU
    replace qO:=of_decide_eq_true qO
    refine jd 5 [0]<|js 118 (decide (eE.cls=(-1))) (fun OW=>?_) (fun OW=>?_)
    ·
     have Ax:=OW
     replace Ax:=of_decide_eq_true Ax
     refine jd 7 [0]<|zJ 124 ((F7.dt.length:Int)=0) (fun PZ=>?_) fun PZ=>?_
     ·
      exfalso;(try simp only[Bool.or_eq_true,Bool.and_eq_true,decide_eq_true_eq,Bool.not_eq_true',decide_eq_false_iff_not] at PZ);omega
     refine zD 7<|zX (zI 0) ⟨rfl,rfl⟩
    have Ax:=OW
    replace Ax:=of_decide_eq_false Ax
    refine zD 14<|zX (zI 0) ⟨rfl,rfl⟩
   have qO:=SU
   replace qO:=of_decide_eq_false qO
   refine zD 19<|zX (zI 0) ⟨rfl,rfl⟩
  have Iy:=SW
  replace Iy:=of_decide_eq_true (by simpa using Iy)
  refine jd 15 [0]<|js 113 (decide (eE.lE=(-1))) (fun h20=>?_) (fun h20=>?_)
  ·
   have ajp:=h20
   replace ajp:=of_decide_eq_true ajp
   refine jd 5 [0]<|js 118 (decide (eE.cls=(-1))) (fun h21=>?_) (fun h21=>?_)
   ·
    have ajo:=h21
    replace ajo:=of_decide_eq_true ajo
    refine jd 7 [0]<|zJ 124 ((F7.dt.length:Int)=0) (fun MK=>?_) fun MK=>?_
    ·
     exfalso;(try simp only[Bool.or_eq_true,Bool.and_eq_true,decide_eq_true_eq,Bool.not_eq_true',decide_eq_false_iff_not] at MK);omega
    refine zD 7<|zX (zI 0) ⟨rfl,rfl⟩
   have ajo:=h21
   replace ajo:=of_decide_eq_false ajo
   refine zD 14<|zX (zI 0) ⟨rfl,rfl⟩
  have ajp:=h20
  replace ajp:=of_decide_eq_false ajp
  refine zD 19<|zX (zI 0) ⟨rfl,rfl⟩
 have uC:=h4
 replace uC:=of_decide_eq_false uC
 refine jd 21 [0,1]<|ja ((cs.length:Int)-1) (by omega)<|jp (vs:=[zI eE.cls,zI (-1),zI ((cs.length:Int)-1)]) [] [] (fun aF hs hZ=>jQ)<|zD 3<|js 41 (!(gT eE.cls (-1) ((cs.length:Int)-1))) (fun Gw=>?_) (fun Gw=>?_)
 ·
  try simp only[zB] at Gw
  exfalso;simp only[gT,Bool.and_eq_false_iff,decide_eq_false_iff_not] at Gw;omega
 try simp only[zB] at Gw
 refine jd 6 [0]<|ja ((hv.length:Int)-1) (by omega)<|jp (vs:=[zI eE.lE,zI (-1),zI ((hv.length:Int)-1)]) [] [] (fun aF hs hZ=>jQ)<|zD 3<|js 41 (!(gT eE.lE (-1) ((hv.length:Int)-1))) (fun h24=>?_) (fun h24=>?_)
 ·
  try simp only[zB] at h24
  exfalso;simp only[gT,Bool.and_eq_false_iff,decide_eq_false_iff_not] at h24;omega
 try simp only[zB] at h24
 refine jd 9 [0]<|zJ 57 (eE.lE=(i:Int)) (fun h25=>?_) fun h25=>?_
 ·
  exfalso;omega
 refine jd 11 [0]<|dL [1,1,1,0,1,0,0] [] (fun(zz:Nat)=>[(1,zI (i:Int)),(5,.slice dC hv.length de),(6,zP b6),(63,.slice dB F7.dt.length dz),(64,zI (F7.dt.length:Int)),(65,zI (zz:Int))]) (fun zz=>[.b b6 (.cells ⟨[.string eE.word,zI eE.cls,zI eE.lE,.slice dB F7.dt.length dz]⟩ 143 (0,0))]) (fun zz=>zz≤F7.dt.length) (fun zz=>F7.dt.length-zz) 0 (by omega) [0] ?_
 rintro k hI K4 hK4 rest
 refine zD 5<|zJ 66 ((k:Int) <(F7.dt.length:Int)) (fun h26=>?_) fun h26=>?_
 ·
  refine zD 7 ?_
  obtain⟨x68,Ol⟩:=zG F7.dt k
  refine fL dz 1 gY Ol<|jl 0 (jV _ _ Ol)<|zD 5 ?_
  have aSF:=JG.2.2 _ (zL Ol)
  refine zD 4<|ja ((hv.length:Int)-1) (by omega)<|jp (vs:=[zI x68,zI 0,zI ((hv.length:Int)-1)]) [] [] (fun aF hs hZ=>jQ)<|zD 3<|js 70 (!(gT x68 0 ((hv.length:Int)-1))) (fun h27=>?_) (fun h27=>?_)
  ·
   try simp only[zB] at h27
   exfalso;simp only[gT,Bool.and_eq_false_iff,decide_eq_false_iff_not] at h27;omega
  try simp only[zB] at h27
  refine zD 8<|zJ 77 (x68=(i:Int)) (fun h28=>?_) fun h28=>?_
  ·
   exfalso;omega
  refine zD 6<|js 84 (decide ((k:Int)>0)) (fun h29=>?_) (fun h29=>?_)
  ·
   have aji:=h29
   replace aji:=of_decide_eq_true aji
   refine jd 4 [0]<|ja ((k:Int)-1) (by omega) ?_
   obtain⟨x90,VE⟩:=zG F7.dt (((k:Int)-1).toNat)
   refine PT ((k:Int)-1) dz 1 gY VE (by omega)<|jl 0 (jV _ _ VE)<|zD 4<|zJ 81 (x68≤x90) (fun h30=>?_) fun h30=>?_
   ·
    exfalso;have:=qu JG.2.1 (show ((k:Int)-1).toNat <k by omega) VE Ol;omega
   refine zD 3<|ja ((k:Int)+1) (by omega)<|zD 2<|bF hK4 (k+1) (by omega) (by omega) [0] (Sub.refl _)
  have aji:=h29
  replace aji:=of_decide_eq_false aji
  refine zD 14<|ja ((k:Int)+1) (by omega)<|zD 2<|bF hK4 (k+1) (by omega) (by omega) [0] (Sub.refl _)
 refine jd 9 [0]<|js 98 (!decide (eE.lE=(-1))) (fun h31=>?_) (fun h31=>?_)
 ·
  have ajh:=h31
  replace ajh:=of_decide_eq_false (by simpa using ajh)
  refine jd 4 [0]<|js 102 (!decide (eE.cls=(-1))) (fun h32=>?_) (fun h32=>?_)
  ·
   have ajf:=h32
   replace ajf:=of_decide_eq_false (by simpa using ajf)
   refine zD 29 ?_
   exfalso;omega
  have ajf:=h32
  replace ajf:=of_decide_eq_true (by simpa using ajf)
  refine jd 7 [0]<|js 109 (decide ((F7.dt.length:Int)>0)) (fun h33=>?_) (fun h33=>?_)
  ·
   have aje:=h33
   replace aje:=of_decide_eq_true aje
   refine zD 22 ?_
   exfalso;omega
  have aje:=h33
  replace aje:=of_decide_eq_false aje
  refine jd 4 [0]<|js 113 (decide (eE.lE=(-1))) (fun h34=>?_) (fun h34=>?_)
  ·
   have ajd:=h34
   replace ajd:=of_decide_eq_true ajd
   refine jd 5 [0]<|js 118 (decide (eE.cls=(-1))) (fun h35=>?_) (fun h35=>?_)
   ·
    have ajc:=h35
    replace ajc:=of_decide_eq_true ajc
    refine jd 7 [0]<|zJ 124 ((F7.dt.length:Int)=0) (fun h36=>?_) fun h36=>?_
    ·
     exfalso;(try simp only[Bool.or_eq_true,Bool.and_eq_true,decide_eq_true_eq,Bool.not_eq_true',decide_eq_false_iff_not] at h36);omega
    refine zD 7<|zX (zI 0) ⟨rfl,rfl⟩
   have ajc:=h35
   replace ajc:=of_decide_eq_false ajc
   refine zD 14<|zX (zI 0) ⟨rfl,rfl⟩
  have ajd:=h34
  replace ajd:=of_decide_eq_false ajd
  refine zD 19<|zX (zI 0) ⟨rfl,rfl⟩
 have ajh:=h31
 replace ajh:=of_decide_eq_true (by simpa using ajh)
 refine jd 15 [0]<|js 113 (decide (eE.lE=(-1))) (fun h37=>?_) (fun h37=>?_)
 ·
  have ajb:=h37
  replace ajb:=of_decide_eq_true ajb
  refine jd 5 [0]<|js 118 (decide (eE.cls=(-1))) (fun h38=>?_) (fun h38=>?_)
  ·
   have aja:=h38
   replace aja:=of_decide_eq_true aja
   refine jd 7 [0]<|zJ 124 ((F7.dt.length:Int)=0) (fun h39=>?_) fun h39=>?_
   ·
    exfalso;(try simp only[Bool.or_eq_true,Bool.and_eq_true,decide_eq_true_eq,Bool.not_eq_true',decide_eq_false_iff_not] at h39);omega
   refine zD 7<|zX (zI 0) ⟨rfl,rfl⟩
  have aja:=h38
  replace aja:=of_decide_eq_false aja
  refine zD 14<|zX (zI 0) ⟨rfl,rfl⟩
 have ajb:=h37
 replace ajb:=of_decide_eq_false ajb
 refine zD 19<|zX (zI 0) ⟨rfl,rfl⟩
theorem XN{hv:List aY}(hR:iv ro vc vh cs hv hd)(mH:dc du hv hd)(hT:mb cs hd):dv zT 154 [.agg ⟨[vc,vh]⟩] ro (zI 0):=by
 obtain⟨hc,hh,dr⟩:=id hR
 obtain⟨dS,yw,yu,dP,rfl,AR,vK,vJ⟩:=hc
 obtain⟨dC,s9,s8,de,rfl,uX,pJ,pH⟩:=hh
 have Dy:=hT.nc
 have hnh:=hT.nh
 have hlen:=mH.len
 refine zE<|zD 2<|jn fun b1=>jd 10 [0]<|jj 5 [(1,zP b1),(2,zI 0),(16,.bool ((decide ((cs.length:Int)>6))||(decide ((hv.length:Int)>6))))] (fun gN=>?_) (fun hj=>?_)
 rotate_left
 refine js 11 (decide ((cs.length:Int)>6)) (fun h1=>?_) (fun h1=>?_)
 ·
  have fH:=h1
  replace fH:=of_decide_eq_true fH
  refine zD 5<|jw 16 (.bool ((decide ((cs.length:Int)>6))||(decide ((hv.length:Int)>6)))) (w:= .bool true) (by rw[h1]<;>rfl) ?_
  exact zK hj
 ·
  have fH:=h1
  replace fH:=of_decide_eq_false fH
  refine jd 5 [0]<|jw 16 (.bool ((decide ((cs.length:Int)>6))||(decide ((hv.length:Int)>6)))) (w:= .bool (decide ((hv.length:Int)>6))) (by rw[h1]<;>rfl) ?_
  exact zK hj
 refine zD 1<|js 16 ((decide ((cs.length:Int)>6))||(decide ((hv.length:Int)>6))) (fun h2=>?_) (fun h2=>?_)
 ·
  try simp only[zB] at h2
  exfalso;omega
 try simp only[zB] at h2
 refine jd 11 [0]<|dL [1,1,0,1,0,0] [] (fun(zz:Nat)=>[(1,zP b1),(19,zI (cs.length:Int)),(20,zI (zz:Int))]) (fun zz=>[.b b1 (.cells ⟨[.slice dS cs.length dP,.slice dC hv.length de]⟩ 35 (0,0))]) (fun zz=>zz≤cs.length) (fun zz=>cs.length-zz) 0 (by omega) [0] ?_
 rintro k hI K1 bE rest
 refine zD 5<|zJ 21 ((k:Int) <(cs.length:Int)) (fun h3=>?_) fun h3=>?_
 ·
  refine jd 14 [0]<|jp (vs:=[.slice dS cs.length dP,zI (k:Int)]) [] [] (fun aF hs hZ=>atB ((show a8 _ _ _ _ _ from ⟨dS,yw,yu,dP,rfl,AR,vK,vJ⟩).up hs) hT (by omega))<|zD 10<|ja ((k:Int)+1) (by omega)<|zD 2<|bF bE (k+1) (by omega) (by omega) [0] (Sub.refl _)
 refine jd 11 [0]<|dL [1,1,1,0,1,0,0] [] (fun(zz:Nat)=>[(1,zP b1),(33,zI (hv.length:Int)),(34,zI (zz:Int))]) (fun zz=>[.b b1 (.cells ⟨[.slice dS cs.length dP,.slice dC hv.length de]⟩ 35 (0,0))]) (fun zz=>zz≤hv.length) (fun zz=>hv.length-zz) 0 (by omega) [0] ?_
 rintro j hJ K2 lG rest
 refine zD 5<|zJ 35 ((j:Int) <(hv.length:Int)) (fun h4=>?_) fun h4=>?_
 ·
  refine jd 13 [0]<|jp (vs:=[.agg ⟨[.slice dS cs.length dP,.slice dC hv.length de]⟩,zI (j:Int)]) [] [] (fun aF hs hZ=>(aBB (hR.up hs) mH hT (by omega)))<|zD 10<|ja ((j:Int)+1) (by omega)<|zD 2<|bF lG (j+1) (by omega) (by omega) [0] (Sub.refl _)
 refine zD 7<|zX (zI 0) ⟨rfl,rfl⟩
theorem atC{hv:List aY}(hR:iv ro vc vh cs hv hd)(mH:dc du hv hd)(hT:mb cs hd):dv zT 119 [.agg ⟨[vc,vh]⟩] ro (zI 0):=by
 obtain⟨hc,hh,dr⟩:=id hR
 obtain⟨dS,yw,yu,dP,rfl,AR,vK,vJ⟩:=hc
 obtain⟨dC,s9,s8,de,rfl,uX,pJ,pH⟩:=hh
 have Dy:=hT.nc
 have hnh:=hT.nh
 have hlen:=mH.len
 refine zE<|zD 2<|jn fun b1=>jd 5 [0]<|jp (vs:=[.agg ⟨[.slice dS cs.length dP,.slice dC hv.length de]⟩]) [] [] (fun aF hs hZ=>(XN (hR.up hs) mH hT))<|zD 3<|zX (zI 0) ⟨rfl,rfl⟩
def KL(a b:ByteArray):Int:=bif strLt a b then-1 else bif !(strLt a b||cI a b) then 1 else 0
def Pe:List ByteArray→List ByteArray→Int
 | [],[]=>0
 | [],_::_=> -1
 |_::_,[]=>1
 |x::xs,y::ys=>if KL x y=0 then Pe xs ys else KL x y
theorem ZR{x y:ByteArray}(hx:xs[k]?=some x) (hy:ys[k]?=some y):Pe (xs.drop k) (ys.drop k)=if KL x y=0 then Pe (xs.drop (k+1)) (ys.drop (k+1)) else KL x y:=by rw[fG hx,fG hy];rfl
theorem akj{x:ByteArray}(hx:xs[k]?=some x) (hy:¬k <ys.length):Pe (xs.drop k) (ys.drop k)=1:=by rw[fG hx,eO hy];rfl
theorem Ts(hx:¬k <xs.length):Pe (xs.drop k) (ys.drop k)=if k <ys.length then-1 else 0:=by
 rw[eO hx]
 split
 ·rename_i h
  rw[List.drop_eq_getElem_cons h];rfl
 rename_i h
 rw[eO h];rfl
def tj(s p:ByteArray):Bool:=decide (s.size≥p.size)&&cI (s.extract 0 p.size) p
structure an where
 h:Int
 n:Int
 l:Int
abbrev cS(x:an):List Value:=[zI x.h,zI x.n,zI x.l]
def pN(h n l:Int)(y:an):Bool:=h==y.h&&(n==y.n&&(l==y.l&&true)&&true)
theorem aHN{a:ByteArray}:dv zT 282 [.string a] ro (.bool false):=by
 refine zE<|zD 12<|zX (.bool (!(cI a a))) ⟨by rw[CQ.2 rfl];rfl,rfl⟩
theorem aUk{a b:ByteArray}:dv zT 258 [.string a,.string b] ro (zI (KL a b)):=by
 refine zE<|zD 7<|jp (vs:=[.string a]) [] [] (fun aF hs hZ=>aHN)<|zD 5<|jp (vs:=[.string b]) [] [] (fun aF hs hZ=>aHN)<|zD 23<|js 16 (strLt a b) (fun h1=>?_) (fun h1=>?_)
 ·
  refine zD 6<|zX (zI (-1)) ⟨by simp_all[KL],rfl⟩
 refine zD 9<|js 19 (!(strLt a b||cI a b)) (fun h2=>?_) (fun h2=>?_)
 ·
  try simp only[zB] at h2
  refine zD 6<|zX (zI 1) ⟨by simp_all[KL],rfl⟩
 try simp only[zB] at h2
 refine zD 7<|zX (zI 0) ⟨by simp_all[KL],rfl⟩
theorem aMw{v w:Value}(hv:a8 ro v 1 p6 xs)(hw:a8 ro w 1 p6 ys)(hx:xs.length≤1000)(hy:ys.length≤1000):dv zT 238 [v,w] ro (zI (Pe xs ys)):=by
 obtain⟨NK,qvb,qvo,Ct,rfl,qvk,Q3,Q1⟩:=hv
 obtain⟨Ka,qwb,qwo,Ew,rfl,qwk,qwh,qwl⟩:=hw
 refine zE<|zD 12<|dL [1,0,1,0,0] [] (fun(zz:Nat)=>[(0,.slice NK xs.length Ct),(1,.slice Ka ys.length Ew),(9,.slice NK xs.length Ct),(10,zI (xs.length:Int)),(11,zI (zz:Int))]) (fun zz=>[]) (fun zz=>(zz≤xs.length∧zz≤ys.length)∧Pe xs ys=Pe (xs.drop zz) (ys.drop zz)) (fun zz=>xs.length-zz) 0 ⟨by omega,rfl⟩ [] ?_
 rintro k hI K1 bE rest
 refine zD 5<|zJ 12 ((k:Int) <(xs.length:Int)) (fun h1=>?_) fun h1=>?_
 ·
  refine zD 7 ?_
  obtain⟨eE,dN⟩:=zG xs k
  refine fL Ct 1 Q3 dN<|jl 0 (Q1 _ _ dN)<|zD 11<|zJ 19 ((k:Int)≥(ys.length:Int)) (fun h2=>?_) fun h2=>?_
  ·
   refine zD 6<|zX (zI 1) ⟨by rw[hI.2,akj dN (by omega)],rfl⟩
  refine zD 6 ?_
  obtain⟨sH,uv⟩:=zG ys k
  refine fL Ew 1 qwh uv<|jl 0 (qwl _ _ uv)<|zD 6<|jp (vs:=[.string eE,.string sH]) [] [] (fun aF hs hZ=>aUk)<|zD 7<|js 28 (!decide ((KL eE sH)=0)) (fun h3=>?_) (fun h3=>?_)
  ·
   replace h3:=of_decide_eq_false (by simpa using h3)
   refine zD 7<|zX (zI (KL eE sH)) ⟨by rw[hI.2,ZR dN uv,if_neg (by omega)],rfl⟩
  replace h3:=of_decide_eq_true (by simpa using h3)
  refine zD 3<|ja ((k:Int)+1) (by omega)<|zD 2<|bF bE (k+1) ⟨by omega,by rw[hI.2,ZR dN uv,if_pos (by omega)]⟩ (by omega) [] (Sub.refl _)
 refine zD 11<|zJ 35 ((xs.length:Int) <(ys.length:Int)) (fun h4=>?_) fun h4=>?_
 ·
  refine zD 6<|zX (zI (-1)) ⟨by rw[hI.2,Ts (by omega),if_pos (by omega)],rfl⟩
 refine zD 7<|zX (zI 0) ⟨by rw[hI.2,Ts (by omega),if_neg (by omega)],rfl⟩
theorem ab1{a b:ByteArray}(hn:a.size≤1000∧b.size≤1000):dv zT 307 [.string a,.string b] ro (.bool (tj a b)):=by
 refine zE<|zD 12<|js 10 (decide ((a.size:Int)≥(b.size:Int))) (fun h1=>?_) (fun h1=>?_)
 ·
  have fH:=h1
  replace fH:=of_decide_eq_true fH
  refine zD 3<|jtH (b:=a) (hi:=(b.size:Int)) (by omega)<|zD 6<|zX (.bool (cI (a.extract 0 (b.size:Int).toNat) b)) ⟨by simp_all[tj]<;>(intro;omega),rfl⟩
 have fH:=h1
 replace fH:=of_decide_eq_false fH
 refine zD 10<|zX (.bool false) ⟨by simp_all[tj]<;>(intro;omega),rfl⟩
theorem ab2{a b:ByteArray}(hn:a.size≤1000∧b.size≤1000):dv zT 299 [.string a,.string b] ro (.bool (tj a b)):=by
 refine zE<|zD 8<|jp (vs:=[.string a,.string b]) [] [] (fun aF hs hZ=>(ab1 (by omega)))<|zD 3<|zX (.bool (tj a b)) ⟨rfl,rfl⟩
theorem agF{v:Value}{ps:List an}{h l:Int}(hp:a8 ro v 3 cS ps)(hn:ps.length≤1000):dv zT 124 [v,.agg ⟨[zI h,zI n,zI l]⟩] ro (zI (bJ (pN h n l) ps 0)):=by
 obtain⟨Hc,qpb,qpo,Bu,rfl,qpk,NO,NN⟩:=hp
 refine zE<|zD 2<|jn fun b3=>zD 10<|dL [1,0,1,0,0] [] (fun(zz:Nat)=>[(0,.slice Hc ps.length Bu),(3,zP b3),(7,zI (ps.length:Int)),(8,zI (zz:Int))]) (fun zz=>[.b b3 (.cells ⟨[zI h,zI n,zI l]⟩ 164 (0,0))]) (fun zz=>zz≤ps.length∧bJ (pN h n l) ps 0=bJ (pN h n l) (ps.drop zz) zz) (fun zz=>ps.length-zz) 0 ⟨by omega,rfl⟩ [0] ?_
 rintro k hI K1 bE rest
 refine zD 5<|zJ 9 ((k:Int) <(ps.length:Int)) (fun h1=>?_) fun h1=>?_
 ·
  refine jd 14 [0] ?_
  obtain⟨eE,dN⟩:=zG ps k
  refine fL Bu 3 NO dN<|jl 0 (NN _ _ dN)<|jeq aDp (ayq h n l eE.h eE.n eE.l)<|zD 1<|js 16 (h==eE.h&&(n==eE.n&&(l==eE.l&&true)&&true)) (fun h2=>?_) (fun h2=>?_)
  ·
   refine zD 7<|zX (zI (k:Int)) ⟨by rw[hI.2,gJ dN,show pN h n l eE=true from (by assumption)];rfl,rfl⟩
  refine zD 3<|ja ((k:Int)+1) (by omega)<|zD 2<|bF bE (k+1) ⟨by omega,by rw[hI.2,gJ dN,show pN h n l eE=false from (by assumption)];rfl⟩ (by omega) [0] (Sub.refl _)
 refine zD 7<|zX (zI (-1)) ⟨by rw[hI.2,nu (by omega)],rfl⟩
theorem Mu{v:Value}{ps:List an}{h l:Int}(hp:a8 ro v 3 cS ps)(hn:ps.length≤1000):dv zT 88 [v,.agg ⟨[zI h,zI n,zI l]⟩] ro (.bool (decide (bJ (pN h n l) ps 0≥0))):=by
 obtain⟨Hc,qpb,qpo,Bu,rfl,qpk,NO,NN⟩:=hp
 refine zE<|zD 2<|jn fun b3=>jd 6 [0]<|jp (vs:=[.slice Hc ps.length Bu,.agg ⟨[zI h,zI n,zI l]⟩]) [] [] (fun aF hs hZ=>agF ((show a8 _ _ _ _ _ from ⟨Hc,qpb,qpo,Bu,rfl,qpk,NO,NN⟩).up hs) (by first|omega| (simp only[List.length_set,zM];omega))) ?_
 refine zD 4<|zX (.bool (decide ((bJ (pN h n l) ps 0)≥0))) ⟨rfl,rfl⟩
theorem afR{v:Value}{ws:List ByteArray}(hv:a8 ro v 1 p6 ws)(hn:ws.length≤1000)(hW:∀w∈ws,(1≤w.size∧w.size≤6)∧Script w):dv zT 215 [v] ro (zI 0):=by
 obtain⟨NK,qvb,qvo,Ct,rfl,qvk,Q3,Q1⟩:=hv
 refine zE<|zD 12<|dL [1,0,1,0,0] [] (fun(zz:Nat)=>[(6,.slice NK ws.length Ct),(7,zI (ws.length:Int)),(8,zI (zz:Int))]) (fun zz=>[]) (fun zz=>zz≤ws.length) (fun zz=>ws.length-zz) 0 (by omega) [] ?_
 rintro k hI K1 bE rest
 refine zD 5<|zJ 9 ((k:Int) <(ws.length:Int)) (fun h1=>?_) fun h1=>?_
 ·
  refine zD 6 ?_
  obtain⟨x10,sr⟩:=zG ws k
  refine fL Ct 1 Q3 sr<|jl 0 (Q1 _ _ sr)<|zD 5<|jp (vs:=[.string x10]) [] [] (fun aF hs hZ=>(Vn (hW _ (zL sr)).1 (hW _ (zL sr)).2))<|zD 10<|ja ((k:Int)+1) (by omega)<|zD 2<|bF bE (k+1) (by omega) (by omega) [] (Sub.refl _)
 refine zD 7<|zX (zI 0) ⟨rfl,rfl⟩
def yh(w:ByteArray):Prop:=∀b∈w.data.toList,b.toNat <128∧kindOf (b.toNat:Int)=1
def ano(w:ByteArray):Bool:=w.data.toList.all fun b=>Nat.blt b.toNat 128&&decide (kindOf (b.toNat:Int)=1)
theorem HD{w:ByteArray}(h:ano w=true):yh w:=fun b hb=>by
 have:=List.all_eq_true.1 h b hb
 simp only[Bool.and_eq_true,Nat.blt_eq,decide_eq_true_eq] at this
 exact this
def XX(r:cR):Bool:=(Nat.ble 1 r.f.size&&Nat.ble r.f.size 2)&&(Nat.ble r.t.size 2&&(ano r.f&&(ano r.t&& !cI r.f r.t)))
theorem aaL:(ar5.all fun f=>toW.all fun t=>XX ⟨f,t⟩)=true:=by kernel_rfl
structure rS(r:cR):Prop where
 f1:1≤r.f.size∧r.f.size≤2
 t1:r.t.size≤2
 fl:yh r.f
 tl:yh r.t
 ne:cI r.f r.t=false
theorem atS{r:cR}(h:Jx r):rS r:=by
 have:=List.all_eq_true.1 (List.all_eq_true.1 aaL r.f h.1) r.t h.2
 simp only[XX,Bool.and_eq_true,Nat.ble_eq,Bool.not_eq_true'] at this
 exact⟨this.1,this.2.1,HD this.2.2.1,HD this.2.2.2.1,this.2.2.2.2⟩
theorem aDu:dv zT 252 [.int .i32 r] ro (.bool (!decide (kindOf r=1))):=by
 refine zE<|zD 7<|jp (vs:=[.int .i32 r]) [] [] (fun aF hs hZ=>aqV)<|zD 4<|zX (.bool (!decide ((kindOf r)=1))) ⟨rfl,rfl⟩
theorem aMv{w:ByteArray}(hK:yh w):dv zT 290 [.string w,.func (.func 252) ⟨[]⟩ ⟨[]⟩,.bool true] ro (zI (-1)):=by
 refine zE<|zD 8<|jn fun r10=>zD 2<|dL [1,0,1,0,0] [] (fun(zz:Nat)=>[(1,.func (.func 252) ⟨[]⟩ ⟨[]⟩),(2,.bool true),(10,zP r10)]) (fun zz=>[.b r10 (.stringIter w zz)]) (fun zz=>zz≤w.data.toList.length) (fun zz=>w.data.toList.length-zz) 0 (by omega) [0] ?_
 rintro p hI K1 bE rest
 refine zD 2 ?_
 cases abV:w.data.toList[p]? with
 |some x11=>
  refine jnA r10 0 abV (hK _ (zL abV)).1<|zD 14 ?_
  have Zl:=(hK _ (zL abV)).2
  refine zD 3<|jp (vs:=[.int .i32 (x11.toNat:Int)]) [] [] (fun aF hs hZ=>aDu)<|zD 1<|je (.bool ((!decide (kindOf (x11.toNat:Int)=1))==true)) rfl<|zD 1<|js 19 ((!decide (kindOf (x11.toNat:Int)=1))==true) (fun h1=>?_) (fun h1=>?_)
  ·
   exfalso;rw[Zl] at h1;cases h1
  refine zD 2<|bF bE (p+1) (by have:=(List.getElem?_eq_some_iff.1 abV).1;omega) (by have:=(List.getElem?_eq_some_iff.1 abV).1;omega) [0] (Sub.refl _)
 |none=>
  refine jnZ r10 0 abV<|zD 10<|zX (zI (-1)) ⟨rfl,rfl⟩
theorem aBQ{w:ByteArray}(hK:yh w):dv zT 273 [.string w,.func (.func 252) ⟨[]⟩ ⟨[]⟩] ro (zI (-1)):=by
 refine zE<|zD 8<|jp (vs:=[.string w,.func (.func 252) ⟨[]⟩ ⟨[]⟩,.bool true]) [] [] (fun aF hs hZ=>(aMv hK))<|zD 3<|zX (zI (-1)) ⟨rfl,rfl⟩
theorem aBS{w:ByteArray}(hK:yh w):dv zT 251 [.string w,.func (.func 252) ⟨[]⟩ ⟨[]⟩] ro (.bool false):=by
 refine zE<|zD 8<|jp (vs:=[.string w,.func (.func 252) ⟨[]⟩ ⟨[]⟩]) [] [] (fun aF hs hZ=>(aBQ hK))<|zD 4<|zX (.bool false) ⟨rfl,rfl⟩
theorem RF{w:ByteArray}(hK:yh w)(hn:w.size≤1000):dv zT 234 [.string w,zI lo,zI hi] ro (.bool (decide (lo≤w.size)&&decide ((w.size:Int)≤hi))):=by
 refine zE<|zD 11<|jj 5 [(0,.string w),(6,.bool false),(16,.bool ((decide (lo≤(w.size:Int)))&&(decide ((w.size:Int)≤hi))))] (fun gN=>?_) (fun hj=>?_)
 rotate_left
 refine js 11 (decide (lo≤(w.size:Int))) (fun h1=>?_) (fun h1=>?_)
 ·
  have fH:=h1
  replace fH:=of_decide_eq_true fH
  refine zD 5<|jw 16 (.bool ((decide (lo≤(w.size:Int)))&&(decide ((w.size:Int)≤hi)))) (w:= .bool (decide ((w.size:Int)≤hi))) (by rw[h1]<;>rfl) ?_
  exact zK hj
 ·
  have fH:=h1
  replace fH:=of_decide_eq_false fH
  refine zD 5<|jw 16 (.bool ((decide (lo≤(w.size:Int)))&&(decide ((w.size:Int)≤hi)))) (w:= .bool false) (by rw[h1]<;>rfl) ?_
  exact zK hj
 refine zD 1<|jj 4 [(6,.bool false),(21,.bool (((decide (lo≤(w.size:Int)))&&(decide ((w.size:Int)≤hi)))&&true))] (fun gN=>?_) (fun hj=>?_)
 rotate_left
 refine js 17 ((decide (lo≤(w.size:Int)))&&(decide ((w.size:Int)≤hi))) (fun h2=>?_) (fun h2=>?_)
 ·
  have kI:=h2
  try simp only[zB] at kI
  refine zD 1<|jp (vs:=[.string w,.func (.func 252) ⟨[]⟩ ⟨[]⟩]) [] [] (fun aF hs hZ=>(aBS hK))<|zD 2<|jw 21 (.bool (((decide (lo≤(w.size:Int)))&&(decide ((w.size:Int)≤hi)))&&true)) (w:= .bool true) (by rw[h2]<;>rfl) ?_
  exact zK hj
 ·
  have kI:=h2
  try simp only[zB] at kI
  refine zD 4<|jw 21 (.bool (((decide (lo≤(w.size:Int)))&&(decide ((w.size:Int)≤hi)))&&true)) (w:= .bool false) (by rw[h2]<;>rfl) ?_
  exact zK hj
 refine zD 3<|zX (.bool (((decide (lo≤(w.size:Int)))&&(decide ((w.size:Int)≤hi)))&&true)) ⟨by simp_all,rfl⟩
theorem Mf{w:ByteArray}(hK:yh w)(h1:lo≤w.size)(h2:(w.size:Int)≤hi)(h3:w.size≤1000):dv zT 234 [.string w,zI lo,zI hi] ro (.bool true):=by
 have:=RF (ro:=ro) hK h3 (lo:=lo) (hi:=hi)
 rw[decide_eq_true h1,decide_eq_true h2] at this
 exact this
theorem abk{v:Value}{rs:List cR}(hv:a8 ro v 2 fW rs)(hn:rs.length≤4)(hR:∀r∈rs,rS r):dv zT 214 [v] ro (zI 0):=by
 obtain⟨NK,qvb,qvo,Ct,rfl,qvk,Q3,Q1⟩:=hv
 refine zE<|zD 11<|zJ 7 ((rs.length:Int)>4) (fun h1=>?_) fun h1=>?_
 ·
  exfalso;omega
 refine zD 10<|dL [1,1,0,1,0,0] [] (fun(zz:Nat)=>[(8,.slice NK rs.length Ct),(9,zI (rs.length:Int)),(10,zI (zz:Int))]) (fun zz=>[]) (fun zz=>zz≤rs.length) (fun zz=>rs.length-zz) 0 (by omega) [] ?_
 rintro k hI K1 bE rest
 refine zD 5<|zJ 11 ((k:Int) <(rs.length:Int)) (fun h2=>?_) fun h2=>?_
 ·
  refine zD 6 ?_
  obtain⟨tN,qE⟩:=zG rs k
  refine fL Ct 2 Q3 qE<|jl 0 (Q1 _ _ qE)<|jn fun b4=>jd 3 [0] ?_
  have hrp:=(hR _ (zL qE))
  have hrf:=hrp.f1
  have hrt:=hrp.t1
  refine jd 3 [0]<|jp (vs:=[.string tN.f,zI 1,zI 2]) [] [] (fun aF hs hZ=>(Mf hrp.fl (by omega) (by omega) (by omega)))<|jd 4 [0]<|jp (vs:=[.string tN.t,zI 0,zI 2]) [] [] (fun aF hs hZ=>(Mf hrp.tl (by omega) (by omega) (by omega)))<|jd 10 [0,0]<|js 30 (cI tN.f tN.t) (fun h3=>?_) (fun h3=>?_)
  ·
   exfalso;rw[hrp.ne] at h3;cases h3
  refine zD 3<|ja ((k:Int)+1) (by omega)<|zD 2<|bF bE (k+1) (by omega) (by omega) [] (Sub.refl _)
 refine zD 7<|zX (zI 0) ⟨rfl,rfl⟩
def vv:List Int→Int
 | []=>0
 |x::xs=>xs.foldl min x
def Dm:List Int→Int
 | []=>0
 |x::xs=>xs.foldl max x
theorem auP{xs:List Int}{x:Int}(h:xs[0]?=some x):vv xs=(xs.drop 1).foldl min x:=by
 cases xs with
 |nil=>cases h
 |cons y l=>simp at h;subst h;rfl
theorem auQ{xs:List Int}{x:Int}(h:xs[0]?=some x):Dm xs=(xs.drop 1).foldl max x:=by
 cases xs with
 |nil=>cases h
 |cons y l=>simp at h;subst h;rfl
def si(l:List Int):Int:=(l.filter fun x=>decide (x>0)).length
theorem LV{l:List Int}{x:Int}(h:l[k]?=some x):si (l.take (k+1))=si (l.take k)+if x>0 then 1 else 0:=by
 rw[e8 h,si,List.filter_append,si]
 by_cases hx:x>0<;>simp[hx]
structure aj where
 past:Int
 w0:Int
 w1:Int
 w2:Int
 w3:Int
 gone:Int
 new:Int
 ab:Int
abbrev cG(x:aj):List Value:=[zI x.past,zI x.w0,zI x.w1,zI x.w2,zI x.w3,zI x.gone,zI x.new,zI x.ab]
def cw(g n m:Int)(x:aj):Bool:=decide (x.gone≤g)&&(decide (x.new≤n)&&decide (x.ab≤m))
def hasB(f i:Int):Bool:=decide (VC .u8 (aV .u8 f i) 1=1)
theorem aMt{v:Value}{xs:List Int}(hl:a8 ro v 1 cD xs)(hn:0 <xs.length∧xs.length≤1000000):dv zT 111 [v] ro (zI (vv xs)):=by
 obtain⟨dB,mP,mO,dz,rfl,qd,gY,jV⟩:=hl
 refine zE<|zD 11<|zJ 7 ((xs.length:Int) <1) (fun h1=>?_) fun h1=>?_
 ·
  exfalso;omega
 refine zD 5 ?_
 obtain⟨x10,sr⟩:=zG xs 0
 refine fL dz 1 gY sr<|jl 0 (jV _ _ sr)<|zD 8<|dL [1,1,1,0,1,0,0] [] (fun(zz:Nat×Int)=>[(0,.slice dB xs.length dz),(2,zI 0),(3,zI zz.2),(4,zI (zz.1:Int))]) (fun zz=>[]) (fun zz=>(1≤zz.1∧zz.1≤xs.length)∧vv xs=(xs.drop zz.1).foldl min zz.2) (fun zz=>xs.length-zz.1) (⟨1,x10⟩) ⟨by dsimp only;omega,auP sr⟩ [] ?_
 rintro⟨k,m⟩ hI K1 bE rest
 dsimp only at hI
 refine zD 8<|zJ 15 ((k:Int) <(xs.length:Int)) (fun h2=>?_) fun h2=>?_
 ·
  refine zD 8 ?_
  obtain⟨zd,qD⟩:=zG xs k
  refine fL dz 1 gY qD<|jl 0 (jV _ _ qD)<|jmn (k:= .i64) (a:=m) (b:=zd)<|zD 4<|ja ((k:Int)+1) (by omega)<|zD 2<|bF bE (⟨k+1,(min m zd)⟩) ⟨by dsimp only;omega,by rw[hI.2,fG qD];rfl⟩ (by dsimp only;omega) [] (Sub.refl _)
 refine zD 8<|zX (zI m) ⟨by rw[hI.2,eO (by omega)];rfl,rfl⟩
theorem aMu{v:Value}{xs:List Int}(hl:a8 ro v 1 cD xs)(hn:0 <xs.length∧xs.length≤1000000):dv zT 112 [v] ro (zI (Dm xs)):=by
 obtain⟨dB,mP,mO,dz,rfl,qd,gY,jV⟩:=hl
 refine zE<|zD 11<|zJ 7 ((xs.length:Int) <1) (fun h1=>?_) fun h1=>?_
 ·
  exfalso;omega
 refine zD 5 ?_
 obtain⟨x10,sr⟩:=zG xs 0
 refine fL dz 1 gY sr<|jl 0 (jV _ _ sr)<|zD 8<|dL [1,1,1,0,1,0,0] [] (fun(zz:Nat×Int)=>[(0,.slice dB xs.length dz),(2,zI 0),(3,zI zz.2),(4,zI (zz.1:Int))]) (fun zz=>[]) (fun zz=>(1≤zz.1∧zz.1≤xs.length)∧Dm xs=(xs.drop zz.1).foldl max zz.2) (fun zz=>xs.length-zz.1) (⟨1,x10⟩) ⟨by dsimp only;omega,auQ sr⟩ [] ?_
 rintro⟨k,m⟩ hI K1 bE rest
 dsimp only at hI
 refine zD 8<|zJ 15 ((k:Int) <(xs.length:Int)) (fun h2=>?_) fun h2=>?_
 ·
  refine zD 8 ?_
  obtain⟨zd,qD⟩:=zG xs k
  refine fL dz 1 gY qD<|jl 0 (jV _ _ qD)<|jmx (k:= .i64) (a:=m) (b:=zd)<|zD 4<|ja ((k:Int)+1) (by omega)<|zD 2<|bF bE (⟨k+1,(max m zd)⟩) ⟨by dsimp only;omega,by rw[hI.2,fG qD];rfl⟩ (by dsimp only;omega) [] (Sub.refl _)
 refine zD 8<|zX (zI m) ⟨by rw[hI.2,eO (by omega)];rfl,rfl⟩
theorem aq9{v:Value}{xs:List Int}(hl:a8 ro v 1 cD xs)(hn:0 <xs.length∧xs.length≤1000000):dv zT 79 [v] ro (.agg ⟨[zI (vv xs),zI (Dm xs)]⟩):=by
 obtain⟨dB,mP,mO,dz,rfl,qd,gY,jV⟩:=hl
 refine zE<|zD 2<|jn fun b2=>zD 4<|jp (vs:=[.slice dB xs.length dz]) [] [] (fun aF hs hZ=>aMt ((show a8 _ _ _ _ _ from ⟨dB,mP,mO,dz,rfl,qd,gY,jV⟩).up hs) (by omega))<|zD 1<|jp (vs:=[.slice dB xs.length dz]) [] [] (fun aF hs hZ=>aMu ((show a8 _ _ _ _ _ from ⟨dB,mP,mO,dz,rfl,qd,gY,jV⟩).up hs) (by omega))<|jd 4 [0]<|zR (.agg ⟨[zI (vv xs),zI (Dm xs)]⟩) [0] [] [] ⟨rfl,rfl⟩
theorem anJ{x:aj}:dv zT 78 [.agg ⟨[zI x.past,zI x.w0,zI x.w1,zI x.w2,zI x.w3,zI x.gone,zI x.new,zI x.ab]⟩] ro (.bool true):=by
 refine zE<|zD 2<|jn fun b1=>zD 7<|zX (.bool true) ⟨rfl,rfl⟩
theorem agD{f:Nat}{x:aj}{c2 c3 c4:Value}(hf:ro f=some (.cells ⟨[c0,c1,c2,c3,c4,c5,c6,c7,zI gone,zI new,zI ab,c11,vt]⟩ 128 (0,0))):dv zT 91 [zP f,.agg ⟨[zI x.past,zI x.w0,zI x.w1,zI x.w2,zI x.w3,zI x.gone,zI x.new,zI x.ab]⟩] ro (.bool (cw gone new ab x)):=by
 refine zE<|zD 2<|jn fun b3=>jd 10 [0]<|jl (b:=f) (off:=0) (m:=13) (vs:=[c0,c1,c2,c3,c4,c5,c6,c7,zI gone,zI new,zI ab,c11,vt]) 8 ⟨_,_,_,.inl hf,rfl⟩<|zD 2<|js 8 (decide (x.gone≤gone)) (fun h1=>?_) (fun h1=>?_)
 ·
  have fH:=h1
  replace fH:=of_decide_eq_true fH
  refine jd 6 [0]<|jl (b:=f) (off:=0) (m:=13) (vs:=[c0,c1,c2,c3,c4,c5,c6,c7,zI gone,zI new,zI ab,c11,vt]) 9 ⟨_,_,_,.inl hf,rfl⟩<|zD 3<|js 18 (decide (x.new≤new)) (fun h2=>?_) (fun h2=>?_)
  ·
   have kI:=h2
   replace kI:=of_decide_eq_true kI
   refine jd 6 [0]<|jl (b:=f) (off:=0) (m:=13) (vs:=[c0,c1,c2,c3,c4,c5,c6,c7,zI gone,zI new,zI ab,c11,vt]) 10 ⟨_,_,_,.inl hf,rfl⟩<|zD 5<|zX (.bool (decide (x.ab≤ab))) ⟨by simp_all[cw]<;>(intros;omega),rfl⟩
  have kI:=h2
  replace kI:=of_decide_eq_false kI
  refine zD 12<|zX (.bool false) ⟨by simp_all[cw]<;>(intros;omega),rfl⟩
 have fH:=h1
 replace fH:=of_decide_eq_false fH
 refine zD 22<|zX (.bool false) ⟨by simp_all[cw]<;>(intros;omega),rfl⟩
theorem avt{f i:Int}(hi:0≤i∧i≤8):dv zT 117 [.int .u8 f,zI i] ro (.bool (hasB f i)):=by
 refine zE<|zD 8<|jsr (k:= .u8) (k':= .i64) (a:=f) (b:=i) 120 (by omega)<|zD 5<|zX (.bool (decide ((VC .u8 (aV .u8 f i) 1)=1))) ⟨rfl,rfl⟩
theorem ava{p0 p1 p2 p3:Int}:dv zT 131 [.agg ⟨[zI p0,zI p1,zI p2,zI p3]⟩] ro (zI (si [p0,p1,p2,p3])):=by
 refine zE<|zD 2<|jn fun b1=>jd 13 [0]<|dL [1,1,0,1,0,0] [] (fun(zz:Nat×Int)=>[(2,zI 0),(3,zI zz.2),(6,.agg ⟨[zI p0,zI p1,zI p2,zI p3]⟩),(7,zI (zz.1:Int))]) (fun zz=>[]) (fun zz=>zz.1≤4∧zz.2=si ([p0,p1,p2,p3].take zz.1)∧(0≤zz.2∧zz.2≤zz.1)) (fun zz=>4-zz.1) (⟨0,0⟩) ⟨by omega,rfl,by omega⟩ [] ?_
 rintro⟨k,n⟩ hI K1 bE rest
 dsimp only at hI
 refine zD 5<|zJ 8 ((k:Int) <4) (fun h1=>?_) fun h1=>?_
 ·
  refine zD 6 ?_
  obtain⟨x9,hx9⟩:=zG ([p0,p1,p2,p3]:List Int) k (show k <4 from by omega)
  refine jai (l:=[zI p0,zI p1,zI p2,zI p3]) (k:Int) 4 1 false (by omega) (v:= zI x9) (show nth _ (k*1)=_ by rw[Nat.mul_one];exact aOi hx9) ?_
  refine zD 7<|zJ 11 (x9>0) (fun h2=>?_) fun h2=>?_
  ·
   refine zD 3<|ja (n+1) (by omega)<|zD 3<|ja ((k:Int)+1) (by omega)<|zD 2<|bF bE (⟨k+1,(n+1)⟩) ⟨by dsimp only;omega,by rw[LV hx9,if_pos (by assumption),hI.2.1],by dsimp only;omega⟩ (by dsimp only;omega) [] (Sub.refl _)
  refine zD 3<|ja ((k:Int)+1) (by omega)<|zD 2<|bF bE (⟨k+1,n⟩) ⟨by dsimp only;omega,by rw[LV hx9,if_neg (by assumption),hI.2.1,Int.add_zero],by dsimp only;omega⟩ (by dsimp only;omega) [] (Sub.refl _)
 refine zD 8<|zX (zI n) ⟨by rw[hI.2.1,show k=4 by omega];rfl,rfl⟩
theorem eN{xs:List α}{a:Option Addr}{o:Nat}(h:∀k,k <xs.length→a=some ⟨b,o,none⟩)(hn:a.isNone=true):xs=[]:=by
 cases xs with
 |nil=>rfl
 |cons x l=>rw[h 0 (by simp)] at hn;cases hn
theorem atI{v:Value}(hl:a8 ro v 1 p6 xs)(hn:xs.length≤1000):dQ zT 256 [v] ro [] (fun r Y=>∃L,aw r 1 9 p6 xs L∧Y=L):=by
 obtain⟨dB,mP,mO,dz,rfl,qd,gY,jV⟩:=hl
 refine zE<|zD 8<|jsn 137 (a:=dB) (l:=xs.length) (c:=dz)<|zD 1<|js 4 (dB.isNone) (fun h1=>?_) (fun h1=>?_)
 ·
  refine zD 6<|zX (zS) ⟨[],by rw[eN gY (by assumption)];exact aw.nil _ _ _,rfl⟩
 refine zD 4<|jn fun b5=>zD 1<|gL (sz:=1) (ps:=[]) (qs:=xs) (enc:=p6) (w:= .slice dB xs.length dz) [0] [] [] (aO (b:=b5) (T:=9)) (fun s he _=>⟨dB,mP,mO,dz,rfl,gY,fun i p hp=>(jV i p hp).ext he⟩) (fun p _=>ah rfl) (by simp<;>omega) (fun v7 L7 cm=>?_)
 rw[List.nil_append] at cm
 obtain⟨yp,yo,wO⟩:=cm.form
 subst wO
 refine zD 3<|zR ((.slice yp (xs).length yo)) [] [0] L7 ⟨_,cm,rfl⟩
theorem aOI{f:Nat}{c2 c3 c4:Value}(hx:a8 ro c11 3 kJ fs)(hf:ro f=some (.cells ⟨[c0,c1,c2,c3,c4,c5,c6,c7,zI gone,zI new,zI ab,c11,vt]⟩ 128 (0,0)))(hn:fs.length≤7):dv zT 51 [zP f] ro (.int .u8 (IntKind.u8.wrap (dM .u8 1 (fs.length:Int)-1))):=by
 obtain⟨qxa,qxb,qxo,qxc,rfl,qxk,qxh,qxl⟩:=hx
 refine zE<|zD 10<|jl (b:=f) (off:=0) (m:=13) (vs:=[c0,c1,c2,c3,c4,c5,c6,c7,zI gone,zI new,zI ab,.slice qxa fs.length qxc,vt]) 11 ⟨_,_,_,.inl hf,rfl⟩<|zD 1<|jsh (k:= .u8) (k':= .i64) (a:=1) (b:=(fs.length:Int)) 120 (by omega)<|zD 4<|zX (.int .u8 (IntKind.u8.wrap ((dM .u8 1 (fs.length:Int))-1))) ⟨rfl,rfl⟩
theorem yb{r:Value}{A B:Prop}(h:(r= .bool true∧A)∨(r= .bool false∧B)):∃c,r= .bool c∧(c=true→A)∧(c=false→B):=by
 rcases h with ⟨rfl,h⟩| ⟨rfl,h⟩
 ·exact⟨true,rfl,fun _=>h,nofun⟩
 exact⟨false,rfl,nofun,fun _=>h⟩
def uU(w f t:ByteArray)(i:Nat):ByteArray:=w.extract 0 (i:Int).toNat++t++w.extract ((i:Int)+(f.size:Int)).toNat w.size
def qo(w f t:ByteArray)(i:Nat):Option ByteArray:=if tj (w.extract i w.size) f=true∧1≤(uU w f t i).size∧(uU w f t i).size≤12 then some (uU w f t i) else none
def vu(w f t:ByteArray)(k:Nat):List ByteArray:=(List.range k).filterMap (qo w f t)
def Eu(w f t:ByteArray):List ByteArray:=vu w f t (w.size+1)
theorem CZ(w f t:ByteArray)(k:Nat):vu w f t (k+1)=vu w f t k++(qo w f t k).toList:=by
 rw[vu,vu,List.range_succ,List.filterMap_append]
 cases h:qo w f t k<;>simp[h]
theorem aeP(w f t:ByteArray){n:Nat}(h:k≤n):∃l,vu w f t n=vu w f t k++l:=by
 induction n with
 |zero=>exact⟨[],by rw[show k=0 by omega];simp⟩
 |succ n ih=>
  by_cases hk:k=n+1
  ·exact⟨[],by rw[hk];simp⟩
  obtain⟨l,hl⟩:=ih (by omega)
  exact⟨l++(qo w f t n).toList,by rw[CZ,hl,List.append_assoc]⟩
theorem QX{w x:ByteArray}{n:Nat}(hk:k <n)(h:qo w f t k=some x):(vu w f t n)[(vu w f t k).length]?=some x∧(vu w f t (k+1)).length=(vu w f t k).length+1:=by
 obtain⟨l,hl⟩:=aeP w f t (k:=k+1) (n:=n) hk
 rw[hl,CZ,h]
 constructor
 ·rw[List.append_assoc,List.getElem?_append_right (Nat.le_refl _)];simp
 simp
theorem X4{w:ByteArray}(h:qo w f t k=none):(vu w f t (k+1)).length=(vu w f t k).length:=by
 rw[CZ,h];simp
abbrev ar9(l:List ByteArray):(Nat→Option Obj)→Nat→List Value→Cells→Prop:=fun _ k vs LL=>∃x,l[k]?=some x∧vs=[.string x]∧LL=[]
theorem yh.ext{w:ByteArray}(h:yh w)(i j:Nat):yh (w.extract i j):=by
 intro b hb
 refine h b ?_
 have:(w.extract i j).data.toList=(w.data.extract i j).toList:=by simp[ByteArray.data_extract]
 rw[this,Array.toList_extract] at hb
 simp only[List.extract_eq_drop_take] at hb
 exact List.mem_of_mem_drop (List.mem_of_mem_take hb)
theorem yh.app{v w:ByteArray}(h:yh v)(k:yh w):yh (v++w):=by
 intro b hb
 have:(v++w).data.toList=v.data.toList++w.data.toList:=by simp[ByteArray.data_append]
 rw[this] at hb
 exact(List.mem_append.1 hb).elim (h b) (k b)
theorem Lq{w:ByteArray}(hw:yh w)(ht:yh t):yh (uU w f t i):=((hw.ext _ _).app ht).app (hw.ext _ _)
theorem afd{a b:ByteArray}(h:tj a b=true):b.size≤a.size:=by
 unfold tj at h
 simp only[Bool.and_eq_true,decide_eq_true_eq] at h
 omega
def age(w:ByteArray):Bool:=decide ((1:Int)≤w.size)&&decide ((w.size:Int)≤12)
theorem U3{w:ByteArray}(h:tj (w.extract (k:Int).toNat w.size) f=false):qo w f t k=none:=if_neg fun x=>by
 have h1:tj (w.extract k w.size) f=false:=h
 rw[h1] at x;cases x.1
theorem aaN{w:ByteArray}(h:age (uU w f t k)=false):qo w f t k=none:=if_neg fun x=>by
 simp only[age,Bool.and_eq_false_iff,decide_eq_false_iff_not] at h
 omega
theorem U2{w:ByteArray}(h:tj (w.extract (k:Int).toNat w.size) f=true)(h2:age (uU w f t k)=true):qo w f t k=some (uU w f t k):=if_pos ⟨h,by
 simp only[age,Bool.and_eq_true,decide_eq_true_eq] at h2
 omega⟩
theorem U1{w:ByteArray}(h:w.size≤100∧f.size≤100∧t.size≤100):(uU w f t k).size≤1000:=by
 simp only[uU,ByteArray.size_append,ByteArray.size_extract];omega
theorem amz{w:ByteArray}(hk:k≤w.size)(h:qo w f t k=some (uU w f t k)):(vu w f t k).length <(Eu w f t).length∧(Eu w f t)[(vu w f t k).length]?=some (uU w f t k):=by
 have:=(QX (n:=w.size+1) (by omega) h).1
 exact⟨(List.getElem?_eq_some_iff.1 this).1,this⟩
theorem WE(w:ByteArray)(a b:Nat):(w.extract a b).size≤w.size:=by simp;omega
theorem ajS(w:ByteArray)(i:Nat)(h:i≤w.size):(w.extract i w.size).size=w.size-i:=by simp
theorem anb{w:ByteArray}{b1 b2 b3:Nat}(g1:ro b1=some (.cells ⟨[.string w]⟩ 308 (0,0)))(g2:ro b2=some (.cells ⟨[.string f]⟩ 9 (0,0)))(g3:ro b3=some (.cells ⟨[.string t]⟩ 9 (0,0)))(hw:yh w)(ht:yh t)(hn:w.size≤100∧f.size≤100∧t.size≤100):ItX zT 298 [] [zP b1,zP b2,zP b3] ro [] (Eu w f t).length (ar9 (Eu w f t)) (fun Z=>Z=[]):=by
 intro bl aF Inv Stop hs hy B hB
 replace g1:=hs _ _ g1
 replace g2:=hs _ _ g2
 replace g3:=hs _ _ g3
 refine zC [.l B]<|zD 2<|jl (b:=b1) (off:=0) (m:=1) (vs:=[.string w]) 0 ⟨_,_,_,.inl g1,rfl⟩<|zD 1<|ja ((w.size:Int)+1) (by omega)<|zD 3<|dL [1,0,0] [] (fun(zz:Nat×Cells)=>[(0,(.func (.yield bl) #[] #[])),(1,zP b1),(2,zP b2),(3,zP b3),(9,zI ((w.size:Int)+1)),(10,zI (zz.1:Int))]) (fun zz=>[.l zz.2]) (fun zz=>zz.1≤w.size+1∧Inv (vu w f t zz.1).length zz.2) (fun zz=>w.size+1-zz.1) (⟨0,B⟩) ⟨by dsimp only;omega,hB⟩ [0] ?_
 rintro⟨k,B⟩ hI K1 bE rest
 dsimp only at hI
 refine zD 5<|zJ 11 ((k:Int) <((w.size:Int)+1)) (fun h1=>?_) fun h1=>?_
 ·
  refine zD 11 ?_
  have pg:=WE w (k:Int).toNat w.size
  refine zD 1<|jl (b:=b1) (off:=0) (m:=1) (vs:=[.string w]) 0 ⟨_,_,_,.inl g1,rfl⟩<|zD 1<|jtL (b:=w) (lo:=(k:Int)) (by omega)<|jl (b:=b2) (off:=0) (m:=1) (vs:=[.string f]) 0 ⟨_,_,_,.inl g2,rfl⟩<|jp (vs:=[.string (w.extract (k:Int).toNat w.size),.string f]) [] [] (fun aF hs hZ=>(ab2 (by omega)))<|zD 2<|js 18 (!(tj (w.extract (k:Int).toNat w.size) f)) (fun h2=>?_) (fun h2=>?_)
  ·
   try simp only[zB] at h2
   refine zD 3<|ja ((k:Int)+1) (by omega)<|zD 2<|bF bE (⟨k+1,B⟩) ⟨by dsimp only;omega,by dsimp only;rw[X4 (U3 (by assumption))];exact hI.2⟩ (by dsimp only;omega) [0] (Sub.refl _)
  try simp only[zB] at h2
  refine zD 3 ?_
  have JR:=WE w 0 (k:Int).toNat
  have he3:=WE w ((k:Int)+(f.size:Int)).toNat w.size
  have he4:(w.extract 0 (k:Int).toNat++t).size=_:=ByteArray.size_append
  have hpr:tj (w.extract (k:Int).toNat w.size) f=true:=by assumption
  have T5:=afd hpr
  rw[ajS _ _ (by omega)] at T5
  refine zD 1<|jl (b:=b1) (off:=0) (m:=1) (vs:=[.string w]) 0 ⟨_,_,_,.inl g1,rfl⟩<|zD 1<|jtH (b:=w) (hi:=(k:Int)) (by omega)<|jl (b:=b3) (off:=0) (m:=1) (vs:=[.string t]) 0 ⟨_,_,_,.inl g3,rfl⟩<|jsa (a:=(w.extract 0 (k:Int).toNat)) (b:=t) 308 (by omega)<|jl (b:=b1) (off:=0) (m:=1) (vs:=[.string w]) 0 ⟨_,_,_,.inl g1,rfl⟩<|zD 1<|jl (b:=b2) (off:=0) (m:=1) (vs:=[.string f]) 0 ⟨_,_,_,.inl g2,rfl⟩<|zD 1<|ja ((k:Int)+(f.size:Int)) (by omega)<|jtL (b:=w) (lo:=((k:Int)+(f.size:Int))) (by omega)<|jsa (a:=((w.extract 0 (k:Int).toNat)++t)) (b:=(w.extract ((k:Int)+(f.size:Int)).toNat w.size)) 308 (by omega)<|zD 5<|jp (vs:=[.string (((w.extract 0 (k:Int).toNat)++t)++(w.extract ((k:Int)+(f.size:Int)).toNat w.size)),zI 1,zI 12]) [] [] (fun aF hs hZ=>(RF (Lq (i:=k) hw ht) (U1 hn)))<|zD 1<|js 33 (age (uU w f t k)) (fun h3=>?_) (fun h3=>?_)
  ·
   have hry:=U2 (t:=t) hpr (by assumption)
   have T4:=amz (by omega) hry
   refine zD 2<|jyc [0] (hy (vu w f t k).length _ [] B aF T4.1 ⟨_,T4.2,rfl,rfl⟩ hI.2 (Sub.refl _)) (Sub.refl _) ?_
   intro v4 Y4 hy4
   obtain⟨c4,rfl,hc4,hd4⟩:=yb hy4
   refine zD 3<|js 38 (!c4) (fun h5=>?_) (fun h5=>?_)
   ·
    try simp only[zB] at h5
    refine zD 2<|zR (.tuple ⟨[]⟩) [] [0] Y4 ⟨[],Y4,rfl,rfl,.inr (hd4 (by simp_all))⟩
   try simp only[zB] at h5
   refine zD 3<|ja ((k:Int)+1) (by omega)<|zD 2<|bF bE (⟨k+1,Y4⟩) ⟨by dsimp only;omega,by dsimp only;rw[(QX (n:=k+1) (by omega) hry).2];exact hc4 (by assumption)⟩ (by dsimp only;omega) [0] (Sub.refl _)
  refine zD 9<|ja ((k:Int)+1) (by omega)<|zD 2<|bF bE (⟨k+1,B⟩) ⟨by dsimp only;omega,by dsimp only;rw[X4 (aaN (by assumption))];exact hI.2⟩ (by dsimp only;omega) [0] (Sub.refl _)
 refine zD 2<|zR (.tuple ⟨[]⟩) [] [0] B ⟨[],B,rfl,rfl,.inl (by have:=hI.2;rwa[show k=w.size+1 by omega] at this)⟩
end Go.L
