/- Part 9 of the proof. -/
import Derived.Test.YtknkndglfcfhkaaGreatDoorW8
set_option maxRecDepth 100000
set_option linter.all false
namespace Go.L
open Go Go.Conc Go.Proofs
variable {ro aJ:Nat→Option Obj} {ways:List (List aE)} {Z Z2 LM B LE:Cells} {W:List (List Int)} {b i k b1 ck fc bl b2 b3 s rm j JY ck0 r1 en ec:Nat} {F:Nat→Nat→Bool} {Stop:Cells→Prop} {l:List Value} {α κ β:Type} {K:aB} {vS vT:Value} {seen:List Nat} {n c5 c6:Int} {xs:List Int}
def aUB(ro:Nat→Option Obj)(f:Nat)(l:List Value)(rows:List bI):Prop:=∃vt,ro f=some (.cells ⟨l++[vt]⟩ 150 (0,0))∧bD ro vt 16 BZ rows
def B0(ways:List (List aE))(w:List Int):List (List aE):=List.zipWith (fun l n=>(l.take (n.toNat+1)).drop n.toNat) ways w
theorem apT{w:List Int}{l:List aE}(h1:ways[k]?=some l) (h2:w[k]?=some n):(B0 ways w)[k]?=some ((l.take (n.toNat+1)).drop n.toNat):=by
 simp only[B0,List.getElem?_zipWith,h1,h2]
def jJ(K:aB)(rk:List Int→ah→List ar)(w:List Int):bI:=⟨fun i j=>match K.before[i]?,K.after[j]? with
 |some x,some y=>decide (cw (mh y.st y.no 0) (rk w x) 0≥0)
 |_,_=>false⟩
def FB(F:Nat→Nat→Bool)(i j:Nat)(r:bI):Prop:=∀x y,r.c x y=((decide (x <i)||(decide (x=i)&&decide (y <j)))&&F x y)
theorem FB.set{r:bI}(h:FB F i j r):FB F i (j+1) (iY r i j (F i j)):=fun x y=>by
 simp only[iY]
 split
 ·rename_i hx;obtain⟨rfl,rfl⟩:=hx;simp
 rename_i hx
 rw[h x y]
 congr 2
 by_cases e:x=i
 ·subst e
  have:y≠j:=fun e2=>hx ⟨rfl,e2⟩
  simp only[decide_true,Bool.true_and]
  congr 1
  exact propext (by omega)
 simp[e]
theorem FB.nxt{n:Nat}{r:bI}(hF:∀x y,n≤y→F x y=false)(h:FB F i n r):FB F (i+1) 0 r:=fun x y=>by
 rw[h x y]
 by_cases hy:y <n
 ·congr 1
  simp only[hy,decide_true,Bool.and_true,Nat.not_lt_zero,decide_false,Bool.and_false,Bool.or_false]
  rw[Bool.eq_iff_iff];simp;omega
 rw[hF x y (by omega)];simp
theorem FB.fin{n:Nat}{r:bI}(hF:∀x y,n≤x→F x y=false)(h:FB F n 0 r):r=⟨F⟩:=by
 rcases r with ⟨c⟩
 congr 1
 funext x y
 have:=h x y
 dsimp only at this
 rw[this]
 by_cases hx:x <n
 ·simp[hx]
 rw[hF x y (by omega)];simp
theorem auh{rk:List Int→ah→List ar}{w:List Int}(x y:Nat)(h:K.before.length≤x):(jJ K rk w).c x y=false:=by simp only[jJ,List.getElem?_eq_none h]
theorem aug{rk:List Int→ah→List ar}{w:List Int}(x y:Nat)(h:K.after.length≤y):(jJ K rk w).c x y=false:=by
 simp only[jJ,List.getElem?_eq_none h]
 split
 ·rename_i h1;cases h1
 rfl
structure XB(K:aB)(W:List (List Int)):Prop where
 n:1≤W.length∧W.length≤2
 len:∀w∈W,w.length=K.ways.length
 JB:∀w∈W,∀(k:Nat) (l:List aE) (n:Int),K.ways[k]?=some l→w[k]?=some n→0≤n∧n <l.length
def yh(ro:Nat→Option Obj)(l:List Value)(K:aB)(W:List (List Int))(rk:List Int→ah→List ar):Prop:=∀w∈W,∀x∈K.before,(rk w x).length≤1000∧∀aH,Sub ro aH→∀v vS vT vU r,l=vS::vT::vU::r→nj aH v (B0 K.ways w)→
 eg zT 72 [.agg ⟨[vS,v,vU]⟩,.agg ⟨[zI x.st,zI x.no,zI 0]⟩] aH [] (fun r Y=>∃a n c,r= .tuple ⟨[.slice a n c,zI 0]⟩∧∀jW,Knows jW Y→bD jW (.slice a n c) 3 cN (rk w x))
theorem avU{rk:List Int→ah→List ar}(hK:fP ro l K)(hO:j6 K)(hV:eR K)(hW:XB K W)(h76:rh ro l W)(h47:yh ro l K W rk):eg zT 40 [.agg ⟨l⟩] ro [] (fun r Y=>∃f,r= .tuple ⟨[pV f,zI 0]⟩∧∀jW,Sub ro jW→Knows jW Y→pO jW f K (W.map (jJ K rk))∧aUB jW f l (W.map (jJ K rk))):=by
 have ZS:=hK
 obtain⟨vS,vT,vc,vh,vr,vb,va,vf,fa,fc,hv,rfl,hS,hT,px,n6,hr,hb,ha,hf⟩:=hK
 obtain⟨ij,hs,fw⟩:=id hS
 obtain⟨iS,ht,e8⟩:=id hT
 obtain⟨hc,hh,ED⟩:=id px
 have vJ:=hr
 have vx:=hb
 have ha0:=ha
 have hf0:=hf
 obtain⟨mB,U5,U3,lq,rfl,U4,NW,NU⟩:=hs
 obtain⟨dX,AK,AI,dB,rfl,AJ,sD,sC⟩:=ht
 obtain⟨dc,AN,AM,cY,rfl,CN,yH,yG⟩:=hc
 obtain⟨cF,rH,rG,cy,rfl,tv,pw,pn⟩:=hh
 obtain⟨kY,JD,JC,kX,rfl,P3,GY,GX⟩:=hr
 obtain⟨j7,Kb,J9,jZ,rfl,Ka,JF,JE⟩:=hb
 obtain⟨nv,N7,N2,nq,rfl,N3,LX,LW⟩:=ha
 obtain⟨jY,Ek,Ej,iP,rfl,LV,wA,wz⟩:=hf
 have Dl:=hO.rules
 have rq:=hO.before.1
 have Qe:=hO.after.1
 have Qd:=hO.facts.1
 have Qc:=hO.ways.1
 have JK:=fw.len
 have Fj:=e8.len
 have ZH:=hO.pX.two
 have hl9:=hO.di.nh
 have P2:∀(i:Nat) (p:dj),([]:List dj)[i]?=some p→cE ⟨ro,[]⟩ 0 (0+i*6) 6 (mZ p):=fun _ _ h=>oQ h
 have hWn:=hW.n
 refine aOx av 70 [] [] bp<|zD 2<|jn fun b1=>jn fun b2=>jn fun b3=>zD 4<|jdf (f:=70) (ca:=[zP b2,zP b3])<|jd 5 [2]<|jn fun Jm=>jd 6 [2,3]<|jc (vs:=[.agg ⟨[.slice mB ij.length lq,.slice dX iS.length dB,.slice fa 0 fc,.slice dc K.cs.length cY,.slice cF hv.length cy,.slice kY K.rules.length kX,.slice j7 K.before.length jZ,.slice nv K.after.length nq,zI K.gone,zI K.new,zI K.af,.slice jY K.facts.length iP]⟩]) [] (avT ZS hO hV ⟨hW.n.1,by have:=hW.n.2;omega⟩ h76) ?_
 rintro _ Y21 ⟨a21,n21,c21,rfl,bbb,aoH⟩
 refine zD 2<|jf [0] Y21 (fun zo bH iQ=>?_)
 obtain⟨wsW,hWs,ar9⟩:=aoH _ iQ
 obtain⟨qWa,qWb,qWo,qWc,heW,qWk,qWh,qWl⟩:=hWs
 simp only[Value.slice.injEq] at heW
 obtain⟨rfl,rfl,rfl⟩:=heW
 have hlW:=ar9.len
 refine zD 2<|nY<|dV [1,1,1,0,1,0,0] [] (fun(zz:Nat×Value×Cells)=>[(1,zP b1),(2,zP b2),(3,zP b3),(21,.slice a21 wsW.length c21),(22,zI (wsW.length:Int)),(23,zI (zz.1:Int))]) (fun zz=>[.l zz.2.2,.b Jm (.cells ⟨[.slice mB ij.length lq,.slice dX iS.length dB,.slice fa 0 fc,.slice dc K.cs.length cY,.slice cF hv.length cy,.slice kY K.rules.length kX,.slice j7 K.before.length jZ,.slice nv K.after.length nq,zI K.gone,zI K.new,zI K.af,.slice jY K.facts.length iP,zz.2.1]⟩ 150 (0,0)),.b b1 (.cells ⟨[.slice mB ij.length lq,.slice dX iS.length dB,.slice fa 0 fc,.slice dc K.cs.length cY,.slice cF hv.length cy,.slice kY K.rules.length kX,.slice j7 K.before.length jZ,.slice nv K.after.length nq,zI K.gone,zI K.new,zI K.af,.slice jY K.facts.length iP]⟩ 40 (0,0)),.b b2 (.cells ⟨[zP Jm]⟩ 100 (0,0)),.b b3 (.cells ⟨[zI 0]⟩ 46 (0,0))]) (fun zz=>zz.1≤wsW.length∧ay zz.2.1 16 153 BZ ((W.take zz.1).map (jJ K rk)) zz.2.2) (fun zz=>wsW.length-zz.1) (⟨0,zS,[]⟩) ⟨by dsimp only;omega,ay.nil _ _ _⟩ [0,1,4,3,2] ?_
 rintro⟨k,vR,LR⟩ hI K1 bO rest
 dsimp only at hI
 refine zD 5<|zJ 24 ((k:Int) <(wsW.length:Int)) (fun h4=>?_) fun h4=>?_
 ·
  refine zD 6 ?_
  obtain⟨y5,lB⟩:=zG wsW k
  refine iz c21 1 qWh lB ?_
  obtain⟨wL,aGx,SY⟩:=ar9.get lB
  obtain⟨aNl,aZn,aZl,aDG,rfl,aZm,aNk,aNj⟩:=SY
  refine jl 0 (qWl _ _ lB)<|zD 3 ?_
  have hwm:=zL aGx
  have hwl:=hW.len _ hwm
  refine jd 8 [2,2]<|jn fun b6=>jd 10 [0]<|nY<|dV [1,1,1,0,1,0,0,1,1,0,0,1,1,0,1,0,0] [K1] (fun(zz:Nat×Value×Cells×(List Value))=>[(1,zP b1),(2,zP b2),(3,zP b3),(6,zP b6),(21,.slice a21 wsW.length c21),(22,zI (wsW.length:Int)),(23,zI (k:Int)),(34,.slice aNl wL.length aDG),(35,zI (wL.length:Int)),(36,zI (zz.1:Int))]) (fun zz=>[.l zz.2.2.1,.b b6 (.cells ⟨[.slice mB ij.length lq,zz.2.1,.slice fa 0 fc]⟩ 31 (0,0)),.l LR,.b Jm (.cells ⟨[.slice mB ij.length lq,.slice dX iS.length dB,.slice fa 0 fc,.slice dc K.cs.length cY,.slice cF hv.length cy,.slice kY K.rules.length kX,.slice j7 K.before.length jZ,.slice nv K.after.length nq,zI K.gone,zI K.new,zI K.af,.slice jY K.facts.length iP,vR]⟩ 150 (0,0)),.b b1 (.cells ⟨[.slice mB ij.length lq,.slice dX iS.length dB,.slice fa 0 fc,.slice dc K.cs.length cY,.slice cF hv.length cy,.slice kY K.rules.length kX,.slice j7 K.before.length jZ,.slice nv K.after.length nq,zI K.gone,zI K.new,zI K.af,.slice jY K.facts.length iP]⟩ 40 (0,0)),.b b2 (.cells ⟨[zP Jm]⟩ 100 (0,0)),.b b3 (.cells ⟨[zI 0]⟩ 46 (0,0))]) (fun zz=>(zz.1≤wL.length∧zz.2.2.2.length=zz.1)∧ay zz.2.1 1 87 gz zz.2.2.2 zz.2.2.1∧dA (fun w l=>bD zo w 7 ju l) zz.2.2.2 ((B0 K.ways wL).take zz.1)) (fun zz=>wL.length-zz.1) (⟨0,zS,[],[]⟩) ⟨⟨by dsimp only;omega,rfl⟩,ay.nil _ _ _,(by simp only[List.take_zero];exact dA.nil)⟩ (zN 0 7) ?_
  rintro⟨j,vT,LT,es⟩ hJ K2 mr rest
  dsimp only at hJ
  refine zD 5<|zJ 37 ((j:Int) <(wL.length:Int)) (fun h5=>?_) fun h5=>?_
  ·
   refine zD 7 ?_
   obtain⟨FI,yy⟩:=zG wL j
   refine iz aDG 1 aNk yy<|jl 0 (aNj _ _ yy)<|jd 10 [1,4] ?_
   obtain⟨KU,HK⟩:=zG iS j
   refine iz dB 1 sD HK<|zD 1 ?_
   obtain⟨l49,aw5,h49⟩:=e8.get HK
   obtain hwr:=hW.JB _ hwm _ _ _ aw5 yy
   obtain bbg:=(hO.ways.2 _ (zL aw5)).1.2
   obtain⟨aNc,aNb,aM6,aNa,rfl,aM8,aM9,aM7⟩:=h49
   refine jl 0 ((sC _ _ HK).ext (oD bH))<|zD 2<|ja (FI+1) (by omega)<|jcB (lo:=FI) (hi:=(FI+1)) ((show bD _ _ _ _ _ from ⟨aNc,aNb,aM6,aNa,rfl,aM8,aM9,aM7⟩).up bH) (by omega) (fun v53 mD=>?_)
   obtain⟨LN,aDj,aDf,LJ,rfl,aDh,aDi,aDg⟩:=mD
   refine zD 1<|aQ 14 fun qp qv oV=>jn fun b55=>eo oV (zN 1 7)<|aQ 15 fun sq su qR=>iC (sz:=1) (ps:=es) (qs:=[(.slice LN (((((l49).take (FI+1).toNat).drop FI.toNat)).length) LJ:Value)]) (enc:=gz) (w:= .slice (some ⟨b55,0,none⟩) 1 1) [1] [0] [(b55,.cells ⟨([(.slice LN (((((l49).take (FI+1).toNat).drop FI.toNat)).length) LJ:Value)].map gz).flatten⟩ 87 (0,0))] (hJ.2.1) (fun s _ hZ=>bL [(.slice LN (((((l49).take (FI+1).toNat).drop FI.toNat)).length) LJ:Value)] (hZ _ (.head _)) (by intro p hp;rfl)) (by intro p hp;rw[List.mem_singleton] at hp;subst hp;exact ai rfl) (by simp<;>omega) (fun v56 L56 qK=>?_)
   obtain⟨Nx,Nv,V5⟩:=qK.form
   subst V5
   refine fJ qR [[],[5]]<|zD 1<|aQ 17 fun AZ A9 BK=>jd 1 [2]<|fp BK<|zD 2<|ja ((j:Int)+1) (by omega)<|zD 2<|bA mr (⟨j+1,(.slice Nx ((es++[(.slice LN (((((l49).take (FI+1).toNat).drop FI.toNat)).length) LJ:Value)])).length Nv),L56,(es++[(.slice LN (((((l49).take (FI+1).toNat).drop FI.toNat)).length) LJ:Value)])⟩) ⟨⟨by dsimp only;omega,by simp only[zM];omega⟩,qK,by rw[iF (apT aw5 yy)];exact hJ.2.2.snoc (by rw[show FI.toNat+1=(FI+1).toNat by omega];exact⟨LN,aDj,aDf,LJ,rfl,aDh,aDi,aDg⟩)⟩ (by dsimp only;omega) [0,2,3,4,5,6,7] (Sub.refl _)
  refine zD 3 ?_
  have hS6:dA (fun w l=>bD zo w 7 ju l) es (B0 K.ways wL):=by have:=hJ.2.2;rwa[List.take_of_length_le (by simp only[B0,List.length_zipWith];omega)] at this
  refine zD 1<|jn fun b9=>jd 10 [5]<|dV [1,1,1,0,1,0,0,1,1,0,0,1,1,1,1,0,1,0,0] [K1] (fun(zz:Nat×bI)=>[(1,zP b1),(2,zP b2),(3,zP b3),(6,zP b6),(9,zP b9),(21,.slice a21 wsW.length c21),(22,zI (wsW.length:Int)),(23,zI (k:Int)),(60,.slice j7 K.before.length jZ),(61,zI (K.before.length:Int)),(62,zI (zz.1:Int))]) (fun zz=>[.b b9 (.cells ⟨[.bool (zz.2.c 0 0),.bool (zz.2.c 0 1),.bool (zz.2.c 0 2),.bool (zz.2.c 0 3),.bool (zz.2.c 1 0),.bool (zz.2.c 1 1),.bool (zz.2.c 1 2),.bool (zz.2.c 1 3),.bool (zz.2.c 2 0),.bool (zz.2.c 2 1),.bool (zz.2.c 2 2),.bool (zz.2.c 2 3),.bool (zz.2.c 3 0),.bool (zz.2.c 3 1),.bool (zz.2.c 3 2),.bool (zz.2.c 3 3)]⟩ 153 (0,0)),.l LT,.b b6 (.cells ⟨[.slice mB ij.length lq,vT,.slice fa 0 fc]⟩ 31 (0,0)),.l LR,.b Jm (.cells ⟨[.slice mB ij.length lq,.slice dX iS.length dB,.slice fa 0 fc,.slice dc K.cs.length cY,.slice cF hv.length cy,.slice kY K.rules.length kX,.slice j7 K.before.length jZ,.slice nv K.after.length nq,zI K.gone,zI K.new,zI K.af,.slice jY K.facts.length iP,vR]⟩ 150 (0,0)),.b b1 (.cells ⟨[.slice mB ij.length lq,.slice dX iS.length dB,.slice fa 0 fc,.slice dc K.cs.length cY,.slice cF hv.length cy,.slice kY K.rules.length kX,.slice j7 K.before.length jZ,.slice nv K.after.length nq,zI K.gone,zI K.new,zI K.af,.slice jY K.facts.length iP]⟩ 40 (0,0)),.b b2 (.cells ⟨[zP Jm]⟩ 100 (0,0)),.b b3 (.cells ⟨[zI 0]⟩ 46 (0,0))]) (fun zz=>zz.1≤K.before.length∧FB (jJ K rk wL).c zz.1 0 zz.2) (fun zz=>K.before.length-zz.1) (⟨0,⟨fun _ _=>false⟩⟩) ⟨by dsimp only;omega,fun x y=>by simp⟩ (zN 0 8) ?_
  rintro⟨i,r⟩ hQ K6 hK6 rest
  dsimp only at hQ
  refine zD 5<|zJ 63 ((i:Int) <(K.before.length:Int)) (fun h9=>?_) fun h9=>?_
  ·
   refine zD 7 ?_
   obtain⟨Qp,ahm⟩:=zG K.before i
   refine iz jZ 5 JF ahm<|jl 0 ((JE _ _ ahm).ext (oD bH))<|jn fun Uh=>jd 7 [0,3,0]<|jp (vs:=[.agg ⟨[.string Qp.name,zI Qp.st,zI Qp.no,zI Qp.head,.bool Qp.bold]⟩]) [] [] (fun aH hs hZ=>Zq)<|aQ 3 fun amy amR Wl=>Sd (vs:=[.agg ⟨[.slice mB ij.length lq,vT,.slice fa 0 fc]⟩,.agg ⟨[zI Qp.st,zI Qp.no,zI 0]⟩]) [] [2] LT (fun aH hs hZ=>(h47 _ hwm _ (zL ahm)).2 _ (bH.trans hs) _ _ _ _ _ rfl ⟨_,hJ.2.1.jL hZ,hS6.imp fun _ _ k=>k.up hs⟩) ?_
   rintro _ Y71 ⟨a71,n71,c71,rfl,aPc⟩
   refine eo Wl (zN 1 9)<|zD 9<|jp (vs:=[zI 0]) [] [] (fun aH hs hZ=>Bu)<|jf [0] Y71 (fun aMQ OQ axp=>?_)
   obtain⟨qPa,qPb,qPo,qPc,heP,qPk,qPh,qPl⟩:=aPc _ axp
   simp only[Value.slice.injEq] at heP
   obtain⟨rfl,rfl,rfl⟩:=heP
   refine jd 9 [6]<|dV [1,1,1,0,1,0,0,1,1,0,0,1,1,1,1,0,1,0,0,1,1,0,0,1,1,1,1,0,0] [K1,K6] (fun(zz:Nat×bI)=>[(1,zP b1),(2,zP b2),(3,zP b3),(6,zP b6),(9,zP b9),(10,zI (i:Int)),(12,.slice a71 ((rk wL Qp).length) c71),(21,.slice a21 wsW.length c21),(22,zI (wsW.length:Int)),(23,zI (k:Int)),(60,.slice j7 K.before.length jZ),(61,zI (K.before.length:Int)),(62,zI (i:Int)),(77,.slice nv K.after.length nq),(78,zI (K.after.length:Int)),(79,zI (zz.1:Int))]) (fun zz=>[.b b9 (.cells ⟨[.bool (zz.2.c 0 0),.bool (zz.2.c 0 1),.bool (zz.2.c 0 2),.bool (zz.2.c 0 3),.bool (zz.2.c 1 0),.bool (zz.2.c 1 1),.bool (zz.2.c 1 2),.bool (zz.2.c 1 3),.bool (zz.2.c 2 0),.bool (zz.2.c 2 1),.bool (zz.2.c 2 2),.bool (zz.2.c 2 3),.bool (zz.2.c 3 0),.bool (zz.2.c 3 1),.bool (zz.2.c 3 2),.bool (zz.2.c 3 3)]⟩ 153 (0,0)),.b Uh (.cells ⟨[.string Qp.name,zI Qp.st,zI Qp.no,zI Qp.head,.bool Qp.bold]⟩ 55 (0,0)),.l LT,.b b6 (.cells ⟨[.slice mB ij.length lq,vT,.slice fa 0 fc]⟩ 31 (0,0)),.l LR,.b Jm (.cells ⟨[.slice mB ij.length lq,.slice dX iS.length dB,.slice fa 0 fc,.slice dc K.cs.length cY,.slice cF hv.length cy,.slice kY K.rules.length kX,.slice j7 K.before.length jZ,.slice nv K.after.length nq,zI K.gone,zI K.new,zI K.af,.slice jY K.facts.length iP,vR]⟩ 150 (0,0)),.b b1 (.cells ⟨[.slice mB ij.length lq,.slice dX iS.length dB,.slice fa 0 fc,.slice dc K.cs.length cY,.slice cF hv.length cy,.slice kY K.rules.length kX,.slice j7 K.before.length jZ,.slice nv K.after.length nq,zI K.gone,zI K.new,zI K.af,.slice jY K.facts.length iP]⟩ 40 (0,0)),.b b2 (.cells ⟨[zP Jm]⟩ 100 (0,0)),.b b3 (.cells ⟨[zI 0]⟩ 46 (0,0))]) (fun zz=>zz.1≤K.after.length∧FB (jJ K rk wL).c i zz.1 zz.2) (fun zz=>K.after.length-zz.1) (⟨0,r⟩) ⟨by dsimp only;omega,hQ.2⟩ [1,0,2,3,4,5,6,7,8] ?_
   rintro⟨j,r⟩ hU K8 Ue rest
   dsimp only at hU
   refine zD 5<|zJ 80 ((j:Int) <(K.after.length:Int)) (fun h14=>?_) fun h14=>?_
   ·
    refine zD 7 ?_
    obtain⟨vY,HH⟩:=zG K.after j
    refine iz nq 5 LX HH<|jl 0 ((LW _ _ HH).ext (oD (bH.trans OQ)))<|jn fun Jn=>jd 3 [0] ?_
    have hRW:(jJ K rk wL).c i j=decide (cw (mh vY.st vY.no 0) (rk wL Qp) 0≥0):=by simp only[jJ,ahm,HH]
    refine jd 5 [0]<|ME (b:=b9) (off:=0) (len:=4) (sz:=4) (i:Int) (by omega)<|jp (vs:=[.agg ⟨[.string vY.name,zI vY.st,zI vY.no,zI vY.head,.bool vY.bold]⟩]) [] [] (fun aH hs hZ=>Zq)<|jp (vs:=[.slice a71 ((rk wL Qp).length) c71,.agg ⟨[zI vY.st,zI vY.no,zI 0]⟩]) [] [] (fun aH hs hZ=>MB ((show bD _ _ _ _ _ from ⟨a71,qPb,qPo,c71,rfl,qPk,qPh,qPl⟩).up hs) (h47 _ hwm _ (zL ahm)).1)<|ME (b:=b9) (off:=0+(i:Int).toNat*4) (len:=4) (sz:=1) (j:Int) (by omega)<|aQ 8 fun Uk Uy SQ=>jsx 1 b9 (0+(i:Int).toNat*4+(j:Int).toNat*1) [.bool (r.c 0 0),.bool (r.c 0 1),.bool (r.c 0 2),.bool (r.c 0 3),.bool (r.c 1 0),.bool (r.c 1 1),.bool (r.c 1 2),.bool (r.c 1 3),.bool (r.c 2 0),.bool (r.c 2 1),.bool (r.c 2 2),.bool (r.c 2 3),.bool (r.c 3 0),.bool (r.c 3 1),.bool (r.c 3 2),.bool (r.c 3 3)] [.bool (decide (cw (mh vY.st vY.no 0) (rk wL Qp) 0≥0))] 153 (by intro v hv;rw[List.mem_singleton] at hv;subst hv;rfl) (Yw (r:=r) (by omega) (by omega)) ?_
    refine jmw 0 [.b b9 (.cells ⟨[.bool ((iY r i j ((jJ K rk wL).c i j)).c 0 0),.bool ((iY r i j ((jJ K rk wL).c i j)).c 0 1),.bool ((iY r i j ((jJ K rk wL).c i j)).c 0 2),.bool ((iY r i j ((jJ K rk wL).c i j)).c 0 3),.bool ((iY r i j ((jJ K rk wL).c i j)).c 1 0),.bool ((iY r i j ((jJ K rk wL).c i j)).c 1 1),.bool ((iY r i j ((jJ K rk wL).c i j)).c 1 2),.bool ((iY r i j ((jJ K rk wL).c i j)).c 1 3),.bool ((iY r i j ((jJ K rk wL).c i j)).c 2 0),.bool ((iY r i j ((jJ K rk wL).c i j)).c 2 1),.bool ((iY r i j ((jJ K rk wL).c i j)).c 2 2),.bool ((iY r i j ((jJ K rk wL).c i j)).c 2 3),.bool ((iY r i j ((jJ K rk wL).c i j)).c 3 0),.bool ((iY r i j ((jJ K rk wL).c i j)).c 3 1),.bool ((iY r i j ((jJ K rk wL).c i j)).c 3 2),.bool ((iY r i j ((jJ K rk wL).c i j)).c 3 3)]⟩ 153 (0,0))] (L:=[(b9,.cells ⟨dE [.bool (r.c 0 0),.bool (r.c 0 1),.bool (r.c 0 2),.bool (r.c 0 3),.bool (r.c 1 0),.bool (r.c 1 1),.bool (r.c 1 2),.bool (r.c 1 3),.bool (r.c 2 0),.bool (r.c 2 1),.bool (r.c 2 2),.bool (r.c 2 3),.bool (r.c 3 0),.bool (r.c 3 1),.bool (r.c 3 2),.bool (r.c 3 3)] (0+(i:Int).toNat*4+(j:Int).toNat*1) [.bool (decide (cw (mh vY.st vY.no 0) (rk wL Qp) 0≥0))]⟩ 153 (0,0))]) (by rw[Yu (by omega) (by omega),hRW];rfl) ?_
    refine fJ SQ []<|zD 2<|ja ((j:Int)+1) (by omega)<|zD 2<|bA Ue (⟨j+1,(iY r i j ((jJ K rk wL).c i j))⟩) ⟨by dsimp only;omega,hU.2.set⟩ (by dsimp only;omega) [0,2,3,4,5,6,7,8,9] (Sub.refl _)
   refine zD 3<|ja ((i:Int)+1) (by omega)<|zD 2<|bA hK6 (⟨i+1,r⟩) ⟨by dsimp only;omega,FB.nxt (fun x y h=>aug x y h) (by have:=hU.2;rwa[show j=K.after.length by omega] at this)⟩ (by dsimp only;omega) [0,2,3,4,5,6,7,8] OQ
  refine jd 9 [6,6,4,0]<|aQ 6 fun DW Ef uO=>jn fun aIN=>eo uO (zN 1 8)<|aQ 7 fun DV Ee xa=>iC (sz:=16) (ps:=((W.take k).map (jJ K rk))) (qs:=[(r:bI)]) (enc:=BZ) (w:= .slice (some ⟨aIN,0,none⟩) 1 1) [4] [0] [(aIN,.cells ⟨([(r:bI)].map BZ).flatten⟩ 153 (0,0))] (hI.2) (fun s _ hZ=>bL [(r:bI)] (hZ _ (.head _)) (by intro p hp;rfl)) (fun p _=>ai rfl) (by simp only[List.length_map,List.length_take,List.length_cons,List.length_nil];omega) (fun aYl aUz ZF=>?_)
  obtain⟨aBV,aBS,aGW⟩:=ZF.form
  subst aGW
  refine fJ xa [[7],[7]]<|zD 2<|aQ 10 fun Gc GA w9=>jd 1 [5]<|fJ w9 []<|zD 2<|ja ((k:Int)+1) (by omega)<|zD 2<|bA bO (⟨k+1,(.slice aBV ((((W.take k).map (jJ K rk))++[(r:bI)])).length aBS),aUz⟩) ⟨by dsimp only;omega,by rw[iF aGx,List.map_append];have e:=FB.fin (fun x y h=>auh x y h) (by have:=hQ.2;rwa[show i=K.before.length by omega] at this);subst e;exact ZF⟩ (by dsimp only;omega) [0,5,6,7,8] (Sub.refl _)
 refine jd 9 [3,3,4]<|jrD (g:=70) (ca:=[zP b2,zP b3]) ⟨rfl,rfl⟩ (.tuple ⟨[zP Jm,zI 0]⟩) [3,4] [1,0] ((Jm,.cells ⟨[.slice mB ij.length lq,.slice dX iS.length dB,.slice fa 0 fc,.slice dc K.cs.length cY,.slice cF hv.length cy,.slice kY K.rules.length kX,.slice j7 K.before.length jZ,.slice nv K.after.length nq,zI K.gone,zI K.new,zI K.af,.slice jY K.facts.length iP,vR]⟩ 150 (0,0))::LR) 9 bH ⟨_,_,rfl,rfl,Jm,rfl,fun jW hs hk=>by have hvt:=hI.2;rw[List.take_of_length_le (by omega)] at hvt;exact⟨⟨_,_,_,_,_,_,_,_,_,_,hv,hk _ (.head _),px.up hs,n6,vJ.up hs,vx.up hs,ha0.up hs,hf0.up hs,hvt.jL hk.tail⟩,⟨_,hk _ (.head _),hvt.jL hk.tail⟩⟩⟩
theorem yZ.v(h:yZ K):eR K where
 rules:=⟨by have:=h.rules.1;omega,fun r hr=>aue (h.rules.2 r hr)⟩
 before:=⟨by have:=h.before.1;omega,fun p hp=>by
  obtain⟨h1,h2,_⟩:=(h.before.2 p hp).1
  exact⟨⟨⟨h1.1.1,by have:=h1.1.2;omega⟩,h1.2⟩,h2⟩⟩
 after:=⟨by have:=h.after.1;omega,fun p hp=>by
  obtain⟨h1,h2,_⟩:=(h.after.2 p hp).1
  exact⟨⟨⟨h1.1.1,by have:=h1.1.2;omega⟩,h1.2⟩,h2⟩⟩
 di:=h.di.v
 facts:=⟨by have:=h.facts.1;omega,h.facts.2⟩
theorem rh.up(h:rh ro l W)(hs:Sub ro aJ):rh aJ l W:=fun aH h1=>h aH (hs.trans h1)
theorem yh.up{rk:List Int→ah→List ar}(h:yh ro l K W rk)(hs:Sub ro aJ):yh aJ l K W rk:=fun w hw x hx=>⟨(h w hw x hx).1,fun aH h1=>(h w hw x hx).2 aH (hs.trans h1)⟩
theorem aqb{rk:List Int→ah→List ar}(hK:fP ro l K)(hO:j6 K)(hV:eR K)(hW:XB K W)(h76:rh ro l W)(h47:yh ro l K W rk):jR ro l K (W.map (jJ K rk)):=
 fun aH hs=>(avU (hK.up hs) hO hV hW (h76.up hs) (h47.up hs)).mono fun _ _ ⟨f,e,h⟩=>⟨f,e,fun jW h1 h2=>(h jW h1 h2).1⟩
def rC(a b:Int):Int:=if a <b then-1 else if a>b then 1 else 0
def orL:List Int→Int
 | []=>0
 |x::l=>if x=0 then orL l else x
theorem afR{l:List Int}{x:Int}(h:l[k]?=some x):orL (l.drop k)=if x=0 then orL (l.drop (k+1)) else x:=by rw[eX h];rfl
theorem anA{l:List Int}(h:¬k <l.length):orL (l.drop k)=0:=by rw[eE h];rfl
def acM(x y:aj):Int:=orL [rC x.n y.n,rC x.l y.l]
theorem apZ{x y:aj}(h:ant x y):acM x y <0:=by
 rcases h with h| ⟨h1,h2⟩
 ·have e:rC x.n y.n= -1:=if_pos h
  simp[acM,orL,e]
 have e:rC x.n y.n=0:=by simp only[rC];rw[if_neg (by omega),if_neg (by omega)]
 have e2:rC x.l y.l= -1:=if_pos h2
 simp[acM,orL,e,e2]
theorem aHL{a:Int}:dK zT 151 [zI a] ro (.bool false):=by
 refine zE<|zD 12<|zX (.bool (!decide (a=a))) ⟨by simp,rfl⟩
theorem ay4{a b:Int}:dK zT 112 [zI a,zI b] ro (zI (rC a b)):=by
 refine zE<|zD 7<|jp (vs:=[zI a]) [] [] (fun aH hs hZ=>aHL)<|zD 5<|jp (vs:=[zI b]) [] [] (fun aH hs hZ=>aHL)<|zD 23<|zJ 16 (a <b) (fun h1=>?_) fun h1=>?_
 ·
  refine zD 6<|zX (zI (-1)) ⟨by simp only[rC];first|rw[if_pos (by omega)]|rw[if_neg (by omega),if_pos (by omega)]|rw[if_neg (by omega),if_neg (by omega)],rfl⟩
 refine zD 9<|zJ 19 (a>b) (fun h2=>?_) fun h2=>?_
 ·
  refine zD 6<|zX (zI 1) ⟨by simp only[rC];first|rw[if_pos (by omega)]|rw[if_neg (by omega),if_pos (by omega)]|rw[if_neg (by omega),if_neg (by omega)],rfl⟩
 refine zD 7<|zX (zI 0) ⟨by simp only[rC];first|rw[if_pos (by omega)]|rw[if_neg (by omega),if_pos (by omega)]|rw[if_neg (by omega),if_neg (by omega)],rfl⟩
theorem gOr{v:Value}(hl:bD ro v 1 cB xs)(hn:xs.length≤1000):dK zT 183 [v] ro (zI (orL xs)):=by
 obtain⟨fC,sG,sE,eO,rfl,ui,lP,mP⟩:=hl
 refine zE<|zD 16<|dV [1,1,0,1,0,0] [] (fun(zz:Nat)=>[(3,zI 0),(6,.slice fC xs.length eO),(7,zI (xs.length:Int)),(8,zI (zz:Int))]) (fun zz=>[]) (fun zz=>zz≤xs.length∧orL xs=orL (xs.drop zz)) (fun zz=>xs.length-zz) 0 ⟨by omega,rfl⟩ [] ?_
 rintro k hI K1 bO rest
 refine zD 5<|zJ 9 ((k:Int) <(xs.length:Int)) (fun h1=>?_) fun h1=>?_
 ·
  refine zD 6 ?_
  obtain⟨x10,sL⟩:=zG xs k
  refine iz eO 1 lP sL<|jl 0 (mP _ _ sL)<|zD 8<|js 14 (!decide (x10=0)) (fun h2=>?_) (fun h2=>?_)
  ·
   replace h2:=of_decide_eq_false (by simpa using h2)
   refine zD 7<|zX (zI x10) ⟨by rw[hI.2,afR sL,if_neg (by simp_all)],rfl⟩
  replace h2:=of_decide_eq_true (by simpa using h2)
  refine zD 3<|ja ((k:Int)+1) (by omega)<|zD 2<|bA bO (k+1) ⟨by omega,by rw[hI.2,afR sL,if_pos (by simp_all)]⟩ (by omega) [] (Sub.refl _)
 refine zD 8<|zX (zI 0) ⟨by rw[hI.2,anA (by omega)],rfl⟩
theorem asm{x y:aj}:dK zT 184 [.agg ⟨[zI x.n,zI x.l]⟩,.agg ⟨[zI y.n,zI y.l]⟩] ro (zI (acM x y)):=by
 refine zE<|zD 2<|jn fun b2=>jn fun b3=>jd 12 [1,0,1,0]<|jp (vs:=[zI x.n,zI y.n]) [] [] (fun aH hs hZ=>ay4)<|jp (vs:=[zI x.l,zI y.l]) [] [] (fun aH hs hZ=>ay4)<|aQ 10 fun EV EZ AV=>jn fun Jn=>eo AV [1,2]<|jp (vs:=[.slice (some ⟨Jn,0,none⟩) 2 2]) [0] [(Jn,.cells ⟨([(rC x.n y.n),(rC x.l y.l)].map cB).flatten⟩ 3 (0,0))] (fun aH hs hZ=>gOr (bK [(rC x.n y.n),(rC x.l y.l)] hZ.head (by intro p hp;rfl)) (by first|omega| (simp only[List.length_set,zM];omega))) ?_
 refine zD 3<|zX (zI (orL [(rC x.n y.n),(rC x.l y.l)])) ⟨rfl,rfl⟩
theorem BO{lo hi:Int}:dK zT 170 [zI n,zI lo,zI hi] ro (.bool (iL n lo hi)):=by
 refine zE<|zD 10<|jj 4 [(6,.bool false),(14,.bool ((decide (lo≤n))&&(decide (n≤hi))))] (fun gp=>?_) (fun hj=>?_)
 rotate_left
 refine js 10 (decide (lo≤n)) (fun h1=>?_) (fun h1=>?_)
 ·
  have gh:=h1
  replace gh:=of_decide_eq_true gh
  refine zD 4<|jw 14 (.bool ((decide (lo≤n))&&(decide (n≤hi)))) (w:= .bool (decide (n≤hi))) (by rw[h1]<;>rfl) ?_
  exact zK hj
 ·
  have gh:=h1
  replace gh:=of_decide_eq_false gh
  refine zD 4<|jw 14 (.bool ((decide (lo≤n))&&(decide (n≤hi)))) (w:= .bool false) (by rw[h1]<;>rfl) ?_
  exact zK hj
 refine zD 3<|zX (.bool ((decide (lo≤n))&&(decide (n≤hi)))) ⟨rfl,rfl⟩
theorem ayZ{x:aj}(hx:Cd x):dK zT 172 [.agg ⟨[zI x.n,zI x.l]⟩] ro (.bool true):=by
 obtain⟨⟨hx1,hx2⟩,hx3,hx4⟩:=hx
 refine zE<|zD 2<|jn fun b1=>jd 6 [0]<|jp (vs:=[zI x.n,zI 1,zI 40]) [] [] (fun aH hs hZ=>BO)<|zD 1<|jj 4 [(2,.bool false),(10,.bool ((iL x.n 1 40)&&(iL x.l 0 4)))] (fun gp=>?_) (fun hj=>?_)
 rotate_left
 refine js 6 (iL x.n 1 40) (fun h1=>?_) (fun h1=>?_)
 ·
  refine jd 2 [0]<|jp (vs:=[zI x.l,zI 0,zI 4]) [] [] (fun aH hs hZ=>BO)<|zD 1<|jw 10 (.bool ((iL x.n 1 40)&&(iL x.l 0 4))) (w:= .bool (iL x.l 0 4)) (by rw[h1]<;>rfl) ?_
  exact zK hj
 ·
  refine zD 4<|jw 10 (.bool ((iL x.n 1 40)&&(iL x.l 0 4))) (w:= .bool false) (by rw[h1]<;>rfl) ?_
  exact zK hj
 refine zD 3<|zX (.bool ((iL x.n 1 40)&&(iL x.l 0 4))) ⟨by simp only[iL,Value.bool.injEq,Bool.and_eq_true,decide_eq_true_eq];omega,rfl⟩
theorem ay5{v:Value}{S:List (List aj)}(hS:da ro v S)(hO:eS S):dK zT 169 [.agg ⟨[v]⟩] ro (zI 0):=by
 obtain⟨ws,ht,dq⟩:=hS
 obtain⟨dX,AK,AI,dB,rfl,AJ,sD,sC⟩:=ht
 have hln:=dq.len
 have Ko:=hO.two
 refine zE<|zD 2<|jn fun b1=>jd 10 [0]<|zJ 10 ((ws.length:Int)=0) (fun h1=>?_) fun h1=>?_
 ·
  exfalso;omega
 refine jd 10 [0]<|zJ 14 ((ws.length:Int)>3) (fun h2=>?_) fun h2=>?_
 ·
  exfalso;omega
 refine jd 11 [0]<|dV [1,1,1,0,1,0,0] [] (fun(zz:Nat)=>[(16,.slice dX ws.length dB),(17,zI (ws.length:Int)),(18,zI (zz:Int))]) (fun zz=>[.b b1 (.cells ⟨[.slice dX ws.length dB]⟩ 27 (0,0))]) (fun zz=>zz≤ws.length) (fun zz=>ws.length-zz) 0 (by omega) [0] ?_
 rintro k hI K1 bO rest
 refine zD 5<|zJ 19 ((k:Int) <(ws.length:Int)) (fun h3=>?_) fun h3=>?_
 ·
  refine zD 6 ?_
  obtain⟨x20,ON⟩:=zG ws k
  refine iz dB 1 sD ON ?_
  obtain⟨l21,aw7,h21⟩:=dq.get ON
  obtain bbi:=hO.len _ (zL aw7)
  obtain aPp:=hO.ok _ (zL aw7)
  obtain aoH:=hO.asc _ (zL aw7)
  obtain⟨aDO,aZq,aZo,anq,rfl,aZp,aDN,aDM⟩:=h21
  refine jl 0 (sC _ _ ON)<|zD 9<|zJ 24 ((l21.length:Int)>8) (fun h4=>?_) fun h4=>?_
  ·
   exfalso;omega
  refine zD 9<|dV [1,1,1,0,1,0,0,1,1,0,0,1,1,1,0,0] [K1] (fun(zz:Nat)=>[(4,.slice aDO l21.length anq),(16,.slice dX ws.length dB),(17,zI (ws.length:Int)),(18,zI (k:Int)),(25,.slice aDO l21.length anq),(26,zI (l21.length:Int)),(27,zI (zz:Int))]) (fun zz=>[.b b1 (.cells ⟨[.slice dX ws.length dB]⟩ 27 (0,0))]) (fun zz=>zz≤l21.length) (fun zz=>l21.length-zz) 0 (by omega) [0] ?_
  rintro i hJ K2 mr rest
  refine zD 5<|zJ 28 ((i:Int) <(l21.length:Int)) (fun h5=>?_) fun h5=>?_
  ·
   refine zD 7 ?_
   obtain⟨oI,jk⟩:=zG l21 i
   refine iz anq 2 aDN jk<|jl 0 (aDM _ _ jk)<|jn fun b6=>jd 7 [0,0]<|jp (vs:=[.agg ⟨[zI oI.n,zI oI.l]⟩]) [] [] (fun aH hs hZ=>(ayZ (x:=oI) (aPp _ (zL jk))))<|zD 9<|js 2 (decide ((i:Int)>0)) (fun h6=>?_) (fun h6=>?_)
   ·
    have h6g:=h6
    replace h6g:=of_decide_eq_true h6g
    refine zD 2<|ja ((i:Int)-1) (by omega) ?_
    obtain⟨x41,awe⟩:=zG l21 (((i:Int)-1).toNat)
    refine P6 ((i:Int)-1) anq 2 aDN awe (by omega)<|jl 0 (aDM _ _ awe)<|jd 1 [0]<|jp (vs:=[.agg ⟨[zI x41.n,zI x41.l]⟩,.agg ⟨[zI oI.n,zI oI.l]⟩]) [] [] (fun aH hs hZ=>(asm (x:=x41) (y:=oI)))<|zD 3<|zJ 46 ((acM x41 oI)≥0) (fun h7=>?_) fun h7=>?_
    ·
     exfalso;have:=apZ (qB aoH (show ((i:Int)-1).toNat <i by omega) awe jk);simp_all;omega
    refine zD 3<|ja ((i:Int)+1) (by omega)<|zD 2<|bA mr (i+1) (by omega) (by omega) [1] (Sub.refl _)
   have h6g:=h6
   replace h6g:=of_decide_eq_false h6g
   refine zD 13<|ja ((i:Int)+1) (by omega)<|zD 2<|bA mr (i+1) (by omega) (by omega) [1] (Sub.refl _)
  refine zD 3<|ja ((k:Int)+1) (by omega)<|zD 2<|bA bO (k+1) (by omega) (by omega) [0] (Sub.refl _)
 refine zD 7<|zX (zI 0) ⟨rfl,rfl⟩
abbrev pG(x:ar):Value:= .agg ⟨cN x⟩
instance:DecidableEq ar:=fun x y=>match x,y with
 | ⟨a,b,c⟩,⟨d,e,f⟩=>if h:a=d∧b=e∧c=f then isTrue (by obtain⟨rfl,rfl,rfl⟩:=h;rfl) else isFalse fun k=>h (by cases k;exact⟨rfl,rfl,rfl⟩)
def mQ(s:Int)(x:aj):ar:=⟨s,x.n,x.l⟩
def So(S:List (List aj)):Nat→List ar
 |0=>[]
 |k+1=>So S k++(match S[k]? with
  |some l=>l.map (mQ k)
  |none=>[])
def bM(S:List (List aj)):List ar:=So S S.length
theorem awt{S:List (List aj)}{l:List aj}(h:S[k]?=some l):So S (k+1)=So S k++l.map (mQ k):=by simp only[So,h]
theorem FT{S:List (List aj)}{x:ar}:∀ {k:Nat},x∈So S k↔∃j l p,j <k∧S[j]?=some l∧p∈l∧x=mQ j p
 |0=>by simp[So]
 |k+1=>by
  simp only[So,List.mem_append,FT (k:=k)]
  constructor
  ·rintro(⟨j,l,p,h1,h2⟩|h)
   ·exact⟨j,l,p,by omega,h2⟩
   split at h
   ·rename_i l hl
    obtain⟨p,hp,rfl⟩:=List.mem_map.1 h
    exact⟨k,l,p,by omega,hl,hp,rfl⟩
   cases h
  rintro⟨j,l,p,h1,h2,h3,rfl⟩
  by_cases hj:j=k
  ·subst hj;rw[h2];exact .inr (List.mem_map_of_mem h3)
  exact .inl ⟨j,l,p,by omega,h2,h3,rfl⟩
theorem H5{S:List (List aj)}{l:List aj}{p:aj}(h1:S[j]?=some l) (h2:p∈l):mQ j p∈bM S:=FT.2 ⟨j,l,p,(List.getElem?_eq_some_iff.1 h1).1,h1,h2,rfl⟩
theorem VJ{S:List (List aj)}(hO:eS S):∀k,(So S k).Nodup
 |0=>List.nodup_nil
 |k+1=>by
  simp only[So]
  refine List.nodup_append.2 ⟨VJ hO k,?_,fun x hx y hy e=>?_⟩
  ·split
   ·rename_i l hl
    refine List.pairwise_map.2 ((hO.asc l (zL hl)).imp fun {a b} h e=>?_)
    simp only[mQ,ar.mk.injEq] at e
    rcases h with h|h<;>omega
   exact List.nodup_nil
  subst e
  obtain⟨j,l,p,h1,_,_,rfl⟩:=FT.1 hx
  split at hy
  ·obtain⟨q,_,hq⟩:=List.mem_map.1 hy
   simp only[mQ,ar.mk.injEq] at hq
   omega
  cases hy
theorem OP{S:List (List aj)}(hO:eS S):∀k,(So S k).length≤4*k
 |0=>by simp[So]
 |k+1=>by
  have:=OP hO k
  simp only[So,List.length_append]
  split
  ·rename_i l hl
   have:=hO.len l (zL hl)
   rw[List.length_map];omega
  simp;omega
theorem uL{S:List (List aj)}(hO:eS S):(bM S).length≤8:=by
 have:=OP hO S.length
 have:=hO.two
 unfold bM;omega
theorem aH8(a b:ar):EqD zT 10000 158 (pG a) (pG b) (decide (a=b)):=by
 have h:=(uR (nB Tryz.typeInfo158 Tryz.underlying158 rfl rfl rfl rfl rfl rfl) Tryz.stoodInHeld158 (.cons (by decide) (ky mL rfl) (ky mL rfl) (oE mL _ _) (.cons (by decide) (Hc (nB Tryz.typeInfo79 Tryz.underlying79 rfl rfl rfl rfl rfl rfl) rfl) (Hc (nB Tryz.typeInfo79 Tryz.underlying79 rfl rfl rfl rfl rfl rfl) rfl) (akn _ _ _ _ 9997) .nil)):EqD zT 10000 158 (pG a) (pG b) _)
 have e:(a.h==b.h&&((a.n==b.n&&(a.l==b.l&&true))&&true))=decide (a=b):=by
  rcases a with ⟨x,y,z⟩;rcases b with ⟨u,v,w⟩
  rw[Bool.eq_iff_iff];simp
 rwa[e] at h
theorem aTt(a:ar):CkD zT 10000 158 (pG a):=
 Ty (nB Tryz.typeInfo158 Tryz.underlying158 rfl rfl rfl rfl rfl rfl) (.cons (by decide) (ky mL rfl) (I3 mL _) (.cons (by decide) (Hc (nB Tryz.typeInfo79 Tryz.underlying79 rfl rfl rfl rfl rfl rfl) rfl) (Ty (dep:=9998) (nB Tryz.typeInfo79 Tryz.underlying79 rfl rfl rfl rfl rfl rfl) (.cons (by decide) (ky mL rfl) (I3 mL _) (.cons (by decide) (ky mL rfl) (I3 mL _) .nil))) .nil))
theorem Ex:TW zT 158 pG:=agQ (nB Tryz.typeInfo158 Tryz.underlying158 rfl rfl rfl rfl rfl rfl) (fun k=>⟨_,rfl⟩) aTt aH8 (fun k=>by simp[Instr.sameBits])
def MV(Z:Cells)(F:List (ar×Value))(g:ar→ar):Prop:=∀aJ,Knows aJ Z→∀x∈F,bD aJ x.2 3 cN [g x.1]
theorem IF[DecidableEq κ]{k:κ}:∀ {F:List (κ×Value)} {i:Nat},k∈F.map (·.1)→∃j v,sV k F i=some (j,v)
 | [],_,h=>by cases h
 |x::F,i,h=>by
  simp only[sV]
  split
  ·exact⟨_,_,rfl⟩
  rename_i hk
  refine IF ?_
  rcases List.mem_cons.1 h with h|h
  ·exact absurd h hk
  exact h
theorem Zd[DecidableEq κ]{k:κ}{F:List (κ×Value)}(h:k∈F.map (·.1)):∃v,lkM k F=some v∧(k,v)∈F:=by
 obtain⟨j,v,h1⟩:=IF (i:=0) h
 exact⟨v,by simp[lkM,h1],zL (qV h1).2⟩
theorem aer[DecidableEq κ]{k:κ}{v:Value}{F:List (κ×Value)}(h:k∉F.map (·.1)):mA k v F=F++[(k,v)]:=by
 have:sV k F 0=none:=by
  cases hf:sV k F 0 with
  |none=>rfl
  |some y=>exact absurd (List.mem_map_of_mem (f:=(·.1)) (zL (qV (j:=y.1) (v:=y.2) hf).2)) h
 simp only[mA,this]
theorem Qy[DecidableEq κ]{k:κ}{v:Value}{F:List (κ×Value)}(h:k∈F.map (·.1))(hn:(F.map (·.1)).Nodup):(mA k v F).map (·.1)=F.map (·.1)∧∀x∈mA k v F,x=(k,v)∨(x∈F∧x.1≠k):=by
 obtain⟨j,u,h1⟩:=IF (i:=0) h
 have h2:=(qV h1).2
 rw[Nat.sub_zero] at h2
 obtain⟨hj,Ub⟩:=List.getElem?_eq_some_iff.1 h2
 simp only[mA,h1,FM]
 refine⟨?_,fun x hx=>?_⟩
 ·rw[List.map_set]
  refine List.ext_getElem? fun i=>?_
  rw[List.getElem?_set]
  split
  ·rename_i hi;subst hi;simp[h2,hj,Ub]
  rfl
 obtain⟨i,hi⟩:=List.getElem?_of_mem hx
 rw[List.getElem?_set] at hi
 split at hi
 ·cases hi;exact .inl rfl
 rename_i JM
 refine .inr ⟨zL hi,fun e=>JM ?_⟩
 obtain⟨hi1,SE⟩:=List.getElem?_eq_some_iff.1 hi
 exact(List.getElem_inj (xs:=F.map (·.1)) (h₀:=by simpa using hj) (h₁:=by simpa using hi1) hn).1 (by simp[Ub,SE,e])
theorem MV.set{F:List (ar×Value)}{g:ar→ar}(h:MV Z F g){k y:ar}{v:Value}(hk:k∈F.map (·.1))(hn:(F.map (·.1)).Nodup)(hv:∀aJ,Knows aJ Z2→bD aJ v 3 cN [y]):MV (Z++Z2) (mA k v F) (fun x=>if x=k then y else g x):=fun aJ hr x hx=>by
 rcases(Qy hk hn).2 x hx with rfl| ⟨h1,h2⟩
 ·simp only[if_true];exact hv aJ hr.right
 simp only[h2,if_false];exact h aJ hr.left x h1
theorem MV.add{F:List (ar×Value)}{g:ar→ar}(h:MV Z F g){k:ar}{v:Value}(hv:∀aJ,Knows aJ Z2→bD aJ v 3 cN [g k]):MV (Z++Z2) (F++[(k,v)]) g:=fun aJ hr x hx=>by
 rcases List.mem_append.1 hx with h1|h1
 ·exact h aJ hr.left x h1
 rw[List.mem_singleton] at h1;subst h1;exact hv aJ hr.right
theorem aHX{v:Value}(hl:bD ro v 1 cB xs)(hn:xs.length≤1000):eg zT 177 [v] ro [] (fun r Y=>ay r 1 3 cB xs Y):=by
 obtain⟨fC,sG,sE,eO,rfl,ui,lP,mP⟩:=hl
 refine zE<|zD 8<|jsn 22 (a:=fC) (l:=xs.length) (c:=eO)<|zD 1<|js 4 (fC.isNone) (fun h1=>?_) (fun h1=>?_)
 ·
  refine zD 6<|zX (zS) (by rw[rO lP (by assumption)];exact ay.nil _ _ _)
 refine zD 4<|jn fun b5=>zD 1<|iC (sz:=1) (ps:=[]) (qs:=xs) (enc:=cB) (w:= .slice fC xs.length eO) [0] [] [] (bC (b:=b5) (T:=3)) (fun s he _=>⟨fC,sG,sE,eO,rfl,lP,fun i p hp=>(mP i p hp).ext he⟩) (fun p _=>ai rfl) (by simp<;>omega) (fun v7 L7 iI=>?_)
 rw[List.nil_append] at iI
 obtain⟨Ut,Un,SJ⟩:=iI.form
 subst SJ
 refine zD 3<|zR ((.slice Ut (xs).length Un)) [] [0] L7 iI
theorem aS8{v:Value}{xs:List aj}(hl:bD ro v 2 cM xs)(hn:xs.length≤1000):eg zT 211 [v] ro [] (fun r Y=>ay r 2 79 cM xs Y):=by
 obtain⟨fC,sG,sE,eO,rfl,ui,lP,mP⟩:=hl
 refine zE<|zD 8<|jsn 80 (a:=fC) (l:=xs.length) (c:=eO)<|zD 1<|js 4 (fC.isNone) (fun h1=>?_) (fun h1=>?_)
 ·
  refine zD 6<|zX (zS) (by rw[rO lP (by assumption)];exact ay.nil _ _ _)
 refine zD 4<|jn fun b5=>zD 1<|iC (sz:=2) (ps:=[]) (qs:=xs) (enc:=cM) (w:= .slice fC xs.length eO) [0] [] [] (bC (b:=b5) (T:=79)) (fun s he _=>⟨fC,sG,sE,eO,rfl,lP,fun i p hp=>(mP i p hp).ext he⟩) (fun p _=>ai rfl) (by simp<;>omega) (fun v7 L7 iI=>?_)
 rw[List.nil_append] at iI
 obtain⟨Ut,Un,SJ⟩:=iI.form
 subst SJ
 refine zD 3<|zR ((.slice Ut (xs).length Un)) [] [0] L7 iI
theorem aS9{v:Value}{xs:List ar}(hl:bD ro v 3 cN xs)(hn:xs.length≤1000):eg zT 128 [v] ro [] (fun r Y=>ay r 3 158 cN xs Y):=by
 obtain⟨fC,sG,sE,eO,rfl,ui,lP,mP⟩:=hl
 refine zE<|zD 8<|jsn 154 (a:=fC) (l:=xs.length) (c:=eO)<|zD 1<|js 4 (fC.isNone) (fun h1=>?_) (fun h1=>?_)
 ·
  refine zD 6<|zX (zS) (by rw[rO lP (by assumption)];exact ay.nil _ _ _)
 refine zD 4<|jn fun b5=>zD 1<|iC (sz:=3) (ps:=[]) (qs:=xs) (enc:=cN) (w:= .slice fC xs.length eO) [0] [] [] (bC (b:=b5) (T:=158)) (fun s he _=>⟨fC,sG,sE,eO,rfl,lP,fun i p hp=>(mP i p hp).ext he⟩) (fun p _=>ai rfl) (by simp<;>omega) (fun v7 L7 iI=>?_)
 rw[List.nil_append] at iI
 obtain⟨Ut,Un,SJ⟩:=iI.form
 subst SJ
 refine zD 3<|zR ((.slice Ut (xs).length Un)) [] [0] L7 iI
theorem apA{v:Value}{S:List (List aj)}(hS:da ro v S)(hO:eS S):eg zT 180 [.agg ⟨[v]⟩] ro [] (fun r Y=>∃a n c,r= .agg ⟨[.slice a n c]⟩∧∀aJ,Knows aJ Y→da aJ (.slice a n c) S):=by
 obtain⟨ws,ht,dq⟩:=hS
 obtain⟨dX,AK,AI,dB,rfl,AJ,sD,sC⟩:=ht
 have hln:=dq.len
 have Ko:=hO.two
 refine zE<|zD 2<|jn fun b1=>jn fun b2=>zD 4<|jn fun b3=>jd 11 [0,2]<|nY<|nY<|dV [1,1,0,1,0,0] [] (fun(zz:Nat×Value×Cells×(List Value)×Cells)=>[(2,zP b2),(3,zP b3),(8,.slice dX ws.length dB),(9,zI (ws.length:Int)),(10,zI (zz.1:Int))]) (fun zz=>[.b b3 (.cells ⟨[zz.2.1]⟩ 27 (0,0)),.l zz.2.2.1,.l zz.2.2.2.2,.b b2 (.cells ⟨[zS]⟩ 27 (0,0)),.b b1 (.cells ⟨[.slice dX ws.length dB]⟩ 27 (0,0))]) (fun zz=>(zz.1≤ws.length∧zz.2.2.2.1.length=zz.1)∧ay zz.2.1 1 80 gz zz.2.2.2.1 zz.2.2.1∧∀aJ,Knows aJ zz.2.2.2.2→dA (fun w l=>bD aJ w 2 cM l) zz.2.2.2.1 (S.take zz.1)) (fun zz=>ws.length-zz.1) (⟨0,zS,[],[],[]⟩) ⟨⟨by dsimp only;omega,rfl⟩,ay.nil _ _ _,fun _ _=> .nil⟩ [2,1,0,3,4] ?_
 rintro⟨k,vO,LO,es,Z⟩ hI K1 bO rest
 dsimp only at hI
 refine zD 5<|zJ 11 ((k:Int) <(ws.length:Int)) (fun h1=>?_) fun h1=>?_
 ·
  refine zD 6 ?_
  obtain⟨tU,qJ⟩:=zG ws k
  refine iz dB 1 sD qJ ?_
  obtain⟨l13,aGA,Cn⟩:=dq.get qJ
  obtain aGn:=hO.len _ (zL aGA)
  obtain⟨aDX,aNP,aNL,aDW,rfl,aNN,aNO,aNM⟩:=Cn
  refine jl 0 (sC _ _ qJ)<|jd 6 [0]<|aQ 3 fun y4 ze wZ=>jc (vs:=[.slice aDX l13.length aDW]) [] (aS8 (show bD _ _ _ _ _ from ⟨aDX,aNP,aNL,aDW,rfl,aNN,aNO,aNM⟩) (by first|omega| (simp only[List.length_set,zM];omega))) ?_
  rintro v17 L17 Dg
  obtain⟨yo,yn,Ku⟩:=Dg.form
  subst Ku
  refine eo wZ (zN 1 5)<|aQ 4 fun qp qv oV=>jn fun AB=>eo oV (zN 1 6)<|aQ 5 fun sq su qR=>iC (sz:=1) (ps:=es) (qs:=[((.slice yo (l13).length yn):Value)]) (enc:=gz) (w:= .slice (some ⟨AB,0,none⟩) 1 1) [3] [0] [(AB,.cells ⟨([((.slice yo (l13).length yn):Value)].map gz).flatten⟩ 80 (0,0))] (hI.2.1) (fun s _ hZ=>bL [((.slice yo (l13).length yn):Value)] (hZ _ (.head _)) (by intro p hp;rfl)) (by intro p hp;rw[List.mem_singleton] at hp;subst hp;exact ai rfl) (by simp<;>omega) (fun v19 L19 ahY=>?_)
  obtain⟨aL7,aLO,aRg⟩:=ahY.form
  subst aRg
  refine fJ qR []<|zD 1<|aQ 7 fun AZ A9 BK=>jd 1 [3]<|fp BK<|zD 2<|ja ((k:Int)+1) (by omega)<|zD 2<|Ki bO (⟨k+1,(.slice aL7 ((es++[((.slice yo (l13).length yn):Value)])).length aLO),L19,(es++[((.slice yo (l13).length yn):Value)]),L17++Z⟩) ⟨⟨by dsimp only;omega,by simp only[zM];omega⟩,ahY,fun aJ hk=>qo (hI.2.2 aJ hk.right) aGA (Dg.jL hk.left)⟩ (by dsimp only;omega) [[3],[0],[2,4],[5],[6]] (Sub.refl _)
 refine jd 5 [0] ?_
 obtain⟨va6,vc6,he6⟩:=hI.2.1.form
 subst he6
 refine jd 3 [3]<|zR (.agg ⟨[(.slice va6 (es).length vc6)]⟩) [3] [1,2] (LO++Z) ⟨_,_,_,rfl,fun aJ hk=>⟨es,hI.2.1.jL hk.left,by have:=hI.2.2 aJ hk.right;rwa[List.take_of_length_le (by omega)] at this⟩⟩
theorem Z5{v:Value}{S:List (List aj)}(hS:da ro v S)(hO:eS S):eg zT 171 [.agg ⟨[v]⟩] ro [] (fun r Y=>ay r 3 158 cN (bM S) Y):=by
 obtain⟨ws,ht,dq⟩:=hS
 obtain⟨dX,AK,AI,dB,rfl,AJ,sD,sC⟩:=ht
 have hln:=dq.len
 have Ko:=hO.two
 refine zE<|zD 2<|jn fun b1=>jd 15 [0]<|nY<|dV [1,1,0,1,0,0] [] (fun(zz:Nat×Value×Cells)=>[(2,zS),(3,zz.2.1),(9,.slice dX ws.length dB),(10,zI (ws.length:Int)),(11,zI (zz.1:Int))]) (fun zz=>[.l zz.2.2,.b b1 (.cells ⟨[.slice dX ws.length dB]⟩ 27 (0,0))]) (fun zz=>zz.1≤ws.length∧ay zz.2.1 3 158 cN (So S zz.1) zz.2.2) (fun zz=>ws.length-zz.1) (⟨0,zS,[]⟩) ⟨by dsimp only;omega,ay.nil _ _ _⟩ [0,1] ?_
 rintro⟨k,vO,LO⟩ hI K1 bO rest
 dsimp only at hI
 refine zD 5<|zJ 12 ((k:Int) <(ws.length:Int)) (fun h1=>?_) fun h1=>?_
 ·
  refine zD 7 ?_
  obtain⟨fL,eH⟩:=zG ws k
  refine iz dB 1 sD eH ?_
  obtain⟨R9,acg,Ft⟩:=dq.get eH
  obtain aQA:=hO.len _ (zL acg)
  obtain⟨auS,aNK,aNI,afy,rfl,aNJ,auR,auQ⟩:=Ft
  refine jl 0 (sC _ _ eH)<|zD 10<|dV [1,1,0,1,0,0,1,1,0,0,1,1,0,0] [K1] (fun(zz:Nat×Value×Cells)=>[(2,zS),(3,zz.2.1),(4,zI (k:Int)),(9,.slice dX ws.length dB),(10,zI (ws.length:Int)),(11,zI (k:Int)),(16,.slice auS R9.length afy),(17,zI (R9.length:Int)),(18,zI (zz.1:Int))]) (fun zz=>[.l zz.2.2,.b b1 (.cells ⟨[.slice dX ws.length dB]⟩ 27 (0,0))]) (fun zz=>zz.1≤R9.length∧ay zz.2.1 3 158 cN (So S k++(R9.take zz.1).map (mQ k)) zz.2.2) (fun zz=>R9.length-zz.1) (⟨0,vO,LO⟩) ⟨by dsimp only;omega,by simpa using hI.2⟩ [0,1] ?_
  rintro⟨i,vO,LO⟩ hJ K2 mr rest
  dsimp only at hJ
  refine zD 5<|zJ 19 ((i:Int) <(R9.length:Int)) (fun h2=>?_) fun h2=>?_
  ·
   refine zD 6 ?_
   obtain⟨x20,ON⟩:=zG R9 i
   refine iz afy 2 auR ON<|jl 0 (auQ _ _ ON)<|jn fun b7=>jd 7 [0,0]<|jn fun b26=>iC (sz:=3) (ps:=(So S k++(R9.take i).map (mQ k))) (qs:=[(⟨(k:Int),x20.n,x20.l⟩:ar)]) (enc:=cN) (w:= .slice (some ⟨b26,0,none⟩) 1 1) [2] [0] [(b26,.cells ⟨([(⟨(k:Int),x20.n,x20.l⟩:ar)].map cN).flatten⟩ 158 (0,0))] (hJ.2) (fun s _ hZ=>bL [(⟨(k:Int),x20.n,x20.l⟩:ar)] (hZ _ (.head _)) (by intro p hp;rfl)) (fun p _=>ai rfl) (by have:=OP hO k;simp only[List.length_append,List.length_map,List.length_take,List.length_cons,List.length_nil];omega) (fun v27 L27 ahW=>?_)
   obtain⟨aL4,aLL,aRe⟩:=ahW.form
   subst aRe
   refine zD 3<|ja ((i:Int)+1) (by omega)<|zD 2<|bA mr (⟨i+1,(.slice aL4 (((So S k++(R9.take i).map (mQ k))++[(⟨(k:Int),x20.n,x20.l⟩:ar)])).length aLL),L27⟩) ⟨by dsimp only;omega,by rw[eA ON,List.map_append,←List.append_assoc];exact ahW⟩ (by dsimp only;omega) [0,3] (Sub.refl _)
  refine zD 3<|ja ((k:Int)+1) (by omega)<|zD 2<|bA bO (⟨k+1,vO,LO⟩) ⟨by dsimp only;omega,by rw[awt acg];have:=hJ.2;rwa[List.take_of_length_le (by omega)] at this⟩ (by dsimp only;omega) [0,1] (Sub.refl _)
 refine zD 8<|zR (vO) [] [0] LO (by have:=hI.2;rwa[show k=S.length by omega] at this)
theorem Uz{l:List α}{x:α}(hn:l.Nodup)(h:l[k]?=some x):x∉l.take k:=fun hx=>by
 obtain⟨hk,he⟩:=List.getElem?_eq_some_iff.1 h
 obtain⟨i,hi⟩:=List.getElem?_of_mem hx
 have hik:i <k:=by have:=(List.getElem?_eq_some_iff.1 hi).1;rw[List.length_take] at this;omega
 rw[List.getElem?_take_of_lt hik] at hi
 obtain⟨hi1,SE⟩:=List.getElem?_eq_some_iff.1 hi
 have:=(List.getElem_inj (h₀:=hi1) (h₁:=hk) hn).1 (SE.trans he.symm)
 omega
def yw(n:Int):Bool:= !decide (Int.tmod n 2=0)
def Fv(n:Int):Bool:=decide (Int.tmod n 2=0)
theorem rY{p:α→Bool}{l:List α}{x:α}(h:l[i]?=some x):(l.take (i+1)).filter p=(l.take i).filter p++bif p x then [x] else []:=by
 rw[eA h,List.filter_append]
 cases hp:p x<;>simp[hp]
def rS(l:List aj):List (List aj):=[l.filter fun x=>yw x.n,l.filter fun x=>Fv x.n]
theorem aiP{l h:List aj}{x:aj}(hh:h∈rS l)(hx:x∈h):x∈l:=by
 simp only[rS,List.mem_cons,List.not_mem_nil,or_false] at hh
 rcases hh with rfl|rfl<;>exact(List.mem_filter.1 hx).1
theorem aiQ{l h:List aj}(hh:h∈rS l):h.length≤l.length:=by
 simp only[rS,List.mem_cons,List.not_mem_nil,or_false] at hh
 rcases hh with rfl|rfl<;>exact List.length_filter_le _ _
def J6(s:Int)(h:List aj):List (ar×ar):=(h.zip h.reverse).map fun p=>(mQ s p.1,mQ s p.2)
def aes(s:Int)(l:List aj):List (ar×ar):=(rS l).flatMap (J6 s)
def Lg(s:Int)(l:List aj):List (ar×ar):=l.map fun x=>(mQ s x,⟨s,if yw x.n=true then x.n+1 else x.n-1,x.l⟩)
def sB(l:List aj):Int:=match l[l.length-1]? with
 |some y=>y.n+Int.tmod y.n 2
 |none=>0
def MD(s o:Int)(l:List aj)(r:Int):List (ar×ar):=l.map fun x=>(mQ s x,⟨o,x.n+r,x.l⟩)
def gU(u:List (ar×ar))(x:ar):ar:=u.foldl (fun y p=>if x=p.1 then p.2 else y) x
theorem apx(u:List (ar×ar))(a b:ar):gU (u++[(a,b)])=fun x=>if x=a then b else gU u x:=by
 funext x;simp only[gU,List.foldl_append,List.foldl_cons,List.foldl_nil]
theorem am5{s:Int}{h:List aj}{x y:aj}(hx:h[i]?=some x) (hy:h[(((h.length:Int)-1)-(i:Int)).toNat]?=some y):(J6 s h)[i]?=some (mQ s x,mQ s y):=by
 have hi:=(List.getElem?_eq_some_iff.1 hx).1
 have h2:h.reverse[i]?=some y:=by rw[List.getElem?_reverse hi,←hy];congr 1;omega
 have:=(List.getElem?_zip_eq_some (z:=(x,y))).2 ⟨hx,h2⟩
 simp only[J6,List.getElem?_map,this];rfl
theorem ae8(s:Int)(h:List aj):(J6 s h).length=h.length:=by simp[J6]
theorem agt{f:α→β}{l:List α}{x:α}(h:l[i]?=some x):(l.map f)[i]?=some (f x):=by rw[List.getElem?_map,h];rfl
theorem apE{f:α→List β}{l:List α}{x:α}(h:l[i]?=some x):(l.take (i+1)).flatMap f=(l.take i).flatMap f++f x:=by rw[eA h,List.flatMap_append,List.flatMap_singleton]
theorem MV.upd{S:List (List aj)}(hO:eS S){F:List (ar×Value)}{u:List (ar×ar)}{l:List aj}{x:aj}{y:ar}{T:TypeId}(h:MV Z F (gU u))(hk:F.map (·.1)=bM S)(hl:S[s]?=some l) (hx:x∈l):
 MV (Z++[(b,.cells ⟨cN y⟩ T (0,0))]) (mA (mQ s x) (.slice (some ⟨b,0,none⟩) 1 1) F) (gU (u++[(mQ s x,y)]))∧(mA (mQ s x) (.slice (some ⟨b,0,none⟩) 1 1) F).map (·.1)=bM S:=by
 have hm:mQ s x∈F.map (·.1):=by rw[hk];exact H5 hl hx
 have hn:(F.map (·.1)).Nodup:=by rw[hk];exact VJ hO _
 rw[apx]
 exact⟨h.set hm hn fun aJ hk=>bK [y] (hk _ (.head _)) (fun _ _=>rfl),(Qy hm hn).1.trans hk⟩
theorem QS{S:List (List aj)}(hO:eS S){F:List (ar×Value)}{x:ar}{T:TypeId}(h:MV Z F id)(hk:F.map (·.1)=(bM S).take k)(hx:(bM S)[k]?=some x):
 MV (Z++[(b,.cells ⟨cN x⟩ T (0,0))]) (mA x (.slice (some ⟨b,0,none⟩) 1 1) F) id∧(mA x (.slice (some ⟨b,0,none⟩) 1 1) F).map (·.1)=(bM S).take (k+1):=by
 have:x∉F.map (·.1):=by rw[hk];exact Uz (VJ hO _) hx
 rw[aer this]
 exact⟨h.add fun aJ hk=>bK [x] (hk _ (.head _)) (fun _ _=>rfl),by rw[List.map_append,hk,eA hx];rfl⟩
theorem MW{v:Value}{S:List (List aj)}(hS:da ro v S)(hO:eS S):eg zT 181 [.agg ⟨[v]⟩] ro [] (fun r Y=>∃rm F LM Z,r= .map (some rm)∧Y=LM++Z∧j5 rm pG F LM∧F.map (·.1)=bM S∧MV Z F id):=by
 have yO:=hS
 obtain⟨ws,ht,dq⟩:=hS
 obtain⟨dX,AK,AI,dB,rfl,AJ,sD,sC⟩:=ht
 have hln:=dq.len
 have Ko:=hO.two
 have hhl:=uL hO
 refine zE<|zD 2<|jn fun b1=>zD 4<|jmk pG fun r6 L6 hm6=>jd 6 [1]<|jc (vs:=[.agg ⟨[.slice dX ws.length dB]⟩]) [] (Z5 yO hO) ?_
 rintro v8 L8 ho8
 refine yJ ho8<|zD 1<|jf [0] L8 (fun zo bH iQ=>?_)
 have hzh:=ho8.jL iQ
 obtain⟨aMY,aYN,aYL,aC8,rfl,aYM,aMX,aMW⟩:=hzh
 refine zD 2<|nY<|dV [1,1,0,1,0,0] [] (fun(zz:Nat×(List (ar×Value))×Cells×Cells)=>[(2,(.map none)),(3,(.map (some r6))),(8,.slice aMY ((bM S).length) aC8),(9,zI ((bM S).length:Int)),(10,zI (zz.1:Int))]) (fun(zz:Nat×(List (ar×Value))×Cells×Cells)=>[.l zz.2.2.1,.l zz.2.2.2,.b b1 (.cells ⟨[.slice dX ws.length dB]⟩ 27 (0,0))]) (fun(zz:Nat×(List (ar×Value))×Cells×Cells)=>zz.1≤(bM S).length∧j5 r6 pG zz.2.1 zz.2.2.1∧zz.2.1.map (·.1)=(bM S).take zz.1∧MV zz.2.2.2 zz.2.1 id) (fun(zz:Nat×(List (ar×Value))×Cells×Cells)=>(bM S).length-zz.1) (⟨0,[],L6,[]⟩) ⟨by dsimp only;omega,hm6,rfl,fun _ _ _ h=>(by cases h)⟩ [1,0,2] ?_
 rintro⟨k,F,LM,Z⟩ hI K1 bO rest
 dsimp only at hI
 refine zD 5<|zJ 11 ((k:Int) <((bM S).length:Int)) (fun h4=>?_) fun h4=>?_
 ·
  refine zD 6 ?_
  obtain⟨tU,qJ⟩:=zG ((bM S)) k
  refine iz aC8 3 aMX qJ<|jl 0 (aMW _ _ qJ)<|jn fun b5=>jd 6 [0,0,0]<|jn fun b17=>jmu (kv:=pG) (F:=F) (r:=r6) (K:=158) 2 tU (.slice (some ⟨b17,0,none⟩) 1 1) Ex hI.2.1 fun Lm5 hm5=>zD 2<|ja ((k:Int)+1) (by omega)<|zD 2<|Ki bO (⟨k+1,_,Lm5,Z++[(b17,.cells ⟨[zI tU.h,zI tU.n,zI tU.l]⟩ 158 (0,0))]⟩) ⟨by dsimp only;omega,hm5,(QS (T:=158) hO hI.2.2.2 hI.2.2.1 qJ).2,(QS (T:=158) hO hI.2.2.2 hI.2.2.1 qJ).1⟩ (by dsimp only;omega) [[0],[3,1],[4]] (Sub.refl _)
 refine zD 8<|aO q0.a ((.map (some r6))) [] [0,1] (LM++Z) bH ⟨_,_,rfl,rfl,_,F,LM,Z,rfl,rfl,hI.2.1,by rw[hI.2.2.1,List.take_of_length_le (by omega)],hI.2.2.2⟩
theorem gAt{h l:Int}:dK zT 254 [zI h,zI n,zI l] ro (.agg ⟨[zI h,zI n,zI l]⟩):=by
 refine zE<|zD 2<|jn fun b6=>jd 11 [0]<|zR (.agg ⟨[zI h,zI n,zI l]⟩) [0] [] [] ⟨rfl,rfl⟩
theorem aHK{x:aj}:dK zT 252 [.agg ⟨[zI x.n,zI x.l]⟩] ro (.bool (yw x.n)):=by
 refine zE<|zD 2<|jn fun b1=>jd 11 [0]<|zX (.bool (!decide ((Int.tmod x.n 2)=0))) ⟨rfl,rfl⟩
theorem ajS{v:Value}{l:List aj}(hl:bD ro v 2 cM l)(hn:l.length≤4):eg zT 251 [v,.func (.func 252) ⟨[]⟩ ⟨[]⟩] ro [] (fun r Y=>ay r 2 79 cM (l.filter fun x=>yw x.n) Y):=by
 obtain⟨fC,sG,sE,eO,rfl,ui,lP,mP⟩:=hl
 refine zE<|zD 16<|nY<|dV [1,1,0,1,0,0] [] (fun(zz:Nat×Value×Cells)=>[(1,.func (.func 252) ⟨[]⟩ ⟨[]⟩),(4,zS),(5,zz.2.1),(8,.slice fC l.length eO),(9,zI (l.length:Int)),(10,zI (zz.1:Int))]) (fun zz=>[.l zz.2.2]) (fun zz=>zz.1≤l.length∧ay zz.2.1 2 79 cM ((l.take zz.1).filter fun x=>yw x.n) zz.2.2) (fun zz=>l.length-zz.1) (⟨0,zS,[]⟩) ⟨by dsimp only;omega,ay.nil _ _ _⟩ [0] ?_
 rintro⟨k,vO,LO⟩ hI K1 bO rest
 dsimp only at hI
 refine zD 5<|zJ 11 ((k:Int) <(l.length:Int)) (fun h1=>?_) fun h1=>?_
 ·
  refine zD 6 ?_
  obtain⟨tU,qJ⟩:=zG l k
  refine iz eO 2 lP qJ<|jl 0 (mP _ _ qJ)<|jn fun b7=>jd 6 [0,0]<|jp (vs:=[.agg ⟨[zI tU.n,zI tU.l]⟩]) [] [] (fun aH hs hZ=>(aHK (x:=tU)))<|zD 1<|js 16 (yw tU.n) (fun h2=>?_) (fun h2=>?_)
  ·
   refine jd 4 [0]<|jn fun Jm=>iC (sz:=2) (ps:=((l.take k).filter fun x=>yw x.n)) (qs:=[(⟨tU.n,tU.l⟩:aj)]) (enc:=cM) (w:= .slice (some ⟨Jm,0,none⟩) 1 1) [2] [0] [(Jm,.cells ⟨([(⟨tU.n,tU.l⟩:aj)].map cM).flatten⟩ 79 (0,0))] (hI.2) (fun s _ hZ=>bL [(⟨tU.n,tU.l⟩:aj)] (hZ _ (.head _)) (by intro p hp;rfl)) (fun p _=>ai rfl) (by have:=List.length_filter_le (fun x:aj=>yw x.n) (l.take k);rw[List.length_take] at this;simp only[List.length_cons,List.length_nil];omega) (fun v20 L20 H3=>?_)
   obtain⟨atF,atq,axN⟩:=H3.form
   subst axN
   refine zD 3<|ja ((k:Int)+1) (by omega)<|zD 2<|bA bO (⟨k+1,(.slice atF ((((l.take k).filter fun x=>yw x.n)++[(⟨tU.n,tU.l⟩:aj)])).length atq),L20⟩) ⟨by dsimp only;omega,by rw[rY qJ,show yw tU.n=true from (by assumption)];exact H3⟩ (by dsimp only;omega) [0] (Sub.refl _)
  refine zD 3<|ja ((k:Int)+1) (by omega)<|zD 2<|bA bO (⟨k+1,vO,LO⟩) ⟨by dsimp only;omega,by rw[rY qJ,show yw tU.n=false from (by assumption)];simpa using hI.2⟩ (by dsimp only;omega) [1] (Sub.refl _)
 refine zD 8<|zR (vO) [] [0] LO (by have:=hI.2;rwa[List.take_of_length_le (by omega)] at this)
theorem aHR{x:aj}:dK zT 253 [.agg ⟨[zI x.n,zI x.l]⟩] ro (.bool (Fv x.n)):=by
 refine zE<|zD 2<|jn fun b1=>jd 11 [0]<|zX (.bool (decide ((Int.tmod x.n 2)=0))) ⟨rfl,rfl⟩
theorem ajR{v:Value}{l:List aj}(hl:bD ro v 2 cM l)(hn:l.length≤4):eg zT 251 [v,.func (.func 253) ⟨[]⟩ ⟨[]⟩] ro [] (fun r Y=>ay r 2 79 cM (l.filter fun x=>Fv x.n) Y):=by
 obtain⟨fC,sG,sE,eO,rfl,ui,lP,mP⟩:=hl
 refine zE<|zD 16<|nY<|dV [1,1,0,1,0,0] [] (fun(zz:Nat×Value×Cells)=>[(1,.func (.func 253) ⟨[]⟩ ⟨[]⟩),(4,zS),(5,zz.2.1),(8,.slice fC l.length eO),(9,zI (l.length:Int)),(10,zI (zz.1:Int))]) (fun zz=>[.l zz.2.2]) (fun zz=>zz.1≤l.length∧ay zz.2.1 2 79 cM ((l.take zz.1).filter fun x=>Fv x.n) zz.2.2) (fun zz=>l.length-zz.1) (⟨0,zS,[]⟩) ⟨by dsimp only;omega,ay.nil _ _ _⟩ [0] ?_
 rintro⟨k,vO,LO⟩ hI K1 bO rest
 dsimp only at hI
 refine zD 5<|zJ 11 ((k:Int) <(l.length:Int)) (fun h1=>?_) fun h1=>?_
 ·
  refine zD 6 ?_
  obtain⟨tU,qJ⟩:=zG l k
  refine iz eO 2 lP qJ<|jl 0 (mP _ _ qJ)<|jn fun b7=>jd 6 [0,0]<|jp (vs:=[.agg ⟨[zI tU.n,zI tU.l]⟩]) [] [] (fun aH hs hZ=>(aHR (x:=tU)))<|zD 1<|js 16 (Fv tU.n) (fun h2=>?_) (fun h2=>?_)
  ·
   refine jd 4 [0]<|jn fun Jm=>iC (sz:=2) (ps:=((l.take k).filter fun x=>Fv x.n)) (qs:=[(⟨tU.n,tU.l⟩:aj)]) (enc:=cM) (w:= .slice (some ⟨Jm,0,none⟩) 1 1) [2] [0] [(Jm,.cells ⟨([(⟨tU.n,tU.l⟩:aj)].map cM).flatten⟩ 79 (0,0))] (hI.2) (fun s _ hZ=>bL [(⟨tU.n,tU.l⟩:aj)] (hZ _ (.head _)) (by intro p hp;rfl)) (fun p _=>ai rfl) (by have:=List.length_filter_le (fun x:aj=>Fv x.n) (l.take k);rw[List.length_take] at this;simp only[List.length_cons,List.length_nil];omega) (fun v20 L20 H3=>?_)
   obtain⟨atF,atq,axN⟩:=H3.form
   subst axN
   refine zD 3<|ja ((k:Int)+1) (by omega)<|zD 2<|bA bO (⟨k+1,(.slice atF ((((l.take k).filter fun x=>Fv x.n)++[(⟨tU.n,tU.l⟩:aj)])).length atq),L20⟩) ⟨by dsimp only;omega,by rw[rY qJ,show Fv tU.n=true from (by assumption)];exact H3⟩ (by dsimp only;omega) [0] (Sub.refl _)
  refine zD 3<|ja ((k:Int)+1) (by omega)<|zD 2<|bA bO (⟨k+1,vO,LO⟩) ⟨by dsimp only;omega,by rw[rY qJ,show Fv tU.n=false from (by assumption)];simpa using hI.2⟩ (by dsimp only;omega) [1] (Sub.refl _)
 refine zD 8<|zR (vO) [] [0] LO (by have:=hI.2;rwa[List.take_of_length_le (by omega)] at this)
theorem Z0{v:Value}{S:List (List aj)}{l:List aj}{ck c2 c3 c4:Int}{F:List (ar×Value)}(hS:da ro v S)(hO:eS S)(hl:S[s]?=some l) (hm:j5 rm pG F LM) (hk:F.map (·.1)=bM S) (hM:MV Z F id):eg zT 230 [.agg ⟨[v]⟩,.agg ⟨[zI ck,zI (s:Int),zI c2,zI c3,zI c4,zI c5,zI c6]⟩,(.map (some rm))] ro (LM++Z) (fun r Y=>∃F' L' Z',r= zI 0∧Y=L'++Z'∧j5 rm pG F' L'∧F'.map (·.1)=bM S∧MV Z' F' (gU (aes (s:Int) l))):=by
 obtain⟨ws,ht,dq⟩:=hS
 obtain⟨dX,AK,AI,dB,rfl,AJ,sD,sC⟩:=ht
 have hln:=dq.len
 have Ko:=hO.two
 have MI:=(List.getElem?_eq_some_iff.1 hl).1
 have hlm:=zL hl
 have hll:=hO.len _ hlm
 refine zC [.l LM,.l Z]<|zD 2<|jn fun b3=>jn fun b4=>zD 4<|yK [1,0,1] [] (fun(zz:Nat×Value×Value×Cells×Cells)=>[(2,(.map (some rm))),(4,zP b4),(6,zI 0),(25,.slice (some ⟨zz.1,0,none⟩) 2 2),(26,zI 2),(27,zI 0)]) (fun zz=>[.b zz.1 (.cells ⟨[zz.2.1,zz.2.2.1]⟩ 80 (0,0)),.l zz.2.2.2.1,.l zz.2.2.2.2,.l LM,.l Z,.b b4 (.cells ⟨[zI ck,zI (s:Int),zI c2,zI c3,zI c4,zI c5,zI c6]⟩ 83 (0,0)),.b b3 (.cells ⟨[.slice dX ws.length dB]⟩ 27 (0,0))]) (fun zz=>ay zz.2.1 2 79 cM (l.filter fun x=>yw x.n) zz.2.2.2.1∧ay zz.2.2.1 2 79 cM (l.filter fun x=>Fv x.n) zz.2.2.2.2) ?_ (fun K1 bO=>?_)
 ·
  rintro⟨j8,v1,v2,L1,L2⟩ hC rest
  dsimp only at hC
  refine jf [0,1,2] ((j8,.cells ⟨[v1,v2]⟩ 80 (0,0))::(L1++L2)) (fun zo bH iQ=>?_)
  have hhv:=bK (enc:=gz) (T:=80) [v1,v2] (iQ _ (.head _)) (fun _ _=>rfl)
  have aGI:dA (fun w l=>bD zo w 2 cM l) [v1,v2] (rS l):= .cons (hC.1.jL (Knows.left (Knows.tail iQ))) (.cons (hC.2.jL (Knows.right (Knows.tail iQ))) .nil)
  have hvl: [v1,v2].length=2:=rfl
  obtain⟨qga,qgb,qgo,qgc,SF,qgk,qgh,qgl⟩:=hhv
  simp only[Value.slice.injEq] at SF
  obtain⟨rfl,_,rfl⟩:=SF
  refine zD 1<|dV [1,0,1,0,0] [] (fun(zz:Nat×(List (ar×Value))×Cells×Cells)=>[(2,(.map (some rm))),(4,zP b4),(6,zI 0),(25,.slice (some ⟨j8,0,none⟩) 2 2),(26,zI 2),(27,zI (zz.1:Int))]) (fun(zz:Nat×(List (ar×Value))×Cells×Cells)=>[.l zz.2.2.1,.l zz.2.2.2,.b b4 (.cells ⟨[zI ck,zI (s:Int),zI c2,zI c3,zI c4,zI c5,zI c6]⟩ 83 (0,0)),.b b3 (.cells ⟨[.slice dX ws.length dB]⟩ 27 (0,0))]) (fun(zz:Nat×(List (ar×Value))×Cells×Cells)=>zz.1≤2∧j5 rm pG zz.2.1 zz.2.2.1∧zz.2.1.map (·.1)=bM S∧MV zz.2.2.2 zz.2.1 (gU (((rS l).take zz.1).flatMap (J6 (s:Int))))) (fun(zz:Nat×(List (ar×Value))×Cells×Cells)=>2-zz.1) (⟨0,F,LM,Z⟩) ⟨by dsimp only;omega,hm,hk,hM⟩ (zN 0 4) ?_
  rintro⟨k,F,LM,Z⟩ hI K2 mr rest
  dsimp only at hI
  refine zD 5<|zJ 28 ((k:Int) <2) (fun h4=>?_) fun h4=>?_
  ·
   refine zD 6 ?_
   obtain⟨EW,Bw⟩:=zG ([v1,v2]) k
   refine iz 2 1 qgh Bw ?_
   obtain⟨Vw,aw6,ZW⟩:=aGI.get Bw
   obtain aGk:Vw.length≤4:=by have:=aiQ (zL aw6);omega
   obtain⟨aDE,aZh,aZf,ann,rfl,aZg,aDD,aDC⟩:=ZW
   refine jl 0 (qgl _ _ Bw)<|zD 9<|dV [1,0,1,0,0,1,1,0,0,1,1,0,0] [K2] (fun(zz:Nat×(List (ar×Value))×Cells×Cells)=>[(2,(.map (some rm))),(4,zP b4),(6,zI 0),(8,.slice aDE Vw.length ann),(25,.slice (some ⟨j8,0,none⟩) 2 2),(26,zI 2),(27,zI (k:Int)),(31,.slice aDE Vw.length ann),(32,zI (Vw.length:Int)),(33,zI (zz.1:Int))]) (fun(zz:Nat×(List (ar×Value))×Cells×Cells)=>[.l zz.2.2.1,.l zz.2.2.2,.b b4 (.cells ⟨[zI ck,zI (s:Int),zI c2,zI c3,zI c4,zI c5,zI c6]⟩ 83 (0,0)),.b b3 (.cells ⟨[.slice dX ws.length dB]⟩ 27 (0,0))]) (fun(zz:Nat×(List (ar×Value))×Cells×Cells)=>zz.1≤Vw.length∧j5 rm pG zz.2.1 zz.2.2.1∧zz.2.1.map (·.1)=bM S∧MV zz.2.2.2 zz.2.1 (gU (((rS l).take k).flatMap (J6 (s:Int))++(J6 (s:Int) Vw).take zz.1))) (fun(zz:Nat×(List (ar×Value))×Cells×Cells)=>Vw.length-zz.1) (⟨0,F,LM,Z⟩) ⟨by dsimp only;omega,hI.2.1,hI.2.2.1,by simpa using hI.2.2.2⟩ (zN 0 4) ?_
   rintro⟨i,F,LM,Z⟩ hJ K3 hK3 rest
   dsimp only at hJ
   refine zD 5<|zJ 34 ((i:Int) <(Vw.length:Int)) (fun h5=>?_) fun h5=>?_
   ·
    refine zD 7 ?_
    obtain⟨x36,Ab⟩:=zG Vw i
    refine iz ann 2 aDD Ab<|jl 0 (aDC _ _ Ab)<|jn fun lL=>jd 14 [0,3,0,3]<|ja ((Vw.length:Int)-1) (by omega)<|zD 1<|ja (((Vw.length:Int)-1)-(i:Int)) (by omega) ?_
    obtain⟨x51,Fb⟩:=zG Vw (((((Vw.length:Int)-1)-(i:Int))).toNat)
    refine P6 (((Vw.length:Int)-1)-(i:Int)) ann 2 aDD Fb (by omega)<|jl 0 (aDC _ _ Fb)<|zD 1<|aQ 16 fun sq su qR=>jn fun b54=>eo qR (zN 1 5)<|aQ 17 fun AZ A9 BK=>jmu (kv:=pG) (F:=F) (r:=rm) (K:=158) 2 (mQ (s:Int) x36) (.slice (some ⟨b54,0,none⟩) 1 1) Ex hJ.2.1 fun Lm8 hm8=>fp BK<|zD 2<|ja ((i:Int)+1) (by omega)<|zD 2 ?_
    have hup:=MV.upd (T:=158) (b:=b54) (y:=mQ s x51) hO hJ.2.2.2 hJ.2.2.1 hl (aiP (zL aw6) (zL Ab))
    exact Ki hK3 (⟨i+1,_,Lm8,Z++[(b54,.cells ⟨[zI (s:Int),zI x51.n,zI x51.l]⟩ 158 (0,0))]⟩) ⟨by dsimp only;omega,hm8,hup.2,by rw[eA (am5 Ab Fb),←List.append_assoc];exact hup.1⟩ (by dsimp only;omega) [[0],[3,1],[4],[5]] (Sub.refl _)
   refine zD 3<|ja ((k:Int)+1) (by omega)<|zD 2<|bA mr (⟨k+1,F,LM,Z⟩) ⟨by dsimp only;omega,hJ.2.1,hJ.2.2.1,by have:=hJ.2.2.2;rw[List.take_of_length_le (l:=J6 (s:Int) Vw) (by rw[ae8];omega)] at this;rw[apE aw6];exact this⟩ (by dsimp only;omega) (zN 0 4) (Sub.refl _)
  refine zD 7<|aO q0.a (zI 0) [] [0,1] (LM++Z) bH ⟨_,_,rfl,rfl,F,LM,Z,rfl,rfl,hI.2.1,hI.2.2.1,by have:=hI.2.2.2;rwa[show k=2 by omega] at this⟩
 refine jd 5 [1,0] ?_
 obtain⟨A1,ahr⟩:=zG ws s
 refine iz dB 1 sD ahr ?_
 obtain⟨l16,aGz,WN⟩:=dq.get ahr
 obtain bbk:=hO.len _ (zL aGz)
 obtain aiA:l16=l:=Option.some.inj (aGz.symm.trans hl)
 obtain⟨aDV,aNH,aND,aDU,rfl,aNF,aNG,aNE⟩:=WN
 refine jl 0 (sC _ _ ahr)<|jd 4 [1,0] ?_
 obtain⟨sU,uF⟩:=zG ws s
 refine iz dB 1 sD uF ?_
 obtain⟨l23,aGy,vN⟩:=dq.get uF
 obtain bbh:=hO.len _ (zL aGy)
 obtain axM:l23=l:=Option.some.inj (aGy.symm.trans hl)
 obtain⟨aDL,aNq,aNm,aDK,rfl,aNo,aNp,aNn⟩:=vN
 refine jl 0 (sC _ _ uF)<|zD 1<|aQ 6 fun aaM aaY Wm=>jc (vs:=[.slice aDV l16.length aDU,.func (.func 252) ⟨[]⟩ ⟨[]⟩]) [] (ajS (show bD _ _ _ _ _ from ⟨aDV,aNH,aND,aDU,rfl,aNF,aNG,aNE⟩) (by omega)) ?_
 rintro v17 L17 Dg
 obtain⟨yo,yn,ao3⟩:=Dg.form
 subst ao3
 refine eo Wm (zN 1 4)<|aQ 13 fun amy amR Wl=>jc (vs:=[.slice aDL l23.length aDK,.func (.func 253) ⟨[]⟩ ⟨[]⟩]) [] (ajR (show bD _ _ _ _ _ from ⟨aDL,aNq,aNm,aDK,rfl,aNo,aNp,aNn⟩) (by omega)) ?_
 rintro v24 L24 aF3
 obtain⟨aek,aea,aQZ⟩:=aF3.form
 subst aQZ
 refine eo Wl (zN 1 5)<|aQ 14 fun aaL aaX hL8=>jn fun j8=>eo hL8 (zN 1 6)<|zD 2<|bA bO ⟨j8,(.slice yo (l16.filter fun x=>yw x.n).length yn),(.slice aek (l23.filter fun x=>Fv x.n).length aea),L17,L24⟩ ⟨by rw[←aiA];exact Dg,by rw[←axM];exact aF3⟩ Nat.zero_lt_one [0,2,1,5,6,3,4] (Sub.refl _)
theorem Yk{s:Int}{l:List aj}{x:aj}(h:l[i]?=some x):(Lg s l)[i]?=some (mQ s x,⟨s,if yw x.n=true then x.n+1 else x.n-1,x.l⟩):=agt h
theorem aos{s o r:Int}{l:List aj}{x:aj}(h:l[i]?=some x):(MD s o l r)[i]?=some (mQ s x,⟨o,x.n+r,x.l⟩):=agt h
theorem raise_at{l:List aj}{x:aj}(h:l[(((l.length:Int)-1)).toNat]?=some x):sB l=x.n+Int.tmod x.n 2:=by
 have:l[l.length-1]?=some x:=by rw[←h];congr 1;omega
 simp only[sB,this]
theorem abm{l:List aj}(h:¬(l.length:Int)>0):sB l=0:=by
 have:l=[]:=List.eq_nil_of_length_eq_zero (by omega)
 subst this;rfl
theorem tm2(h:1≤n∧n≤9):0≤Int.tmod n 2∧Int.tmod n 2≤1:=by
 rw[Int.tmod_eq_emod_of_nonneg (by omega)]
 omega
theorem afm{l:List aj}(h:∀x∈l,Cd x):0≤sB l∧sB l≤10:=by
 unfold sB
 split
 ·rename_i y hy
  have h1:=(h y (zL hy)).1
  have:=tm2 h1
  omega
 omega
theorem S5{v:Value}{S:List (List aj)}{l:List aj}{ck c2 c3 c4:Int}{F:List (ar×Value)}(hS:da ro v S)(hO:eS S)(hl:S[s]?=some l) (hm:j5 rm pG F LM) (hk:F.map (·.1)=bM S) (hM:MV Z F id):eg zT 231 [.agg ⟨[v]⟩,.agg ⟨[zI ck,zI (s:Int),zI c2,zI c3,zI c4,zI c5,zI c6]⟩,(.map (some rm))] ro (LM++Z) (fun r Y=>∃F' L' Z',r= zI 0∧Y=L'++Z'∧j5 rm pG F' L'∧F'.map (·.1)=bM S∧MV Z' F' (gU (Lg (s:Int) l))):=by
 obtain⟨ws,ht,dq⟩:=hS
 obtain⟨dX,AK,AI,dB,rfl,AJ,sD,sC⟩:=ht
 have hln:=dq.len
 have Ko:=hO.two
 have MI:=(List.getElem?_eq_some_iff.1 hl).1
 have hlm:=zL hl
 have hll:=hO.len _ hlm
 refine zC [.l LM,.l Z]<|zD 2<|jn fun b3=>jn fun b4=>jd 9 [1,0] ?_
 obtain⟨fL,eH⟩:=zG ws s
 refine iz dB 1 sD eH ?_
 obtain⟨R9,acg,Ft⟩:=dq.get eH
 obtain aQA:=hO.len _ (zL acg)
 obtain OX:R9=l:=Option.some.inj (acg.symm.trans hl)
 obtain aPs:=hO.ok _ (zL acg)
 obtain⟨auS,aNK,aNI,afy,rfl,aNJ,auR,auQ⟩:=Ft
 refine jl 0 (sC _ _ eH)<|zD 4<|dV [1,0,1,0,0] [] (fun(zz:Nat×(List (ar×Value))×Cells×Cells)=>[(2,(.map (some rm))),(4,zP b4),(6,zI 0),(15,.slice auS R9.length afy),(16,zI (R9.length:Int)),(17,zI (zz.1:Int))]) (fun(zz:Nat×(List (ar×Value))×Cells×Cells)=>[.l zz.2.2.1,.l zz.2.2.2,.b b4 (.cells ⟨[zI ck,zI (s:Int),zI c2,zI c3,zI c4,zI c5,zI c6]⟩ 83 (0,0)),.b b3 (.cells ⟨[.slice dX ws.length dB]⟩ 27 (0,0))]) (fun(zz:Nat×(List (ar×Value))×Cells×Cells)=>zz.1≤R9.length∧j5 rm pG zz.2.1 zz.2.2.1∧zz.2.1.map (·.1)=bM S∧MV zz.2.2.2 zz.2.1 (gU ((Lg (s:Int) l).take zz.1))) (fun(zz:Nat×(List (ar×Value))×Cells×Cells)=>R9.length-zz.1) (⟨0,F,LM,Z⟩) ⟨by dsimp only;omega,hm,hk,hM⟩ [2,3,0,1] ?_
 rintro⟨i,F,LM,Z⟩ hI K1 bO rest
 dsimp only at hI
 refine zD 5<|zJ 18 ((i:Int) <(R9.length:Int)) (fun h1=>?_) fun h1=>?_
 ·
  refine zD 6 ?_
  obtain⟨FJ,yz⟩:=zG R9 i
  refine iz afy 2 auR yz<|jl 0 (auQ _ _ yz)<|jn fun b8=>jd 3 [0] ?_
  have Kp:=aPs _ (zL yz)
  have aPS:=Kp.1.1
  have aPR:=Kp.1.2
  refine jd 3 [0]<|ja (FJ.n-1) (by omega)<|jd 6 [0]<|jp (vs:=[.agg ⟨[zI FJ.n,zI FJ.l]⟩]) [] [] (fun aH hs hZ=>(aHK (x:=FJ)))<|zD 1<|js 25 (yw FJ.n) (fun h2=>?_) (fun h2=>?_)
  ·
   refine jd 4 [0]<|ja (FJ.n+1) (by omega)<|jd 13 [3,0,3,0]<|jp (vs:=[zI (s:Int),zI (FJ.n+1),zI FJ.l]) [] [] (fun aH hs hZ=>gAt)<|aQ 11 fun y4 ze wZ=>jn fun rD=>eo wZ (zN 1 5)<|aQ 12 fun qp qv oV=>jmu (kv:=pG) (F:=F) (r:=rm) (K:=158) 2 (mQ (s:Int) FJ) (.slice (some ⟨rD,0,none⟩) 1 1) Ex hI.2.1 fun Lm5 hm5=>fp oV<|zD 2<|ja ((i:Int)+1) (by omega)<|zD 2 ?_
   have hup:=MV.upd (T:=158) (b:=rD) (y:=⟨s,FJ.n+1,FJ.l⟩) hO hI.2.2.2 hI.2.2.1 hl (by rw[←OX];exact zL yz)
   exact Ki bO (⟨i+1,_,Lm5,Z++[(rD,.cells ⟨[zI (s:Int),zI (FJ.n+1),zI FJ.l]⟩ 158 (0,0))]⟩) ⟨by dsimp only;omega,hm5,hup.2,by rw[eA (Yk (by rw[←OX];exact yz))];rw[if_pos (by assumption)];exact hup.1⟩ (by dsimp only;omega) [[0],[3,1],[4],[5]] (Sub.refl _)
  refine jd 13 [3,0,3,0]<|jp (vs:=[zI (s:Int),zI (FJ.n-1),zI FJ.l]) [] [] (fun aH hs hZ=>gAt)<|aQ 11 fun sq su qR=>jn fun rD=>eo qR (zN 1 5)<|aQ 12 fun AZ A9 BK=>jmu (kv:=pG) (F:=F) (r:=rm) (K:=158) 2 (mQ (s:Int) FJ) (.slice (some ⟨rD,0,none⟩) 1 1) Ex hI.2.1 fun Lm8 hm8=>fp BK<|zD 2<|ja ((i:Int)+1) (by omega)<|zD 2 ?_
  have hup:=MV.upd (T:=158) (b:=rD) (y:=⟨s,FJ.n-1,FJ.l⟩) hO hI.2.2.2 hI.2.2.1 hl (by rw[←OX];exact zL yz)
  exact Ki bO (⟨i+1,_,Lm8,Z++[(rD,.cells ⟨[zI (s:Int),zI (FJ.n-1),zI FJ.l]⟩ 158 (0,0))]⟩) ⟨by dsimp only;omega,hm8,hup.2,by rw[eA (Yk (by rw[←OX];exact yz))];rw[if_neg (by rw[show yw FJ.n=false from (by assumption)];decide)];exact hup.1⟩ (by dsimp only;omega) [[0],[3,1],[4],[5]] (Sub.refl _)
 refine zD 7<|zR (zI 0) [] [0,1] (LM++Z) ⟨F,LM,Z,rfl,rfl,hI.2.1,hI.2.2.1,by have:=hI.2.2.2;rwa[List.take_of_length_le (by simp only[Lg,List.length_map];rw[←OX];omega)] at this⟩
theorem apz{v:Value}{S:List (List aj)}{o:Nat}{l lo:List aj}{ck c3 c4:Int}{F:List (ar×Value)}(hS:da ro v S)(hO:eS S)(hl:S[s]?=some l) (hm:j5 rm pG F LM) (hk:F.map (·.1)=bM S) (hM:MV Z F id) (BG:S[o]?=some lo):eg zT 233 [.agg ⟨[v]⟩,.agg ⟨[zI ck,zI (s:Int),zI (o:Int),zI c3,zI c4,zI c5,zI c6]⟩,(.map (some rm))] ro (LM++Z) (fun r Y=>∃F' L' Z',r= zI 0∧Y=L'++Z'∧j5 rm pG F' L'∧F'.map (·.1)=bM S∧MV Z' F' (gU (MD (s:Int) (o:Int) l (sB lo)))):=by
 obtain⟨ws,ht,dq⟩:=hS
 obtain⟨dX,AK,AI,dB,rfl,AJ,sD,sC⟩:=ht
 have hln:=dq.len
 have Ko:=hO.two
 have MI:=(List.getElem?_eq_some_iff.1 hl).1
 have hlm:=zL hl
 have hll:=hO.len _ hlm
 have hso:=(List.getElem?_eq_some_iff.1 BG).1
 have aGo:=zL BG
 have hr:=afm (hO.ok _ aGo)
 have bbo:=hO.len _ aGo
 refine zC [.l LM,.l Z]<|zD 2<|jn fun b3=>jn fun b4=>jd 8 [1,0] ?_
 obtain⟨XW,HM⟩:=zG ws s
 refine iz dB 1 sD HM ?_
 obtain⟨l18,aw9,SZ⟩:=dq.get HM
 obtain bbj:=hO.len _ (zL aw9)
 obtain OW:l18=l:=Option.some.inj (aw9.symm.trans hl)
 obtain dH:=hO.ok _ (zL aw9)
 obtain⟨aDR,aZt,aZr,auP,rfl,aZs,aNx,aNw⟩:=SZ
 refine jl 0 (sC _ _ HM)<|jd 4 [1,0] ?_
 obtain⟨vI,tD⟩:=zG ws o
 refine iz dB 1 sD tD ?_
 obtain⟨Vx,V1,ZY⟩:=dq.get tD
 obtain aGm:=hO.len _ (zL V1)
 obtain Wa:Vx=lo:=Option.some.inj (V1.symm.trans BG)
 obtain aFt:=hO.ok _ (zL V1)
 obtain⟨auO,aDJ,aDH,afx,rfl,aDI,anp,ano⟩:=ZY
 refine jl 0 (sC _ _ tD)<|zD 10<|ja ((l18.length:Int)+(Vx.length:Int)) (by omega)<|zD 2<|zJ 30 (((l18.length:Int)+(Vx.length:Int))>8) (fun h1=>?_) fun h1=>?_
 ·
  exfalso;omega
 refine zD 18<|yK [1,1,1,1,1] [] (fun(zz:Int)=>[(2,(.map (some rm))),(4,zP b4),(6,zI 0),(7,.slice aDR l18.length auP),(9,zI zz)]) (fun zz=>[.l LM,.l Z,.b b4 (.cells ⟨[zI ck,zI (s:Int),zI (o:Int),zI c3,zI c4,zI c5,zI c6]⟩ 83 (0,0)),.b b3 (.cells ⟨[.slice dX ws.length dB]⟩ 27 (0,0))]) (fun zz=>zz=sB lo) ?_ (fun K1 bO=>?_)
 ·
  rintro q hQ rest
  refine zD 8<|dV [1,1,1,1,1,0,1,0,0] [] (fun(zz:Nat×(List (ar×Value))×Cells×Cells)=>[(2,(.map (some rm))),(4,zP b4),(9,zI q),(49,.slice aDR l18.length auP),(50,zI (l18.length:Int)),(51,zI (zz.1:Int))]) (fun(zz:Nat×(List (ar×Value))×Cells×Cells)=>[.l zz.2.2.1,.l zz.2.2.2,.b b4 (.cells ⟨[zI ck,zI (s:Int),zI (o:Int),zI c3,zI c4,zI c5,zI c6]⟩ 83 (0,0)),.b b3 (.cells ⟨[.slice dX ws.length dB]⟩ 27 (0,0))]) (fun(zz:Nat×(List (ar×Value))×Cells×Cells)=>zz.1≤l18.length∧j5 rm pG zz.2.1 zz.2.2.1∧zz.2.1.map (·.1)=bM S∧MV zz.2.2.2 zz.2.1 (gU ((MD (s:Int) (o:Int) l (sB lo)).take zz.1))) (fun(zz:Nat×(List (ar×Value))×Cells×Cells)=>l18.length-zz.1) (⟨0,F,LM,Z⟩) ⟨by dsimp only;omega,hm,hk,hM⟩ (zN 0 4) ?_
  rintro⟨i,F,LM,Z⟩ hI K2 mr rest
  dsimp only at hI
  refine zD 5<|zJ 52 ((i:Int) <(l18.length:Int)) (fun h2=>?_) fun h2=>?_
  ·
   refine zD 6 ?_
   obtain⟨x53,ahn⟩:=zG l18 i
   refine iz auP 2 aNx ahn<|jl 0 (aNw _ _ ahn)<|jn fun qn=>jd 4 [0] ?_
   have Kp:=dH _ (zL ahn)
   have aPS:=Kp.1.1
   have aPR:=Kp.1.2
   refine jd 4 [0]<|ja (x53.n+q) (by omega)<|zD 2<|zJ 59 ((x53.n+q)>40) (fun h3=>?_) fun h3=>?_
   ·
    exfalso;omega
   refine jd 13 [3,0,3,0]<|ja (x53.n+q) (by omega)<|jd 2 [0]<|jp (vs:=[zI (o:Int),zI (x53.n+q),zI x53.l]) [] [] (fun aH hs hZ=>gAt)<|aQ 14 fun qp qv oV=>jn fun b74=>eo oV (zN 1 5)<|aQ 15 fun sq su qR=>jmu (kv:=pG) (F:=F) (r:=rm) (K:=158) 2 (mQ (s:Int) x53) (.slice (some ⟨b74,0,none⟩) 1 1) Ex hI.2.1 fun Lm6 hm6=>fp qR<|zD 2<|ja ((i:Int)+1) (by omega)<|zD 2 ?_
   have hup:=MV.upd (T:=158) (b:=b74) (y:=⟨o,x53.n+q,x53.l⟩) hO hI.2.2.2 hI.2.2.1 hl (by rw[←OW];exact zL ahn)
   exact Ki mr (⟨i+1,_,Lm6,Z++[(b74,.cells ⟨[zI (o:Int),zI (x53.n+q),zI x53.l]⟩ 158 (0,0))]⟩) ⟨by dsimp only;omega,hm6,hup.2,by rw[eA (aos (by rw[←OW];exact ahn))];have e:=hup.1;rw[hQ] at e ⊢;exact e⟩ (by dsimp only;omega) [[0],[3,1],[4],[5]] (Sub.refl _)
  refine zD 7<|zR (zI 0) [] [0,1] (LM++Z) ⟨F,LM,Z,rfl,rfl,hI.2.1,hI.2.2.1,by have:=hI.2.2.2;rwa[List.take_of_length_le (by simp only[MD,List.length_map];rw[←OW];omega)] at this⟩
 refine zJ 34 ((Vx.length:Int)>0) (fun h7=>?_) fun h7=>?_
 ·
  refine zD 4<|ja ((Vx.length:Int)-1) (by omega) ?_
  obtain⟨x38,OL⟩:=zG Vx ((((Vx.length:Int)-1)).toNat)
  refine P6 ((Vx.length:Int)-1) afx 2 anp OL (by omega)<|zD 1<|jl 0 (ano _ _ OL)<|zD 2<|ja ((Vx.length:Int)-1) (by omega) ?_
  obtain⟨x44,Kl⟩:=zG Vx ((((Vx.length:Int)-1)).toNat)
  refine P6 ((Vx.length:Int)-1) afx 2 anp Kl (by omega)<|zD 1<|jl 0 (ano _ _ Kl)<|zD 1<|ja (x38.n+(Int.tmod x44.n 2)) (by have h1:=(aFt _ (zL OL)).1;have h2:=(aFt _ (zL Kl)).1;have:=tm2 h2;omega) ?_
  refine zD 2 ?_
  have hra:=raise_at OL
  rw[Wa] at hra
  exact bA bO (x38.n+(Int.tmod x44.n 2)) (by rw[←Wa];have e:x38=x44:=Option.some.inj (OL.symm.trans Kl);subst e;exact(raise_at OL).symm) Nat.zero_lt_one [2,3,0,1] (Sub.refl _)
 refine zD 2<|bA bO 0 (by rw[←Wa];exact(abm (by omega)).symm) Nat.zero_lt_one [2,3,0,1] (Sub.refl _)
def aze(S:List (List aj))(c:aE):List (ar×ar):=
 if c.k=1 then aes c.st (S[c.st.toNat]?.getD []) else if c.k=2 then Lg c.st (S[c.st.toNat]?.getD []) else MD c.st c.ot (S[c.st.toNat]?.getD []) (sB (S[c.ot.toNat]?.getD []))
def zw(S:List (List aj))(c:aE)(x:ar):ar:=gU (aze S c) x
theorem qu{l:List α}(h:l.length=2):∃a b,l=[a,b]:=by
 match l,h with
 | [a,b],_=>exact⟨a,b,rfl⟩
theorem S6:dK zT 209 [] ro (.agg ⟨[.nilFunc,.func (.func 230) ⟨[]⟩ ⟨[]⟩,.func (.func 231) ⟨[]⟩ ⟨[]⟩,.func (.func 232) ⟨[]⟩ ⟨[]⟩,.func (.func 233) ⟨[]⟩ ⟨[]⟩,.func (.func 234) ⟨[]⟩ ⟨[]⟩,.func (.func 235) ⟨[]⟩ ⟨[]⟩,.func (.func 236) ⟨[]⟩ ⟨[]⟩]⟩):=by
 refine zE<|zD 2<|jn fun b0=>jd 7 [0]<|zR (.agg ⟨[.nilFunc,.func (.func 230) ⟨[]⟩ ⟨[]⟩,.func (.func 231) ⟨[]⟩ ⟨[]⟩,.func (.func 232) ⟨[]⟩ ⟨[]⟩,.func (.func 233) ⟨[]⟩ ⟨[]⟩,.func (.func 234) ⟨[]⟩ ⟨[]⟩,.func (.func 235) ⟨[]⟩ ⟨[]⟩,.func (.func 236) ⟨[]⟩ ⟨[]⟩]⟩) [0] [] [] ⟨rfl,rfl⟩
theorem aHW{v:Value}{S:List (List aj)}(hS:da ro v S)(hO:eS S):eg zT 176 [.agg ⟨[v]⟩,.agg ⟨[zI 1,zI 0,zI 0,zI 0,zI 0,zI 0,zI 0]⟩] ro [] (fun r Y=>∃rm F LM Z,r= .tuple ⟨[.map (some rm),zI 0]⟩∧Y=LM++Z∧j5 rm pG F LM∧F.map (·.1)=bM S∧MV Z F (zw S ⟨1,0,0,0,0,0,0⟩)):=by
 obtain⟨p,q,rfl⟩:=qu hO.two
 have yO:=hS
 obtain⟨ws,ht,dq⟩:=hS
 obtain⟨w1,w2,rfl⟩:=qu (dq.len.trans hO.two)
 obtain⟨dX,AK,AI,dB,rfl,AJ,sD,sC⟩:=ht
 refine zE<|zD 2<|jn fun b2=>jn fun b3=>jd 8 [0]<|jp (vs:=[zI 1,zI 1,zI 7]) [] [] (fun aH hs hZ=>BO)<|jd 18 [1,0]<|jp (vs:=[zI 0,zI 0,zI 1]) [] [] (fun aH hs hZ=>BO)<|jd 70 [0,0,0,0,0,0]<|jne Hk (xq 0 0 0 0)<|zD 3<|js 73 (!(0==0&&(0==0&&true))) (fun h1=>?_) (fun h1=>?_)
 ·
  have gh:=h1
  try simp only[zB] at gh
  exact absurd gh (by decide)
 have gh:=h1
 try simp only[zB] at gh
 refine jd 6 [0]<|jne Hk (xq 0 0 0 0)<|zD 3<|js 82 (!(0==0&&(0==0&&true))) (fun h2=>?_) (fun h2=>?_)
 ·
  exact absurd h2 (by decide)
 refine jd 5 [1]<|jc (vs:=[.agg ⟨[.slice dX 2 dB]⟩]) [] (MW (yO) hO) ?_
 rintro _ _ ⟨rm,F,LM,Z,rfl,rfl,hmM,hkM,hMM⟩
 refine jg 0 [.l LM,.l Z]<|jd 10 [2,3,2]<|jp [] [] (fun aH hs hZ=>S6)<|zD 1<|aQ 7 fun EV EZ AV=>jc (vs:=[.agg ⟨[.slice dX 2 dB]⟩,.agg ⟨[zI 1,zI 0,zI 0,zI 0,zI 0,zI 0,zI 0]⟩,(.map (some rm))]) [0,1] (Z0 (s:=0) yO hO rfl hmM hkM hMM) ?_
 rintro _ _ ⟨F2,PX,Z2,rfl,rfl,FX,iQ,hM2⟩
 refine jg 0 [.l PX,.l Z2]<|fJ AV [[2]]<|zD 16<|zR (.tuple ⟨[(.map (some rm)),zI 0]⟩) [] [0,1] (PX++Z2) ⟨rm,F2,PX,Z2,rfl,rfl,FX,iQ,hM2⟩
theorem aHV{v:Value}{S:List (List aj)}(hS:da ro v S)(hO:eS S):eg zT 176 [.agg ⟨[v]⟩,.agg ⟨[zI 2,zI 0,zI 0,zI 0,zI 0,zI 0,zI 0]⟩] ro [] (fun r Y=>∃rm F LM Z,r= .tuple ⟨[.map (some rm),zI 0]⟩∧Y=LM++Z∧j5 rm pG F LM∧F.map (·.1)=bM S∧MV Z F (zw S ⟨2,0,0,0,0,0,0⟩)):=by
 obtain⟨p,q,rfl⟩:=qu hO.two
 have yO:=hS
 obtain⟨ws,ht,dq⟩:=hS
 obtain⟨w1,w2,rfl⟩:=qu (dq.len.trans hO.two)
 obtain⟨dX,AK,AI,dB,rfl,AJ,sD,sC⟩:=ht
 refine zE<|zD 2<|jn fun b2=>jn fun b3=>jd 8 [0]<|jp (vs:=[zI 2,zI 1,zI 7]) [] [] (fun aH hs hZ=>BO)<|jd 18 [1,0]<|jp (vs:=[zI 0,zI 0,zI 1]) [] [] (fun aH hs hZ=>BO)<|jd 70 [0,0,0,0,0,0]<|jne Hk (xq 0 0 0 0)<|zD 3<|js 73 (!(0==0&&(0==0&&true))) (fun h1=>?_) (fun h1=>?_)
 ·
  have gh:=h1
  try simp only[zB] at gh
  exact absurd gh (by decide)
 have gh:=h1
 try simp only[zB] at gh
 refine jd 6 [0]<|jne Hk (xq 0 0 0 0)<|zD 3<|js 82 (!(0==0&&(0==0&&true))) (fun h2=>?_) (fun h2=>?_)
 ·
  exact absurd h2 (by decide)
 refine jd 5 [1]<|jc (vs:=[.agg ⟨[.slice dX 2 dB]⟩]) [] (MW (yO) hO) ?_
 rintro _ _ ⟨rm,F,LM,Z,rfl,rfl,hmM,hkM,hMM⟩
 refine jg 0 [.l LM,.l Z]<|jd 10 [2,3,2]<|jp [] [] (fun aH hs hZ=>S6)<|zD 1<|aQ 7 fun EV EZ AV=>jc (vs:=[.agg ⟨[.slice dX 2 dB]⟩,.agg ⟨[zI 2,zI 0,zI 0,zI 0,zI 0,zI 0,zI 0]⟩,(.map (some rm))]) [0,1] (S5 (s:=0) yO hO rfl hmM hkM hMM) ?_
 rintro _ _ ⟨F2,PX,Z2,rfl,rfl,FX,iQ,hM2⟩
 refine jg 0 [.l PX,.l Z2]<|fJ AV [[2]]<|zD 16<|zR (.tuple ⟨[(.map (some rm)),zI 0]⟩) [] [0,1] (PX++Z2) ⟨rm,F2,PX,Z2,rfl,rfl,FX,iQ,hM2⟩
theorem aHU{v:Value}{S:List (List aj)}(hS:da ro v S)(hO:eS S):eg zT 176 [.agg ⟨[v]⟩,.agg ⟨[zI 1,zI 1,zI 0,zI 0,zI 0,zI 0,zI 0]⟩] ro [] (fun r Y=>∃rm F LM Z,r= .tuple ⟨[.map (some rm),zI 0]⟩∧Y=LM++Z∧j5 rm pG F LM∧F.map (·.1)=bM S∧MV Z F (zw S ⟨1,1,0,0,0,0,0⟩)):=by
 obtain⟨p,q,rfl⟩:=qu hO.two
 have yO:=hS
 obtain⟨ws,ht,dq⟩:=hS
 obtain⟨w1,w2,rfl⟩:=qu (dq.len.trans hO.two)
 obtain⟨dX,AK,AI,dB,rfl,AJ,sD,sC⟩:=ht
 refine zE<|zD 2<|jn fun b2=>jn fun b3=>jd 8 [0]<|jp (vs:=[zI 1,zI 1,zI 7]) [] [] (fun aH hs hZ=>BO)<|jd 18 [1,0]<|jp (vs:=[zI 1,zI 0,zI 1]) [] [] (fun aH hs hZ=>BO)<|jd 70 [0,0,0,0,0,0]<|jne Hk (xq 0 0 0 0)<|zD 3<|js 73 (!(0==0&&(0==0&&true))) (fun h1=>?_) (fun h1=>?_)
 ·
  have gh:=h1
  try simp only[zB] at gh
  exact absurd gh (by decide)
 have gh:=h1
 try simp only[zB] at gh
 refine jd 6 [0]<|jne Hk (xq 0 0 0 0)<|zD 3<|js 82 (!(0==0&&(0==0&&true))) (fun h2=>?_) (fun h2=>?_)
 ·
  exact absurd h2 (by decide)
 refine jd 5 [1]<|jc (vs:=[.agg ⟨[.slice dX 2 dB]⟩]) [] (MW (yO) hO) ?_
 rintro _ _ ⟨rm,F,LM,Z,rfl,rfl,hmM,hkM,hMM⟩
 refine jg 0 [.l LM,.l Z]<|jd 10 [2,3,2]<|jp [] [] (fun aH hs hZ=>S6)<|zD 1<|aQ 7 fun EV EZ AV=>jc (vs:=[.agg ⟨[.slice dX 2 dB]⟩,.agg ⟨[zI 1,zI 1,zI 0,zI 0,zI 0,zI 0,zI 0]⟩,(.map (some rm))]) [0,1] (Z0 (s:=1) yO hO rfl hmM hkM hMM) ?_
 rintro _ _ ⟨F2,PX,Z2,rfl,rfl,FX,iQ,hM2⟩
 refine jg 0 [.l PX,.l Z2]<|fJ AV [[2]]<|zD 16<|zR (.tuple ⟨[(.map (some rm)),zI 0]⟩) [] [0,1] (PX++Z2) ⟨rm,F2,PX,Z2,rfl,rfl,FX,iQ,hM2⟩
theorem aHT{v:Value}{S:List (List aj)}(hS:da ro v S)(hO:eS S):eg zT 176 [.agg ⟨[v]⟩,.agg ⟨[zI 2,zI 1,zI 0,zI 0,zI 0,zI 0,zI 0]⟩] ro [] (fun r Y=>∃rm F LM Z,r= .tuple ⟨[.map (some rm),zI 0]⟩∧Y=LM++Z∧j5 rm pG F LM∧F.map (·.1)=bM S∧MV Z F (zw S ⟨2,1,0,0,0,0,0⟩)):=by
 obtain⟨p,q,rfl⟩:=qu hO.two
 have yO:=hS
 obtain⟨ws,ht,dq⟩:=hS
 obtain⟨w1,w2,rfl⟩:=qu (dq.len.trans hO.two)
 obtain⟨dX,AK,AI,dB,rfl,AJ,sD,sC⟩:=ht
 refine zE<|zD 2<|jn fun b2=>jn fun b3=>jd 8 [0]<|jp (vs:=[zI 2,zI 1,zI 7]) [] [] (fun aH hs hZ=>BO)<|jd 18 [1,0]<|jp (vs:=[zI 1,zI 0,zI 1]) [] [] (fun aH hs hZ=>BO)<|jd 70 [0,0,0,0,0,0]<|jne Hk (xq 0 0 0 0)<|zD 3<|js 73 (!(0==0&&(0==0&&true))) (fun h1=>?_) (fun h1=>?_)
 ·
  have gh:=h1
  try simp only[zB] at gh
  exact absurd gh (by decide)
 have gh:=h1
 try simp only[zB] at gh
 refine jd 6 [0]<|jne Hk (xq 0 0 0 0)<|zD 3<|js 82 (!(0==0&&(0==0&&true))) (fun h2=>?_) (fun h2=>?_)
 ·
  exact absurd h2 (by decide)
 refine jd 5 [1]<|jc (vs:=[.agg ⟨[.slice dX 2 dB]⟩]) [] (MW (yO) hO) ?_
 rintro _ _ ⟨rm,F,LM,Z,rfl,rfl,hmM,hkM,hMM⟩
 refine jg 0 [.l LM,.l Z]<|jd 10 [2,3,2]<|jp [] [] (fun aH hs hZ=>S6)<|zD 1<|aQ 7 fun EV EZ AV=>jc (vs:=[.agg ⟨[.slice dX 2 dB]⟩,.agg ⟨[zI 2,zI 1,zI 0,zI 0,zI 0,zI 0,zI 0]⟩,(.map (some rm))]) [0,1] (S5 (s:=1) yO hO rfl hmM hkM hMM) ?_
 rintro _ _ ⟨F2,PX,Z2,rfl,rfl,FX,iQ,hM2⟩
 refine jg 0 [.l PX,.l Z2]<|fJ AV [[2]]<|zD 16<|zR (.tuple ⟨[(.map (some rm)),zI 0]⟩) [] [0,1] (PX++Z2) ⟨rm,F2,PX,Z2,rfl,rfl,FX,iQ,hM2⟩
theorem aHS{v:Value}{S:List (List aj)}(hS:da ro v S)(hO:eS S):eg zT 176 [.agg ⟨[v]⟩,.agg ⟨[zI 4,zI 1,zI 0,zI 0,zI 0,zI 0,zI 0]⟩] ro [] (fun r Y=>∃rm F LM Z,r= .tuple ⟨[.map (some rm),zI 0]⟩∧Y=LM++Z∧j5 rm pG F LM∧F.map (·.1)=bM S∧MV Z F (zw S ⟨4,1,0,0,0,0,0⟩)):=by
 obtain⟨p,q,rfl⟩:=qu hO.two
 have yO:=hS
 obtain⟨ws,ht,dq⟩:=hS
 obtain⟨w1,w2,rfl⟩:=qu (dq.len.trans hO.two)
 obtain⟨dX,AK,AI,dB,rfl,AJ,sD,sC⟩:=ht
 refine zE<|zD 2<|jn fun b2=>jn fun b3=>jd 8 [0]<|jp (vs:=[zI 4,zI 1,zI 7]) [] [] (fun aH hs hZ=>BO)<|jd 18 [1,0]<|jp (vs:=[zI 1,zI 0,zI 1]) [] [] (fun aH hs hZ=>BO)<|jd 33 [0,0,0,0]<|jp (vs:=[zI 0,zI 0,zI 1]) [] [] (fun aH hs hZ=>BO)<|jd 36 [0,0,0]<|jne Hk (xq 0 0 0 0)<|zD 3<|js 73 (!(0==0&&(0==0&&true))) (fun h1=>?_) (fun h1=>?_)
 ·
  have gh:=h1
  try simp only[zB] at gh
  exact absurd gh (by decide)
 have gh:=h1
 try simp only[zB] at gh
 refine jd 6 [0]<|jne Hk (xq 0 0 0 0)<|zD 3<|js 82 (!(0==0&&(0==0&&true))) (fun h2=>?_) (fun h2=>?_)
 ·
  exact absurd h2 (by decide)
 refine jd 5 [1]<|jc (vs:=[.agg ⟨[.slice dX 2 dB]⟩]) [] (MW (yO) hO) ?_
 rintro _ _ ⟨rm,F,LM,Z,rfl,rfl,hmM,hkM,hMM⟩
 refine jg 0 [.l LM,.l Z]<|jd 10 [2,3,2]<|jp [] [] (fun aH hs hZ=>S6)<|zD 1<|aQ 7 fun EV EZ AV=>jc (vs:=[.agg ⟨[.slice dX 2 dB]⟩,.agg ⟨[zI 4,zI 1,zI 0,zI 0,zI 0,zI 0,zI 0]⟩,(.map (some rm))]) [0,1] (apz (s:=1) (o:=0) yO hO rfl hmM hkM hMM rfl) ?_
 rintro _ _ ⟨F2,PX,Z2,rfl,rfl,FX,iQ,hM2⟩
 refine jg 0 [.l PX,.l Z2]<|fJ AV [[2]]<|zD 16<|zR (.tuple ⟨[(.map (some rm)),zI 0]⟩) [] [0,1] (PX++Z2) ⟨rm,F2,PX,Z2,rfl,rfl,FX,iQ,hM2⟩
def abQ(n:Nat):Int:=if n=0 then 0 else if n <2 then 1 else if n <4 then 2 else if n <8 then 3 else 4
theorem ay2:∀ {n:Nat},n≤12→dK zT 161 [zU (n:Int)] ro (zI (abQ n))
 |0,_=>by refine bG av [] [] bp (zD 35 (ja 0 (by decide) (zD 3 ?_)));exact aO q0 (zI 0) [] [] [] (Sub.refl _) ⟨_,_,rfl,rfl,rfl,rfl⟩
 |1,_=>by refine bG av [] [] bp (zD 35 (ja 1 (by decide) (zD 3 ?_)));exact aO q0 (zI 1) [] [] [] (Sub.refl _) ⟨_,_,rfl,rfl,rfl,rfl⟩
 |2,_=>by refine bG av [] [] bp (zD 35 (ja 2 (by decide) (zD 3 ?_)));exact aO q0 (zI 2) [] [] [] (Sub.refl _) ⟨_,_,rfl,rfl,rfl,rfl⟩
 |3,_=>by refine bG av [] [] bp (zD 35 (ja 2 (by decide) (zD 3 ?_)));exact aO q0 (zI 2) [] [] [] (Sub.refl _) ⟨_,_,rfl,rfl,rfl,rfl⟩
 |4,_=>by refine bG av [] [] bp (zD 35 (ja 3 (by decide) (zD 3 ?_)));exact aO q0 (zI 3) [] [] [] (Sub.refl _) ⟨_,_,rfl,rfl,rfl,rfl⟩
 |5,_=>by refine bG av [] [] bp (zD 35 (ja 3 (by decide) (zD 3 ?_)));exact aO q0 (zI 3) [] [] [] (Sub.refl _) ⟨_,_,rfl,rfl,rfl,rfl⟩
 |6,_=>by refine bG av [] [] bp (zD 35 (ja 3 (by decide) (zD 3 ?_)));exact aO q0 (zI 3) [] [] [] (Sub.refl _) ⟨_,_,rfl,rfl,rfl,rfl⟩
 |7,_=>by refine bG av [] [] bp (zD 35 (ja 3 (by decide) (zD 3 ?_)));exact aO q0 (zI 3) [] [] [] (Sub.refl _) ⟨_,_,rfl,rfl,rfl,rfl⟩
 |8,_=>by refine bG av [] [] bp (zD 35 (ja 4 (by decide) (zD 3 ?_)));exact aO q0 (zI 4) [] [] [] (Sub.refl _) ⟨_,_,rfl,rfl,rfl,rfl⟩
 |9,_=>by refine bG av [] [] bp (zD 35 (ja 4 (by decide) (zD 3 ?_)));exact aO q0 (zI 4) [] [] [] (Sub.refl _) ⟨_,_,rfl,rfl,rfl,rfl⟩
 |10,_=>by refine bG av [] [] bp (zD 35 (ja 4 (by decide) (zD 3 ?_)));exact aO q0 (zI 4) [] [] [] (Sub.refl _) ⟨_,_,rfl,rfl,rfl,rfl⟩
 |11,_=>by refine bG av [] [] bp (zD 35 (ja 4 (by decide) (zD 3 ?_)));exact aO q0 (zI 4) [] [] [] (Sub.refl _) ⟨_,_,rfl,rfl,rfl,rfl⟩
 |12,_=>by refine bG av [] [] bp (zD 35 (ja 4 (by decide) (zD 3 ?_)));exact aO q0 (zI 4) [] [] [] (Sub.refl _) ⟨_,_,rfl,rfl,rfl,rfl⟩
 |n+13,h=>absurd h (by omega)
theorem adW{n:Nat}(h:n≤1000):Value.int .u64 (IntKind.u64.wrap (n:Int))= zU (n:Int):=by
 rw[sX .u64 rfl _ (by omega) (by simp[IntKind.bits];omega)]
def PS(v:Value)(xs:List aj)(Y:Cells):Prop:=∃ys,ys.Perm xs∧ay v 2 79 cM ys Y
theorem ay3{n:Nat}(h:n≤12):dK zT 114 [zU (n:Int)] ro (zI (abQ n)):=by
 refine zE<|zD 10<|jp (vs:=[zU (n:Int)]) [] [] (fun aH hs hZ=>(ay2 h))<|zD 3<|zX (zI (abQ n)) ⟨rfl,rfl⟩
theorem aS6{v:Value}{xs:List aj}{L:Cells}{a b:Int}(ho:ay v 2 79 cM xs L)(hN:xs.length≤1000)(xZ:0≤a∧a≤b∧b≤xs.length):eg zT 255 [v,zI a,zI b,.func (.func 184) ⟨[]⟩ ⟨[]⟩] ro L (fun r Y=>PS v xs Y):=by
 refine zC [.l L]<|zD 3<|ja (a+1) (by omega)<|zD 3<|dV [1,0,0] [] (fun(zz:Int×(List aj)×Cells)=>[(0,v),(1,zI a),(2,zI b),(3,.func (.func 184) ⟨[]⟩ ⟨[]⟩),(8,zI zz.1)]) (fun zz=>[.l zz.2.2]) (fun zz=>(a+1≤zz.1)∧ay v 2 79 cM zz.2.1 zz.2.2∧zz.2.1.Perm xs) (fun zz=>(b-zz.1).toNat) (⟨(a+1),xs,L⟩) ⟨by dsimp only;omega,ho,.refl _⟩ [0] ?_
 rintro⟨i,ys,L⟩ hI K1 bO rest
 dsimp only at hI
 have Zx:=hI.2.2.length_eq
 refine zD 7<|zJ 14 (i <b) (fun h1=>?_) fun h1=>?_
 ·
  refine zD 10<|dV [1,0,0,1,0,0,1,0,0] [K1] (fun(zz:Int×(List aj)×Cells)=>[(0,v),(1,zI a),(2,zI b),(3,.func (.func 184) ⟨[]⟩ ⟨[]⟩),(8,zI i),(9,zI zz.1)]) (fun zz=>[.l zz.2.2]) (fun zz=>(a≤zz.1∧zz.1≤i)∧ay v 2 79 cM zz.2.1 zz.2.2∧zz.2.1.Perm xs) (fun zz=>(zz.1-a).toNat) (⟨i,ys,L⟩) ⟨by dsimp only;omega,hI.2⟩ [0] ?_
  rintro⟨j,ys,L⟩ hJ K2 mr rest
  dsimp only at hJ
  have Zx:=hJ.2.2.length_eq
  refine zD 7<|js 3 (decide (j>a)) (fun h2=>?_) (fun h2=>?_)
  ·
   have mI:=h2
   replace mI:=of_decide_eq_true mI
   refine zD 3 ?_
   obtain⟨y5,lB⟩:=zG ys (j.toNat) (by first|omega| (simp only[List.length_set];omega))
   refine pZ j 2 hJ.2.1 lB (Int.toNat_of_nonneg (show 0≤j∧j <((ys).length:Int) from (by first|omega| (simp only[List.length_set];omega))).1).symm (fun j8 aiM=>?_)
   refine mT 0 [0] L (fun s _ hZ=>bR hJ.2.1 aiM hZ lB)<|zD 2<|ja (j-1) (by omega) ?_
   obtain⟨oI,jk⟩:=zG ys ((j-1).toNat) (by first|omega| (simp only[List.length_set];omega))
   refine pZ (j-1) 2 hJ.2.1 jk (Int.toNat_of_nonneg (show 0≤(j-1)∧(j-1) <((ys).length:Int) from (by first|omega| (simp only[List.length_set];omega))).1).symm (fun b30 Wd=>?_)
   refine mT 0 [0] L (fun s _ hZ=>bR hJ.2.1 Wd hZ jk)<|aQ 14 fun qp qv oV=>jp (vs:=[.agg ⟨[zI y5.n,zI y5.l]⟩,.agg ⟨[zI oI.n,zI oI.l]⟩]) [] [] (fun aH hs hZ=>(asm (x:=y5) (y:=oI)))<|eo oV [0]<|zD 3<|zJ 34 ((acM y5 oI) <0) (fun h4=>?_) fun h4=>?_
   ·
    refine zD 9<|ja (j-1) (by omega)<|zD 2<|ja (j-1) (by omega) ?_
    obtain⟨ym,Fe⟩:=zG ys ((j-1).toNat) (by first|omega| (simp only[List.length_set];omega))
    refine pZ (j-1) 2 hJ.2.1 Fe (Int.toNat_of_nonneg (show 0≤(j-1)∧(j-1) <((ys).length:Int) from (by first|omega| (simp only[List.length_set];omega))).1).symm (fun b45 aiL=>?_)
    refine mT 0 [0] L (fun s _ hZ=>bR hJ.2.1 aiL hZ Fe)<|zD 2 ?_
    obtain⟨J0,Fc⟩:=zG ys (j.toNat) (by first|omega| (simp only[List.length_set];omega))
    refine pZ j 2 hJ.2.1 Fc (Int.toNat_of_nonneg (show 0≤j∧j <((ys).length:Int) from (by first|omega| (simp only[List.length_set];omega))).1).symm (fun b49 aiK=>?_)
    refine mT 0 [0] L (fun s _ hZ=>bR hJ.2.1 aiK hZ Fc) ?_
    obtain⟨x51,Fb⟩:=zG ys (j.toNat) (by first|omega| (simp only[List.length_set];omega))
    refine pZ j 2 hJ.2.1 Fb (Int.toNat_of_nonneg (show 0≤j∧j <((ys).length:Int) from (by first|omega| (simp only[List.length_set];omega))).1).symm (fun b51 aiJ=>?_)
    refine aQ 15 fun sq su qR=>MC 0 0 [zI ym.n,zI ym.l] (⟨ym.n,ym.l⟩:aj) hJ.2.1 aiJ Fb rfl rfl (Nat.le_of_ble_eq_true rfl) fun L6 VU=>fJ qR [] ?_
    obtain⟨x52,wO⟩:=zG ((ys.set j.toNat (⟨ym.n,ym.l⟩:aj))) ((j-1).toNat) (by first|omega| (simp only[List.length_set];omega))
    refine pZ (j-1) 2 VU wO (Int.toNat_of_nonneg (show 0≤(j-1)∧(j-1) <(((ys.set j.toNat (⟨ym.n,ym.l⟩:aj))).length:Int) from (by first|omega| (simp only[List.length_set];omega))).1).symm (fun b52 aiI=>?_)
    refine aQ 17 fun AZ A9 BK=>MC 0 0 [zI J0.n,zI J0.l] (⟨J0.n,J0.l⟩:aj) VU aiI wO rfl rfl (Nat.le_of_ble_eq_true rfl) fun L9 VX=>fp BK<|zD 3<|ja (j-1) (by omega)<|zD 2<|bA mr (⟨(j-1),((ys.set j.toNat (⟨ym.n,ym.l⟩:aj)).set ((j-1).toNat) (⟨J0.n,J0.l⟩:aj)),L9⟩) ⟨by dsimp only;omega,VX,(nT Fc Fe).trans hJ.2.2⟩ (by dsimp only;omega) [0] (Sub.refl _)
   refine zD 4<|ja (i+1) (by omega)<|zD 2<|bA bO (⟨(i+1),ys,L⟩) ⟨by dsimp only;omega,hJ.2⟩ (by dsimp only;omega) [0] (Sub.refl _)
  have mI:=h2
  replace mI:=of_decide_eq_false mI
  refine zD 18<|ja (i+1) (by omega)<|zD 2<|bA bO (⟨(i+1),ys,L⟩) ⟨by dsimp only;omega,hJ.2⟩ (by dsimp only;omega) [0] (Sub.refl _)
 refine zD 2<|zR (.tuple ⟨[]⟩) [] [0] L ⟨ys,hI.2.2,hI.2.1⟩
theorem aS4{v:Value}{xs:List aj}{L:Cells}{lim:Int}(ho:ay v 2 79 cM xs L)(hN:xs.length≤12):eg zT 237 [v,zI 0,zI (xs.length:Int),zI lim,.func (.func 184) ⟨[]⟩ ⟨[]⟩] ro L (fun r Y=>PS v xs Y):=by
 refine zC [.l L]<|zD 9<|dV [1,1,0,0] [] (fun(zz:Nat)=>[(0,v),(1,zI 0),(2,zI (xs.length:Int)),(3,zI lim),(4,.func (.func 184) ⟨[]⟩ ⟨[]⟩),(10,.bool true),(11,.bool true)]) (fun zz=>[.l L]) (fun zz=>True) (fun zz=>zz) 0 trivial [0] ?_
 rintro z hI K1 bO rest
 refine zD 5<|ja ((xs.length:Int)-0) (by omega)<|zD 8<|zJ 25 (((xs.length:Int)-0)≤12) (fun h1=>?_) fun h1=>?_
 ·
  refine zD 7<|jc (vs:=[v,zI 0,zI (xs.length:Int),.func (.func 184) ⟨[]⟩ ⟨[]⟩]) [0] (aS6 ho (by omega) (by omega)) ?_
  rintro aCW Y30 ⟨aLf,awI,Df⟩
  refine zD 2<|zR (.tuple ⟨[]⟩) [] [0] Y30 ⟨_,awI,Df⟩
 exfalso;omega
theorem ajP{v:Value}{xs:List aj}{L:Cells}(ho:ay v 2 79 cM xs L)(hN:xs.length≤12):eg zT 210 [v,.func (.func 184) ⟨[]⟩ ⟨[]⟩] ro L (fun r Y=>PS v xs Y):=by
 refine zC [.l L]<|zD 3<|yJ ho<|zD 6<|je (zU (xs.length:Int)) (adW (by omega))<|jp (vs:=[zU (xs.length:Int)]) [] [] (fun aH hs hZ=>(ay3 (by omega)))<|zD 1<|jc (vs:=[v,zI 0,zI (xs.length:Int),zI (abQ xs.length),.func (.func 184) ⟨[]⟩ ⟨[]⟩]) [0] (aS4 ho (by omega)) ?_
 rintro aCX Y13 ⟨aLh,aca,VW⟩
 refine zD 1<|zR (.tuple ⟨[]⟩) [] [0] Y13 ⟨_,aca,VW⟩
theorem aHO{v:Value}{xs:List ar}{L:Cells}(ho:ay v 3 158 cN xs L)(hN:xs.length≤1):eg zT 212 [v,zI 0,zI (xs.length:Int),.func (.func 130) ⟨[]⟩ ⟨[]⟩] ro L (fun r Y=>ay v 3 158 cN xs Y):=by
 refine zC [.l L]<|zD 7<|dV [1,0,0] [] (fun(zz:Nat)=>[(0,v),(1,zI 0),(2,zI (xs.length:Int)),(3,.func (.func 130) ⟨[]⟩ ⟨[]⟩),(8,zI (0+1))]) (fun zz=>[.l L]) (fun zz=>True) (fun zz=>zz) 0 trivial [0] ?_
 rintro z hI K1 bO rest
 refine zD 7<|zJ 14 ((0+1) <(xs.length:Int)) (fun h1=>?_) fun h1=>?_
 ·
  exfalso;omega
 refine zD 2<|zR (.tuple ⟨[]⟩) [] [0] L ho
theorem aHJ{v:Value}{xs:List ar}{L:Cells}{lim:Int}(ho:ay v 3 158 cN xs L)(hN:xs.length≤1):eg zT 182 [v,zI 0,zI (xs.length:Int),zI lim,.func (.func 130) ⟨[]⟩ ⟨[]⟩] ro L (fun r Y=>ay v 3 158 cN xs Y):=by
 refine zC [.l L]<|zD 9<|dV [1,1,0,0] [] (fun(zz:Nat)=>[(0,v),(1,zI 0),(2,zI (xs.length:Int)),(3,zI lim),(4,.func (.func 130) ⟨[]⟩ ⟨[]⟩),(10,.bool true),(11,.bool true)]) (fun zz=>[.l L]) (fun zz=>True) (fun zz=>zz) 0 trivial [0] ?_
 rintro z hI K1 bO rest
 refine zD 5<|ja ((xs.length:Int)-0) (by omega)<|zD 8<|zJ 25 (((xs.length:Int)-0)≤12) (fun h1=>?_) fun h1=>?_
 ·
  refine zD 7<|jc (vs:=[v,zI 0,zI (xs.length:Int),.func (.func 130) ⟨[]⟩ ⟨[]⟩]) [0] (aHO ho (by omega)) ?_
  rintro aCW Y30 Df
  refine zD 2<|zR (.tuple ⟨[]⟩) [] [0] Y30 Df
 exfalso;omega
theorem ay1{v:Value}{xs:List ar}{L:Cells}(ho:ay v 3 158 cN xs L)(hN:xs.length≤1):eg zT 129 [v,.func (.func 130) ⟨[]⟩ ⟨[]⟩] ro L (fun r Y=>ay v 3 158 cN xs Y):=by
 refine zC [.l L]<|zD 3<|yJ ho<|zD 6<|je (zU (xs.length:Int)) (adW (by omega))<|jp (vs:=[zU (xs.length:Int)]) [] [] (fun aH hs hZ=>(ay3 (by omega)))<|zD 1<|jc (vs:=[v,zI 0,zI (xs.length:Int),zI (abQ xs.length),.func (.func 130) ⟨[]⟩ ⟨[]⟩]) [0] (aHJ ho (by omega)) ?_
 rintro aCX Y13 VW
 refine zD 1<|zR (.tuple ⟨[]⟩) [] [0] Y13 VW
theorem ajT{v:Value}{xs:List ar}{L:Cells}(ho:ay v 3 158 cN xs L)(hN:xs.length≤1):eg zT 131 [v] ro L (fun r Y=>v=r∧L=Y):=by
 refine zC [.l L]<|zD 8<|yJ ho<|zD 2<|zJ 8 ((xs.length:Int) <2) (fun h1=>?_) fun h1=>?_
 ·
  refine zD 7<|zR (v) [] [0] L ⟨rfl,rfl⟩
 exfalso;omega
theorem Z3{v:Value}{xs:List ar}(hl:bD ro v 3 cN xs)(hN:xs.length≤1):eg zT 101 [v] ro [] (fun r Y=>ay r 3 158 cN xs Y):=by
 obtain⟨fC,sG,sE,eO,rfl,ui,lP,mP⟩:=hl
 refine zE<|zD 7<|jc (vs:=[.slice fC xs.length eO]) [] (aS9 (show bD _ _ _ _ _ from ⟨fC,sG,sE,eO,rfl,ui,lP,mP⟩) (by first|omega| (simp only[List.length_set,zM];omega))) ?_
 rintro v5 L5 ho5
 obtain⟨va5,vc5,he5⟩:=ho5.form
 subst he5
 refine zD 5<|jc (vs:=[(.slice va5 (xs).length vc5),.func (.func 130) ⟨[]⟩ ⟨[]⟩]) [0] (ay1 ho5 (by omega)) ?_
 rintro rv7 Y7 VU
 refine zD 4<|jc (vs:=[(.slice va5 (xs).length vc5)]) [0] (ajT VU (by omega)) ?_
 rintro _ _ ⟨rfl,rfl⟩
 refine zD 3<|zR ((.slice va5 (xs).length vc5)) [] [0] Y7 VU
theorem MV.put{F:List (ar×Value)}{g:ar→ar}(h:MV Z F g){k:ar}{v:Value}(hv:∀aJ,Knows aJ Z2→bD aJ v 3 cN [g k]):MV (Z++Z2) (mA k v F) g:=by
 have h1:∀x∈mA k v F,x=(k,v)∨x∈F:=fun x hx=>by
  unfold mA at hx
  split at hx
  ·rw[FM] at hx
   obtain⟨i,hi⟩:=List.getElem?_of_mem hx
   rw[List.getElem?_set] at hi
   split at hi
   ·split at hi
    ·cases hi;exact .inl rfl
    cases hi
   exact .inr (zL hi)
  rcases List.mem_append.1 hx with h|h
  ·exact .inr h
  exact .inl (List.mem_singleton.1 h)
 intro aJ hr x hx
 rcases h1 x hx with rfl|hx
 ·exact hv aJ hr.right
 exact h aJ hr.left x hx
theorem Qx[DecidableEq κ]{k x:κ}{v:Value}{F:List (κ×Value)}(h:x=k∨x∈F.map (·.1)):x∈(mA k v F).map (·.1):=by
 unfold mA
 split
 ·rename_i i u hf
  have Ai:=(qV hf).2
  rw[Nat.sub_zero] at Ai
  have hs:((F.set i (k,v)).map (·.1))=F.map (·.1):=by
   rw[List.map_set]
   refine List.ext_getElem? fun j=>?_
   rw[List.getElem?_set]
   split
   ·rename_i hj;subst hj;simp[Ai,(List.getElem?_eq_some_iff.1 Ai).1,(List.getElem?_eq_some_iff.1 Ai).2]
   rfl
  rw[FM,hs]
  rcases h with rfl|h
  ·exact List.mem_map_of_mem (f:=(·.1)) (zL Ai)
  exact h
 rw[List.map_append]
 rcases h with rfl|h
 ·exact List.mem_append_right _ (by simp)
 exact List.mem_append_left _ h
def Seen(es:Array MapEntry)(seen:List Nat)(F:List (ar×Value)):Prop:=∀e∈es.toList,e∈cO es seen∨∃k,e.key=pG k∧k∈F.map (·.1)
theorem Seen.start{es:Array MapEntry}{F:List (ar×Value)}:Seen es [] F:=fun e he=> .inl (by rw[C9];exact he)
theorem Seen.step{es:Array MapEntry}{F0 F:List (ar×Value)}(h:Seen es seen F)(hE:tS pG F0 es ck){e:MapEntry}(he:e∈cO es seen){k:ar}(hk:e.key=pG k){v:Value}:Seen es (seen++[e.born]) (mA k v F):=fun x hx=>by
 rcases h x hx with h1| ⟨q,h1,h2⟩
 ·rcases Vs hE he h1 with rfl|h2
  ·exact .inr ⟨k,hk,Qx (.inl rfl)⟩
  exact .inl h2
 exact .inr ⟨q,h1,Qx (.inr h2)⟩
theorem an8{a b:ar}(h:pG a=pG b):a=b:=by
 rcases a with ⟨x,y,z⟩;rcases b with ⟨d,e,f⟩
 simp only[pG,cN,Value.agg.injEq,Array.mk.injEq,List.cons.injEq,Value.int.injEq] at h
 simp[h.1.2,h.2.1.2,h.2.2.1.2]
theorem Seen.fin{es:Array MapEntry}{F0 F:List (ar×Value)}(h:Seen es seen F)(hl:cO es seen=[])(hE:tS pG F0 es ck){k:ar}(hk:k∈F0.map (·.1)):k∈F.map (·.1):=by
 obtain⟨⟨k',v⟩,h1,rfl⟩:=List.mem_map.1 hk
 have:(pG k',v)∈es.toList.map (fun e=>(e.key,e.val)):=by rw[hE.1];exact List.mem_map_of_mem (f:=fun x:ar×Value=>(pG x.1,x.2)) h1
 obtain⟨e,h2,h3⟩:=List.mem_map.1 this
 simp only[Prod.mk.injEq] at h3
 rcases h e h2 with h4| ⟨q,h4,h5⟩
 ·rw[hl] at h4;cases h4
 have:=an8 (h3.1.symm.trans h4);subst this;exact h5
structure TS(ro:Nat→Option Obj)(r:Nat)(H:List ar)(g:ar→ar)(es:Array MapEntry)(ck:Nat)(F:List (ar×Value)):Prop where
 m:ro r=some (.map es ck)
 e:tS pG F es ck
 k:F.map (·.1)=H
 v:∀x∈F,bD ro x.2 3 cN [g x.1]
theorem Hg{a x:α}(h: [a][j]?=some x):x=a∧j=0:=by
 cases j with
 |zero=>simp at h;exact⟨h.symm,rfl⟩
 |succ j=>simp at h
theorem asj{Cp:Array MapEntry}{F1:List (ar×Value)}{r2 ck2:Nat}{Fw:Array MapEntry}{F2:List (ar×Value)}{H:List ar}{g:ar→ar}(JR:TS ro r1 H id Cp JY F1)(hP2:TS ro r2 H g Fw ck2 F2):eg zT 179 [(.map (some r1)),(.map (some r2))] ro [] (fun r Y=>∃rm F LM Z,r= .map (some rm)∧Y=LM++Z∧j5 rm pG F LM∧(∀h∈H,h∈F.map (·.1))∧MV Z F g):=by
 refine zE<|zD 6<|jmk pG fun GW L11 aie=>zD 6<|jmR JR.m fun r13=>jg 0 [.b r13 (u7 r1 JY [])]<|zD 2<|nY<|dV [1,1,0,1,0,0] [] (fun(zz:(List Nat)×(List (ar×Value))×Cells×Cells)=>[(1,(.map (some r2))),(4,(.map none)),(5,(.map (some GW))),(13,zP r13)]) (fun(zz:(List Nat)×(List (ar×Value))×Cells×Cells)=>[.b r13 (u7 r1 JY zz.1),.l zz.2.2.1,.l zz.2.2.2]) (fun(zz:(List Nat)×(List (ar×Value))×Cells×Cells)=>j5 GW pG zz.2.1 zz.2.2.1∧Seen Cp zz.1 zz.2.1∧MV zz.2.2.2 zz.2.1 g) (fun(zz:(List Nat)×(List (ar×Value))×Cells×Cells)=>(cO Cp zz.1).length) (⟨[],[],L11,[]⟩) ⟨aie,Seen.start,fun _ _ _ h=>(by cases h)⟩ [1,2,0] ?_
 rintro⟨seen,F,LM,Z⟩ hI K1 bO rest
 dsimp only at hI
 refine zD 2<|jmN (it:=r13) (kv:=pG) (seen:=seen) 0 JR.m JR.e (fun P5 v14 Pq aGQ tH aoZ aPt=>?_) (fun aOU=>?_)
 ·
  have hkH:P5∈H:=by rw[←JR.k];exact List.mem_map_of_mem (f:=(·.1)) aGQ
  have hvv:bD ro v14 3 cN [P5]:=JR.v _ aGQ
  obtain⟨NR,qvb,qvo,Cj,rfl,qvk,Q9,Q8⟩:=hvv
  refine jg 0 [.b r13 (u7 r1 JY (seen++[Pq.born]))]<|zD 8<|jmE (it:=r13) 0 JR.m JR.e tH aoZ aPt<|jg 0 [.b r13 (u7 r1 JY (seen++[Pq.born]))]<|zD 2<|jn fun b6=>jd 15 [0]<|nY<|dV [1,1,0,1,0,0,1,1,0,1,1,0,1,0,0] [K1] (fun(zz:Nat×Value×Cells)=>[(1,(.map (some r2))),(4,(.map none)),(5,(.map (some GW))),(6,zP b6),(8,zz.2.1),(13,zP r13),(19,.slice NR ([P5].length) Cj),(20,zI ([P5].length:Int)),(21,zI (zz.1:Int))]) (fun zz=>[.l zz.2.2,.b b6 (.cells ⟨[zI P5.h,zI P5.n,zI P5.l]⟩ 158 (0,0)),.b r13 (u7 r1 JY (seen++[Pq.born])),.l LM,.l Z]) (fun zz=>zz.1≤[P5].length∧ay zz.2.1 3 158 cN ([g P5].take zz.1) zz.2.2) (fun zz=>[P5].length-zz.1) (⟨0,zS,[]⟩) ⟨by simp,ay.nil _ _ _⟩ (zN 0 5) ?_
  rintro⟨i,vO,LO⟩ hJ K2 mr rest
  dsimp only at hJ
  have Ua: [P5].length=1:=rfl
  refine zD 5<|zJ 22 ((i:Int) <([P5].length:Int)) (fun h1=>?_) fun h1=>?_
  ·
   refine zD 6 ?_
   obtain⟨vI,tD⟩:=zG ([P5]) i
   refine iz Cj 3 Q9 tD<|jl 0 (Q8 _ _ tD)<|jn fun lL=>jd 2 [0] ?_
   obtain⟨hxe,hj0⟩:=Hg tD
   refine jd 4 [0]<|jlu (kv:=pG) (F:=F2) (r:=r2) (K:=158) vI (zS) false [] [] Ex (fun s he _=>⟨_,_,he _ _ (.inl hP2.m),hP2.e⟩) ?_
   obtain⟨w28,aPe,aw0⟩:=Zd (k:=vI) (F:=F2) (by rw[hP2.k,hxe];exact hkH)
   have hww:bD ro w28 3 cN [g vI]:=hP2.v _ aw0
   obtain⟨U2,qwb,qwo,NQ,rfl,qwk,qwh,qwl⟩:=hww
   refine jw 28 (.slice U2 ([g vI].length) NQ) (show R3 (zS) false vI F2=_ from by simp only[R3,aPe];rfl) ?_
   refine iC (sz:=3) (ps:=([g P5].take i)) (qs:=[g vI]) (enc:=cN) (w:= .slice U2 ([g vI].length) NQ) [1] [] [] (hJ.2) (fun s he _=>⟨U2,qwb,qwo,NQ,rfl,qwh,fun i p hp=>(qwl i p hp).ext he⟩) (fun p _=>ai rfl) (by simp only[List.length_take,List.length_cons,List.length_nil];omega) (fun v29 L29 H2=>?_)
   obtain⟨aej,ad9,aix⟩:=H2.form
   subst aix
   refine zD 3<|ja ((i:Int)+1) (by omega)<|zD 2<|bA mr (⟨i+1,(.slice aej ((([g P5].take i)++[g vI])).length ad9),L29⟩) ⟨by dsimp only;omega,by have:=H2;rw[hj0] at this ⊢;rw[hxe] at this;exact this⟩ (by dsimp only;omega) [0,2,3,4,5] (Sub.refl _)
  refine jd 6 [1]<|aQ 3 fun qp qv oV=>Sd (vs:=[vO]) [] [0] LO (fun aH hs hZ=>Z3 (hJ.2.jL hZ) (by simp only[List.length_take,List.length_cons,List.length_nil];omega)) ?_
  rintro v34 L34 aQa
  refine eo oV (zN 1 5)<|aQ 4 fun sq su qR=>jmu (kv:=pG) (F:=F) (r:=GW) (K:=158) 4 P5 (v34) Ex hI.1 fun Lm4 hm4=>fp qR<|zD 1<|Ki bO (⟨(seen++[Pq.born]),_,Lm4,Z++L34⟩) ⟨hm4,hI.2.1.step JR.e tH aoZ,hI.2.2.put fun aJ hk=>(by have:=aQa;rw[show ([g P5].take i)=[g P5] from List.take_of_length_le (by simp;omega)] at this;exact this.jL hk)⟩ (Hw tH) [[4],[0],[5,1]] (Sub.refl _)
 refine jg 0 [.b r13 (u7 r1 JY seen)]<|zD 11<|zR ((.map (some GW))) [] [1,2] (LM++Z) ⟨GW,F,LM,Z,rfl,rfl,hI.1,fun h hh=>hI.2.1.fin aOU JR.e (by rw[JR.k];exact hh),hI.2.2⟩
theorem agu{kv:κ→Value}{F:List (κ×Value)}{es:Array MapEntry}(h:tS kv F es ck):es.toList.length=F.length:=by
 have:=congrArg List.length h.1
 simpa using this
theorem ajV{Cp:Array MapEntry}{F1:List (ar×Value)}{H:List ar}{g:ar→ar}(JR:TS ro r1 H g Cp JY F1)(hn:H.length≤8)(hS:∀x∈F1,(g x.1).h=0∨(g x.1).h=1):eg zT 178 [(.map (some r1)),zI 2] ro [] (fun r Y=>∃a n c,r= .agg ⟨[.slice a n c]⟩):=by
 refine zE<|zD 2<|jn fun b4=>zD 4<|jmS (E:=80) (z:= zS) fun AX=>jg 0 [.b AX (.cells ⟨[zS,zS]⟩ 80 (0,0))]<|zD 1<|jn fun b5=>jd 6 [0]<|jmR JR.m fun r16=>jg 0 [.b r16 (u7 r1 JY [])]<|zD 2<|nY<|nY<|dV [1,1,0,1,0,0] [] (fun(zz:(List Nat)×Value×Cells×(List aj)×Value×Cells×(List aj))=>[(4,zP b4),(5,zP b5),(16,zP r16)]) (fun zz=>[.b r16 (u7 r1 JY zz.1),.b AX (.cells ⟨[zz.2.1,zz.2.2.2.2.1]⟩ 80 (0,0)),.l zz.2.2.1,.l zz.2.2.2.2.2.1,.b b5 (.cells ⟨[.slice (some ⟨AX,0,none⟩) 2 2]⟩ 27 (0,0)),.b b4 (.cells ⟨[zS]⟩ 27 (0,0))]) (fun zz=>zz.2.2.2.1.length+zz.2.2.2.2.2.2.length+(cO Cp zz.1).length≤8∧ay zz.2.1 2 79 cM zz.2.2.2.1 zz.2.2.1∧ay zz.2.2.2.2.1 2 79 cM zz.2.2.2.2.2.2 zz.2.2.2.2.2.1) (fun zz=>(cO Cp zz.1).length) (⟨[],zS,[],[],zS,[],[]⟩) ⟨by rw[C9,agu JR.e];have:=congrArg List.length JR.k;simp at this ⊢;omega,ay.nil _ _ _,ay.nil _ _ _⟩ [2,4,1,0,3,5] ?_
 rintro⟨seen,w0,L0,p0,w1,L1,p1⟩ hI K1 bO rest
 dsimp only at hI
 refine zD 2<|jmN (it:=r16) (kv:=pG) (seen:=seen) 0 JR.m JR.e (fun k17 v17 e17 ao3 Ku aci aPr=>?_) (fun bah=>?_)
 ·
  have hvv:bD ro v17 3 cN [g k17]:=JR.v _ ao3
  obtain⟨NR,qvb,qvo,Cj,rfl,qvk,Q9,Q8⟩:=hvv
  have hsg:(g k17).h=0∨(g k17).h=1:=hS _ ao3
  have cP:=Hw Ku
  refine jg 0 [.b r16 (u7 r1 JY (seen++[e17.born]))]<|zD 8<|jmE (it:=r16) 0 JR.m JR.e Ku aci aPr<|jg 0 [.b r16 (u7 r1 JY (seen++[e17.born]))]<|zD 10<|dV [1,1,0,1,0,0,1,1,0,1,1,0,0] [K1] (fun(zz:Nat×Value×Cells×(List aj)×Value×Cells×(List aj))=>[(4,zP b4),(5,zP b5),(16,zP r16),(21,.slice NR ([g k17].length) Cj),(22,zI ([g k17].length:Int)),(23,zI (zz.1:Int))]) (fun zz=>[.b r16 (u7 r1 JY (seen++[e17.born])),.b AX (.cells ⟨[zz.2.1,zz.2.2.2.2.1]⟩ 80 (0,0)),.l zz.2.2.1,.l zz.2.2.2.2.2.1,.b b5 (.cells ⟨[.slice (some ⟨AX,0,none⟩) 2 2]⟩ 27 (0,0)),.b b4 (.cells ⟨[zS]⟩ 27 (0,0))]) (fun zz=>(zz.1≤1∧zz.2.2.2.1.length+zz.2.2.2.2.2.2.length+(cO Cp (seen++[e17.born])).length+(1-zz.1)≤8)∧ay zz.2.1 2 79 cM zz.2.2.2.1 zz.2.2.1∧ay zz.2.2.2.2.1 2 79 cM zz.2.2.2.2.2.2 zz.2.2.2.2.2.1) (fun zz=>1-zz.1) (⟨0,w0,L0,p0,w1,L1,p1⟩) ⟨by dsimp only;omega,hI.2⟩ (zN 0 6) ?_
  rintro⟨i,w0,L0,p0,w1,L1,p1⟩ hJ K2 mr rest
  dsimp only at hJ
  have Ua: [g k17].length=1:=rfl
  refine zD 5<|zJ 24 ((i:Int) <([g k17].length:Int)) (fun h1=>?_) fun h1=>?_
  ·
   refine zD 6 ?_
   obtain⟨y5,lB⟩:=zG ([g k17]) i
   refine iz Cj 3 Q9 lB<|jl 0 (Q8 _ _ lB) ?_
   obtain⟨hxe,hi0⟩:=Hg lB;rw[←hxe] at hsg;obtain⟨xh,xn,xl⟩:=y5;dsimp only at hsg;rcases hsg with rfl|rfl
   ·
    refine jn fun b9=>jd 11 [0,5,0,5,0]<|jd 4 [2,0]<|aQ 12 fun qp qv oV=>jn fun b39=>eo oV (zN 1 7)<|aQ 13 fun sq su qR=>iC (sz:=2) (ps:=p0) (qs:=[(⟨xn,xl⟩:aj)]) (enc:=cM) (w:= .slice (some ⟨b39,0,none⟩) 1 1) [4] [0] [(b39,.cells ⟨([(⟨xn,xl⟩:aj)].map cM).flatten⟩ 79 (0,0))] (hJ.2.1) (fun s _ hZ=>bL [(⟨xn,xl⟩:aj)] (hZ _ (.head _)) (by intro p hp;rfl)) (fun p _=>ai rfl) (by simp only[List.length_cons,List.length_nil];omega) (fun v40 L40 HZ=>?_)
    obtain⟨atC,atn,axJ⟩:=HZ.form
    subst axJ
    refine fJ qR [[2],[6],[2],[6]]<|zD 1<|aQ 15 fun AZ A9 BK=>jd 1 [4]<|fp BK<|zD 2<|ja ((i:Int)+1) (by omega)<|zD 2<|bA mr (⟨i+1,(.slice atC ((p0++[(⟨xn,xl⟩:aj)])).length atn),L40,(p0++[(⟨xn,xl⟩:aj)]),w1,L1,p1⟩) ⟨by simp only[zM];omega,HZ,hJ.2.2⟩ (by dsimp only;omega) [3,4,0,5,6,7] (Sub.refl _)
   refine jn fun b9=>jd 11 [0,5,0,5,0]<|jd 4 [2,0]<|aQ 12 fun aaM aaY Wm=>jn fun b39=>eo Wm (zN 1 7)<|aQ 13 fun amy amR Wl=>iC (sz:=2) (ps:=p1) (qs:=[(⟨xn,xl⟩:aj)]) (enc:=cM) (w:= .slice (some ⟨b39,0,none⟩) 1 1) [5] [0] [(b39,.cells ⟨([(⟨xn,xl⟩:aj)].map cM).flatten⟩ 79 (0,0))] (hJ.2.2) (fun s _ hZ=>bL [(⟨xn,xl⟩:aj)] (hZ _ (.head _)) (by intro p hp;rfl)) (fun p _=>ai rfl) (by simp only[List.length_cons,List.length_nil];omega) (fun v40 L40 HZ=>?_)
   obtain⟨atC,atn,axJ⟩:=HZ.form
   subst axJ
   refine fJ Wl [[2],[6],[2],[6]]<|zD 1<|aQ 15 fun aaL aaX hL8=>jd 1 [4]<|fp hL8<|zD 2<|ja ((i:Int)+1) (by omega)<|zD 2<|bA mr (⟨i+1,w0,L0,p0,(.slice atC ((p1++[(⟨xn,xl⟩:aj)])).length atn),L40,(p1++[(⟨xn,xl⟩:aj)])⟩) ⟨by simp only[zM];omega,hJ.2.1,HZ⟩ (by dsimp only;omega) [3,4,5,0,6,7] (Sub.refl _)
  refine zD 2<|bA bO (⟨(seen++[e17.born]),w0,L0,p0,w1,L1,p1⟩) ⟨by dsimp only;omega,hJ.2⟩ cP (zN 0 6) (Sub.refl _)
 refine jg 0 [.b r16 (u7 r1 JY seen)]<|jd 14 [4]<|dV [1,1,1,0,1,0,0] [] (fun(zz:Nat×Value×Cells×(List aj)×Value×Cells×(List aj))=>[(4,zP b4),(5,zP b5),(44,.slice (some ⟨AX,0,none⟩) 2 2),(45,zI 2),(46,zI (zz.1:Int))]) (fun zz=>[.b AX (.cells ⟨[zz.2.1,zz.2.2.2.2.1]⟩ 80 (0,0)),.l zz.2.2.1,.l zz.2.2.2.2.2.1,.b b5 (.cells ⟨[.slice (some ⟨AX,0,none⟩) 2 2]⟩ 27 (0,0)),.b b4 (.cells ⟨[zS]⟩ 27 (0,0))]) (fun zz=>(zz.1≤2∧zz.2.2.2.1.length≤8∧zz.2.2.2.2.2.2.length≤8)∧ay zz.2.1 2 79 cM zz.2.2.2.1 zz.2.2.1∧ay zz.2.2.2.2.1 2 79 cM zz.2.2.2.2.2.2 zz.2.2.2.2.2.1) (fun zz=>2-zz.1) (⟨0,w0,L0,p0,w1,L1,p1⟩) ⟨by dsimp only;omega,hI.2⟩ (zN 1 5) ?_
 rintro⟨k,w0,L0,p0,w1,L1,p1⟩ hQ K9 hK9 rest
 dsimp only at hQ
 refine zD 5<|zJ 47 ((k:Int) <2) (fun h8=>?_) fun h8=>?_
 ·
  refine zD 6 ?_
  rcases(show k=0∨k=1 by omega) with hk0|hk0
  ·
   refine jw 46 (zI 0) (show Value.int .i64 (k:Int)= zI 0 by rw[hk0];rfl) ?_
   refine jd 6 [0]<|jc (vs:=[w0,.func (.func 184) ⟨[]⟩ ⟨[]⟩]) [1] (ajP hQ.2.1 (by omega)) ?_
   rintro aMK Y51 ⟨asT,awE,awO⟩
   refine zD 5 ?_
   have hle:=awE.length_eq
   exact bA hK9 (⟨1,w0,Y51,asT,w1,L1,p1⟩) ⟨by dsimp only;omega,awO,hQ.2.2⟩ (by dsimp only;omega) [1,0,2,3,4] (Sub.refl _)
  refine jw 46 (zI 1) (show Value.int .i64 (k:Int)= zI 1 by rw[hk0];rfl) ?_
  refine jd 6 [0]<|jc (vs:=[w1,.func (.func 184) ⟨[]⟩ ⟨[]⟩]) [2] (ajP hQ.2.2 (by omega)) ?_
  rintro aMK Y51 ⟨asT,awE,awO⟩
  refine zD 5 ?_
  have hle:=awE.length_eq
  exact bA hK9 (⟨2,w0,L0,p0,w1,Y51,asT⟩) ⟨by dsimp only;omega,hQ.2.1,awO⟩ (by dsimp only;omega) [1,2,0,3,4] (Sub.refl _)
 refine jd 8 [3,4]<|zR (.agg ⟨[.slice (some ⟨AX,0,none⟩) 2 2]⟩) [4] [] [] ⟨_,_,_,rfl⟩
structure XF where
 a:Option Addr
 n:Nat
 c:Nat
 ea:Option Addr
 en:Nat
 ec:Nat
 r:Nat
abbrev akx(t:XF):List Value:=[.slice t.a t.n t.c,.slice t.ea t.en t.ec,.map (some t.r)]
structure TrD where
 ways:List Int
 g:ar→ar
def aUi(ro:Nat→Option Obj)(r:Nat)(H:List ar)(g:ar→ar):Prop:=∃es ck F,ro r=some (.map es ck)∧tS pG F es ck∧(∀h∈H,h∈F.map (·.1))∧∀y∈F,bD ro y.2 3 cN [g y.1]
def TrR(H:List ar)(ro:Nat→Option Obj)(t:XF)(x:TrD):Prop:=bD ro (.slice t.a t.n t.c) 1 cB x.ways∧aUi ro t.r H x.g
def TrO(H:List ar)(LL:Cells)(t:XF)(x:TrD):Prop:=∀aJ,Knows aJ LL→TrR H aJ t x
abbrev apO(H:List ar)(L:List TrD):(Nat→Option Obj)→Nat→List Value→Cells→Prop:=fun _ k vs LL=>∃x t,L[k]?=some x∧vs=[.agg ⟨akx t⟩]∧TrO H LL t x
def atO(S:List (List aj))(l:List aE)(i:Nat):TrD:=⟨[(i:Int)],match l[i]? with
 |some c=>zw S c
 |none=>id⟩
def dk(S:List (List aj)):List (List aE)→List TrD
 | []=>[⟨[],id⟩]
 |l::_=>(List.range l.length).map (atO S l)
theorem KW{S:List (List aj)}{l:List aE}{c:aE}(h:l[i]?=some c):(dk S [l])[i]?=some ⟨[(i:Int)],zw S c⟩:=by
 have hi:=(List.getElem?_eq_some_iff.1 h).1
 simp only[dk,List.getElem?_map,List.getElem?_range hi,Option.map_some,atO,h]
structure yY(ways:List (List aE)):Prop where
 one:ways.length≤1
 ok:∀l∈ways,(1≤l.length∧l.length≤3)∧∀c∈l,iO c
theorem aIm{c:aE}(h:iO c):1≤c.k∧c.k≤7:=by
 simp only[iO,List.mem_cons,List.not_mem_nil,or_false] at h
 rcases h with rfl|rfl|rfl|rfl|rfl<;>simp
theorem asi{x:ar}:∀(u:List (ar×ar)) (y:ar),u.foldl (fun y p=>if x=p.1 then p.2 else y) y=y∨∃p∈u,u.foldl (fun y p=>if x=p.1 then p.2 else y) y=p.2
 | [],y=> .inl rfl
 |p::u,y=>by
  simp only[List.foldl_cons]
  rcases asi (x:=x) u (if x=p.1 then p.2 else y) with h| ⟨q,hq,h⟩
  ·rw[h]
   split
   ·exact .inr ⟨p,by simp,rfl⟩
   exact .inl rfl
  exact .inr ⟨q,by simp[hq],h⟩
theorem ay0{u:List (ar×ar)}{x:ar}:gU u x=x∨∃p∈u,gU u x=p.2:=asi u x
theorem agk{S:List (List aj)}{c:aE}(hc:iO c){x:ar}(hx:x.h=0∨x.h=1):(zw S c x).h=0∨(zw S c x).h=1:=by
 rcases ay0 (u:=aze S c) (x:=x) with h| ⟨p,hp,h⟩
 ·rw[zw,h];exact hx
 rw[zw,h]
 simp only[iO,List.mem_cons,List.not_mem_nil,or_false] at hc
 rcases hc with rfl|rfl|rfl|rfl|rfl<;>simp[aze,aes,Lg,MD,J6,mQ] at hp
 ·obtain⟨_,_,_,_,_,rfl⟩:=hp;exact .inl rfl
 ·obtain⟨_,_,rfl⟩:=hp;exact .inl rfl
 ·obtain⟨_,_,_,_,_,rfl⟩:=hp;exact .inr rfl
 ·obtain⟨_,_,rfl⟩:=hp;exact .inr rfl
 obtain⟨_,_,rfl⟩:=hp;exact .inl rfl
theorem Su{S:List (List aj)}(hO:eS S){x:ar}(hx:x∈bM S):x.h=0∨x.h=1:=by
 obtain⟨j,l,p,h1,_,_,rfl⟩:=FT.1 hx
 have:=hO.two
 simp only[mQ];omega
theorem TS.up{r:Nat}{H:List ar}{g:ar→ar}{es:Array MapEntry}{F:List (ar×Value)}(h:TS ro r H g es ck F)(hs:Sub ro aJ):TS aJ r H g es ck F:=⟨hs _ _ h.m,h.e,h.k,fun x hx=>(h.v x hx).up hs⟩
theorem aS7{v:Value}{S:List (List aj)}{c:aE}(hc:iO c)(hS:da ro v S)(hO:eS S):eg zT 176 [.agg ⟨[v]⟩,.agg ⟨ju c⟩] ro [] (fun r Y=>∃rm F LM Z,r= .tuple ⟨[.map (some rm),zI 0]⟩∧Y=LM++Z∧j5 rm pG F LM∧F.map (·.1)=bM S∧MV Z F (zw S c)):=by
 simp only[iO,List.mem_cons,List.not_mem_nil,or_false] at hc
 rcases hc with rfl|rfl|rfl|rfl|rfl
 ·exact aHW hS hO
 ·exact aHV hS hO
 ·exact aHU hS hO
 ·exact aHT hS hO
 exact aHS hS hO
def KN(ro:Nat→Option Obj)(b:Nat)(S:List (List aj))(ways:List (List aE)):Prop:=∃vS vT vH fa fc,ro b=some (.cells ⟨[vS,vT,.slice fa 0 fc,vH]⟩ 195 (0,0))∧da ro vS S∧nj ro vT ways∧bD ro vH 3 cN (bM S)
theorem KN.up{S:List (List aj)}(h:KN ro b S ways)(hs:Sub ro aJ):KN aJ b S ways:=by
 obtain⟨vS,vT,vH,fa,fc,h1,h2,h3,h4⟩:=h
 exact⟨vS,vT,vH,fa,fc,hs _ _ h1,h2.up hs,h3.up hs,h4.up hs⟩
theorem ay6{fa:Option Addr}{S:List (List aj)}(hS:da ro vS S)(hO:eS S)(hT:nj ro vT ways)(hW:yY ways):eg zT 126 [.agg ⟨[vS,vT,.slice fa 0 fc]⟩] ro [] (fun r Y=>∃b vH LH,r= .tuple ⟨[zP b,zI 0]⟩∧Y=(b,.cells ⟨[vS,vT,.slice fa 0 fc,vH]⟩ 195 (0,0))::LH∧ay vH 3 158 cN (bM S) LH):=by
 have yO:=hS
 obtain⟨ij,hs,fw⟩:=hS
 obtain⟨mB,U5,U3,lq,rfl,U4,NW,NU⟩:=hs
 obtain⟨iS,ht,e8⟩:=id hT
 obtain⟨dX,AK,AI,dB,rfl,AJ,sD,sC⟩:=ht
 have JK:=fw.len
 have Fj:=e8.len
 have Ko:=hO.two
 have BF:=hW.one
 have P2:∀(i:Nat) (p:dj),([]:List dj)[i]?=some p→cE ⟨ro,[]⟩ 0 (0+i*6) 6 (mZ p):=fun _ _ h=>oQ h
 refine zE<|zD 2<|jn fun b1=>jd 8 [0]<|jp (vs:=[.agg ⟨[.slice mB ij.length lq]⟩]) [] [] (fun aH hs hZ=>ay5 (yO.up hs) hO)<|jd 17 [0]<|zJ 21 ((iS.length:Int)>3) (fun h1=>?_) fun h1=>?_
 ·
  exfalso;omega
 refine jd 11 [0]<|dV [1,1,1,0,1,0,0] [] (fun(zz:Nat)=>[(1,zP b1),(23,.slice dX iS.length dB),(24,zI (iS.length:Int)),(25,zI (zz:Int))]) (fun zz=>[.b b1 (.cells ⟨[.slice mB ij.length lq,.slice dX iS.length dB,.slice fa 0 fc]⟩ 31 (0,0))]) (fun zz=>zz≤iS.length) (fun zz=>iS.length-zz) 0 (by omega) [0] ?_
 rintro k hI K1 bO rest
 refine zD 5<|zJ 26 ((k:Int) <(iS.length:Int)) (fun h2=>?_) fun h2=>?_
 ·
  refine zD 6 ?_
  obtain⟨x27,Km⟩:=zG iS k
  refine iz dB 1 sD Km ?_
  obtain⟨l28,aQE,SX⟩:=e8.get Km
  obtain aw0:=hW.ok _ (zL aQE)
  obtain⟨aDF,aZk,aZi,auN,rfl,aZj,aNi,aNh⟩:=SX
  refine jl 0 (sC _ _ Km)<|jn fun b6=>jd 10 [0,0]<|zJ 32 ((l28.length:Int)=0) (fun h3=>?_) fun h3=>?_
  ·
   exfalso;omega
  refine jd 10 [0]<|zJ 36 ((l28.length:Int)>3) (fun h4=>?_) fun h4=>?_
  ·
   exfalso;omega
  refine jd 10 [0]<|dV [1,1,1,0,1,0,0,1,1,0,0,1,1,1,1,0,0] [K1] (fun(zz:Nat)=>[(1,zP b1),(23,.slice dX iS.length dB),(24,zI (iS.length:Int)),(25,zI (k:Int)),(38,.slice aDF l28.length auN),(39,zI (l28.length:Int)),(40,zI (zz:Int))]) (fun zz=>[.b b6 (.cells ⟨[.slice aDF l28.length auN]⟩ 87 (0,0)),.b b1 (.cells ⟨[.slice mB ij.length lq,.slice dX iS.length dB,.slice fa 0 fc]⟩ 31 (0,0))]) (fun zz=>zz≤l28.length) (fun zz=>l28.length-zz) 0 (by omega) [0,1] ?_
  rintro i hJ K2 mr rest
  refine zD 5<|zJ 41 ((i:Int) <(l28.length:Int)) (fun h5=>?_) fun h5=>?_
  ·
   refine zD 6 ?_
   obtain⟨x42,HL⟩:=zG l28 i
   refine iz auN 7 aNi HL<|jl 0 (aNh _ _ HL)<|jn fun b8=>jd 3 [0] ?_
   have ZO:=aIm (aw0.2 _ (zL HL))
   refine jd 3 [0]<|jp (vs:=[zI x42.k,zI 1,zI 7]) [] [] (fun aH hs hZ=>BO)<|zD 2<|js 47 (!(iL x42.k 1 7)) (fun h6=>?_) (fun h6=>?_)
   ·
    try simp only[zB] at h6
    exfalso;simp only[iL,Bool.and_eq_false_iff,decide_eq_false_iff_not] at h6;omega
   try simp only[zB] at h6
   refine zD 3<|ja ((i:Int)+1) (by omega)<|zD 2<|bA mr (i+1) (by omega) (by omega) [1,2] (Sub.refl _)
  refine zD 3<|ja ((k:Int)+1) (by omega)<|zD 2<|bA bO (k+1) (by omega) (by omega) [1] (Sub.refl _)
 refine jd 17 [0,0,0]<|aQ 3 fun qp qv oV=>jc (vs:=[.agg ⟨[.slice mB ij.length lq]⟩]) [] (Z5 yO hO) ?_
 rintro v57 L57 aoN
 obtain⟨amK,amI,aiw⟩:=aoN.form
 subst aiw
 refine eo oV [1]<|zD 1<|aQ 5 fun sq su qR=>jn fun b59=>eo qR [1,2]<|jd 11 [2]<|dV [1,1,1,1,1,1,0,1,0,0] [] (fun(zz:Nat)=>[(1,zP b1),(9,zP b59),(61,.slice fa 0 fc),(62,zI 0),(63,zI 0)]) (fun zz=>[.b b59 (.cells ⟨[.slice mB ij.length lq,.slice dX iS.length dB,.slice fa 0 fc,(.slice amK (bM S).length amI)]⟩ 195 (0,0)),.l L57,.b b1 (.cells ⟨[.slice mB ij.length lq,.slice dX iS.length dB,.slice fa 0 fc]⟩ 31 (0,0))]) (fun zz=>True) (fun zz=>zz) 0 trivial [0,1,2] ?_
 rintro z hQ K5 hK5 rest
 refine zD 14<|zR (.tuple ⟨[zP b59,zI 0]⟩) [] [0,1] ((b59,.cells ⟨[.slice mB ij.length lq,.slice dX iS.length dB,.slice fa 0 fc,(.slice amK (bM S).length amI)]⟩ 195 (0,0))::L57) ⟨_,_,_,rfl,rfl,aoN⟩
structure adf(ro:Nat→Option Obj)(bl b b1 b2 b3:Nat):Prop where
 t:ro b1=some (.cells ⟨[zP b]⟩ 190 (0,0))
 y:ro b2=some (.cells ⟨[.func (.yield bl) #[] #[]]⟩ 269 (0,0))
 g:ro b3=some (.cells ⟨[.func (.func 174) ⟨[]⟩ ⟨[zP b1,zP b2,zP b3]⟩]⟩ 269 (0,0))
theorem adf.up(h:adf ro bl b b1 b2 b3)(hs:Sub ro aJ):adf aJ bl b b1 b2 b3:=⟨hs _ _ h.t,hs _ _ h.y,hs _ _ h.g⟩
theorem aHQ{t:XF}{S:List (List aj)}(JQ:KN ro b S ways):dK zT 175 [zP b,.agg ⟨[.slice t.a t.n t.c,.slice t.ea t.en t.ec,(.map (some t.r))]⟩] ro (.bool true):=by
 obtain⟨vS,vT,vH,fa,fc,gb,hS,hT,hHs⟩:=JQ
 have yO:=hS
 obtain⟨ij,hs,fw⟩:=hS
 obtain⟨mB,U5,U3,lq,rfl,U4,NW,NU⟩:=hs
 obtain⟨iS,ht,e8⟩:=id hT
 obtain⟨dX,AK,AI,dB,rfl,AJ,sD,sC⟩:=ht
 have JK:=fw.len
 have Fj:=e8.len
 have P2:∀(i:Nat) (p:dj),([]:List dj)[i]?=some p→cE ⟨ro,[]⟩ 0 (0+i*6) 6 (mZ p):=fun _ _ h=>oQ h
 refine zE<|zD 2<|jn fun b3=>zD 9<|jl (b:=b) (off:=0) (m:=4) (vs:=[.slice mB ij.length lq,.slice dX iS.length dB,.slice fa 0 fc,vH]) 2 ⟨_,_,_,.inl gb,rfl⟩<|zD 4<|dV [1,0,1,0,0] [] (fun(zz:Nat)=>[(3,zP b3),(11,.slice fa 0 fc),(12,zI 0),(13,zI 0)]) (fun zz=>[.b b3 (.cells ⟨[.slice t.a t.n t.c,.slice t.ea t.en t.ec,(.map (some t.r))]⟩ 199 (0,0))]) (fun zz=>True) (fun zz=>zz) 0 trivial [0] ?_
 rintro z hI K1 bO rest
 refine zD 12<|zX (.bool true) ⟨rfl,rfl⟩
theorem ajO:eg zT 127 [zP b] ro [] (fun r Y=>∃b1,r= .func (.func 173) ⟨[]⟩ ⟨[zP b1]⟩∧Y=[(b1,.cells ⟨[zP b]⟩ 190 (0,0))]):=by
 refine zE<|zD 2<|jn fun b1=>zD 8<|zR (.func (.func 173) ⟨[]⟩ ⟨[zP b1]⟩) [] [0] [(b1,.cells ⟨[zP b]⟩ 190 (0,0))] ⟨_,rfl,rfl⟩
theorem ajQ{S:List (List aj)}{L:List TrD}{Inv:Nat→Cells→Prop}{t:XF}{x:TrD}{LL:Cells}(JQ:KN ro b S ways)(hC:adf ro bl b b1 b2 b3)(hn:t.n=ways.length)(hx:L[k]?=some x) (hR:TrO (bM S) LL t x) (hB:Inv k B) (hy:YOK zT bl ro L.length (apO (bM S) L) Inv Stop):eg zT 174 [.agg ⟨[.slice t.a t.n t.c,.slice t.ea t.en t.ec,(.map (some t.r))]⟩,zP b1,zP b2,zP b3] ro (LL++B) (fun r Y=>∃c,r= .bool c∧(c=true→Inv (k+1) Y)∧(c=false→Stop Y)):=by
 have api:=JQ
 obtain⟨vS,vT,vH,fa,fc,gb,hS,hT,hHs⟩:=JQ
 have yO:=hS
 obtain⟨ij,hs,fw⟩:=hS
 obtain⟨mB,U5,U3,lq,rfl,U4,NW,NU⟩:=hs
 obtain⟨iS,ht,e8⟩:=id hT
 obtain⟨dX,AK,AI,dB,rfl,AJ,sD,sC⟩:=ht
 have JK:=fw.len
 have Fj:=e8.len
 have P2:∀(i:Nat) (p:dj),([]:List dj)[i]?=some p→cE ⟨ro,[]⟩ 0 (0+i*6) 6 (mZ p):=fun _ _ h=>oQ h
 refine zC [.l LL,.l B]<|zD 2<|jn fun b4=>jd 13 [0]<|jl (b:=b1) (off:=0) (m:=1) (vs:=[zP b]) 0 ⟨_,_,_,.inl hC.t,rfl⟩<|zD 3<|jl (b:=b) (off:=0) (m:=4) (vs:=[.slice mB ij.length lq,.slice dX iS.length dB,.slice fa 0 fc,vH]) 1 ⟨_,_,_,.inl gb,rfl⟩<|zD 3<|zJ 21 ((t.n:Int)=(iS.length:Int)) (fun h1=>?_) fun h1=>?_
 ·
  refine zD 3<|jl (b:=b1) (off:=0) (m:=1) (vs:=[zP b]) 0 ⟨_,_,_,.inl hC.t,rfl⟩<|jd 1 [0]<|jp (vs:=[zP b,.agg ⟨[.slice t.a t.n t.c,.slice t.ea t.en t.ec,(.map (some t.r))]⟩]) [] [] (fun aH hs hZ=>aHQ (t:=t) (api.up hs))<|zD 2<|jl (b:=b2) (off:=0) (m:=1) (vs:=[(.func (.yield bl) #[] #[])]) 0 ⟨_,_,_,.inl hC.y,rfl⟩<|jd 1 [0]<|jyc [1,2] (hy k [.agg ⟨[.slice t.a t.n t.c,.slice t.ea t.en t.ec,(.map (some t.r))]⟩] LL B ro (List.getElem?_eq_some_iff.1 hx).1 ⟨x,t,hx,rfl,hR⟩ hB (Sub.refl _)) (Sub.refl _) ?_
  intro v29 Y29 aO3
  obtain⟨c29,rfl,aRB,aRp⟩:=yb aO3
  refine zD 4<|zR (.bool c29) [] [0] Y29 ⟨_,rfl,aRB,aRp⟩
 exfalso;omega
theorem aS3{S:List (List aj)}{l:List aE}{Inv:Nat→Cells→Prop}{ea:Option Addr}{r0:Nat}{es0:Array MapEntry}{F0:List (ar×Value)}(JQ:KN ro b S [l])(hO:eS S)(hW:yY [l])(hC:adf ro bl b b1 b2 b3)(hE:∀aJ,Knows aJ LE→da aJ (.slice ea en ec) S)(hE0:tS pG F0 es0 ck0)(hk0:F0.map (·.1)=bM S)(hM0:MV Z F0 id)(hB:Inv 0 B)(hy:YOK zT bl ro (dk S [l]).length (apO (bM S) (dk S [l])) Inv Stop):eg zT 174 [.agg ⟨[zS,.slice ea en ec,(.map (some r0))]⟩,zP b1,zP b2,zP b3] ro (LE++(r0,.map es0 ck0)::(Z++B)) (fun r Y=>∃c,r= .bool c∧(c=true→Inv l.length Y)∧(c=false→Stop Y)):=by
 have api:=JQ
 obtain⟨vS,vT,vH,fa,fc,gb,hS,hT,hHs⟩:=JQ
 have yO:=hS
 obtain⟨ij,hs,fw⟩:=hS
 obtain⟨w1,w2,rfl⟩:=qu (fw.len.trans hO.two)
 obtain⟨mB,U5,U3,lq,rfl,U4,NW,NU⟩:=hs
 obtain⟨iS,ht,e8⟩:=id hT
 obtain⟨dX,AK,AI,dB,rfl,AJ,sD,sC⟩:=ht
 have Fj:=e8.len
 have P2:∀(i:Nat) (p:dj),([]:List dj)[i]?=some p→cE ⟨ro,[]⟩ 0 (0+i*6) 6 (mZ p):=fun _ _ h=>oQ h
 refine zC [.l LE,.b r0 (.map es0 ck0),.l Z,.l B]<|zD 2<|jn fun b4=>zD 1<|jf [1,2,3] (LE++((r0,.map es0 ck0)::Z)) (fun zo bH iQ=>?_)
 have hE1:=hE _ (Knows.left iQ)
 have JR:TS zo r0 (bM S) id es0 ck0 F0:=⟨Knows.right iQ _ (.head _),hE0,hk0,hM0 _ (Knows.tail (Knows.right iQ))⟩
 refine jd 12 [0]<|jl (b:=b1) (off:=0) (m:=1) (vs:=[zP b]) 0 ⟨_,_,_,.inl (bH _ _ hC.t),rfl⟩<|zD 3<|jl (b:=b) (off:=0) (m:=4) (vs:=[.slice mB 2 lq,.slice dX iS.length dB,.slice fa 0 fc,vH]) 1 ⟨_,_,_,.inl (bH _ _ gb),rfl⟩<|zD 3<|zJ 21 (0=(iS.length:Int)) (fun h4=>?_) fun h4=>?_
 ·
  exfalso;simp at Fj;omega
 refine zD 4 ?_
 have ZH:iS.length=1:=Fj
 refine zD 1<|jl (b:=b1) (off:=0) (m:=1) (vs:=[zP b]) 0 ⟨_,_,_,.inl (bH _ _ hC.t),rfl⟩<|zD 3<|jl (b:=b) (off:=0) (m:=4) (vs:=[.slice mB 2 lq,.slice dX iS.length dB,.slice fa 0 fc,vH]) 1 ⟨_,_,_,.inl (bH _ _ gb),rfl⟩<|zD 1 ?_
 obtain⟨x37,ab3⟩:=zG iS 0
 refine iz dB 1 sD ab3<|zD 1 ?_
 obtain⟨l39,aGw,Uf⟩:=e8.get ab3
 obtain aQw:=hW.ok _ (zL aGw)
 obtain V7:l39=l:=Option.some.inj (aGw.symm.trans rfl)
 obtain⟨aNf,aZe,aZc,aDB,rfl,aZd,aNe,aNd⟩:=Uf
 refine jl 0 ((sC _ _ ab3).ext (oD bH))<|zD 4<|dV [1,1,1,0,1,0,0] [] (fun(zz:Nat×Cells)=>[(1,zP b1),(3,zP b3),(4,zP b4),(39,.slice aNf l39.length aDB),(40,zI (l39.length:Int)),(41,zI (zz.1:Int))]) (fun zz=>[.l zz.2,.b b4 (.cells ⟨[zS,.slice ea en ec,(.map (some r0))]⟩ 199 (0,0))]) (fun zz=>zz.1≤l39.length∧Inv zz.1 zz.2) (fun zz=>l39.length-zz.1) (⟨0,B⟩) ⟨by dsimp only;omega,hB⟩ [1,0] ?_
 rintro⟨i,B⟩ hI K1 bO rest
 dsimp only at hI
 refine zD 5<|zJ 42 ((i:Int) <(l39.length:Int)) (fun h5=>?_) fun h5=>?_
 ·
  refine zD 7 ?_
  obtain⟨x44,Kl⟩:=zG l39 i
  refine iz aDB 7 aNe Kl<|jl 0 ((aNd _ _ Kl).ext (oD bH))<|jn fun b8=>jd 4 [0] ?_
  have hco:=aQw.2 _ (zL Kl)
  refine jd 4 [2,0]<|jc (vs:=[.agg ⟨[.slice ea en ec]⟩,.agg ⟨[zI x44.k,zI x44.st,zI x44.ot,zI x44.fn,zI x44.fl,zI x44.tn,zI x44.tl]⟩]) [] (aS7 (c:=x44) hco (hE1.up (Sub.refl _)) hO) ?_
  rintro _ _ ⟨r9,F9,LM9,Z9,rfl,rfl,hm9,hk9,hM9⟩
  obtain⟨es9,ck9,rfl,hE9⟩:=hm9
  refine jg 0 [.b r9 (.map es9 ck9),.l Z9]<|zD 5<|jf [0,1] ((r9,.map es9 ck9)::Z9) (fun ro8 Ac hk7=>?_)
  have hP2:TS ro8 r9 (bM S) (zw S x44) es9 ck9 F9:=⟨hk7 _ (.head _),hE9,hk9,hM9 _ (Knows.tail hk7)⟩
  refine zD 11<|jl (b:=b3) (off:=0) (m:=1) (vs:=[.func (.func 174) ⟨[]⟩ ⟨[zP b1,zP b2,zP b3]⟩]) 0 ⟨_,_,_,.inl (Ac _ _ (bH _ _ hC.g)),rfl⟩<|jd 4 [2]<|jl (b:=b1) (off:=0) (m:=1) (vs:=[zP b]) 0 ⟨_,_,_,.inl (Ac _ _ (bH _ _ hC.t)),rfl⟩<|zD 4<|jl (b:=b) (off:=0) (m:=4) (vs:=[.slice mB 2 lq,.slice dX iS.length dB,.slice fa 0 fc,vH]) 0 ⟨_,_,_,.inl (Ac _ _ (bH _ _ gb)),rfl⟩<|jd 4 [2]<|Ez [3,5] ⟨fun z2 t3 qR=>?_,fun z5 t6 Wl=>?_,trivial⟩
  ·
   refine jc (vs:=[zS]) [] (aHX (bD.nil _ _ _ _ _) (by simp)) ?_
   rintro v58 L58 ah6
   obtain⟨Uv,Up,Ic⟩:=ah6.form
   subst Ic
   refine eo qR [1,2,3]<|aQ 5 fun aaL aaX hL8=>jn fun b60=>eo hL8 (zN 1 4)<|aQ 6 fun Uk Uy SQ=>iC (sz:=1) (ps:=([]:List Int)) (qs:=[(i:Int)]) (enc:=cB) (w:= .slice (some ⟨b60,0,none⟩) 1 1) [1] [0] [(b60,.cells ⟨([(i:Int)].map cB).flatten⟩ 3 (0,0))] (ah6) (fun s _ hZ=>bL [(i:Int)] (hZ _ (.head _)) (by intro p hp;rfl)) (fun p _=>ai rfl) (by simp only[List.length_cons,List.length_nil];omega) (fun v61 L61 HV=>?_)
   obtain⟨aeg,ad6,axE⟩:=HV.form
   subst axE
   refine fJ SQ [[4],[],[],[]]<|aQ 15 fun DW Ef uO=>jc (vs:=[(.map (some r9)),zI 2]) [] (ajV (hP2.up (Sub.refl _)) (uL hO) (fun x hx=>agk hco (Su hO (by rw[←hk9];exact List.mem_map_of_mem (f:=(·.1)) hx)))) ?_
   rintro _ L70 ⟨a70,n70,c70,rfl⟩
   refine eo uO (zN 1 5)<|aQ 19 fun DV Ee xa=>jc (vs:=[(.map (some r0)),(.map (some r9))]) [] (asj (JR.up Ac) (hP2.up (Sub.refl _))) ?_
   rintro _ _ ⟨r74,F74,aUn,Z74,rfl,rfl,awZ,axj,aym⟩
   obtain⟨Pm,PA,rfl,ayK⟩:=awZ
   refine jg 0 [.b r74 (.map Pm PA),.l Z74]<|eo xa (zN 2 6)<|zD 1<|aQ 21 fun Gc GA w9=>jc (vs:=[.agg ⟨[(.slice aeg ((([]:List Int)++[(i:Int)])).length ad6),.slice a70 n70 c70,(.map (some r74))]⟩,zP b1,zP b2,zP b3]) [3,0,1,6] ((show eg _ _ _ _ (L61++(r74,.map Pm PA)::(Z74++B)) _ from by have:=ajQ (t:=⟨aeg,((([]:List Int)++[(i:Int)])).length,ad6,a70,n70,c70,r74⟩) (LL:=L61++(r74,.map Pm PA)::Z74) (api.up (bH.trans Ac)) (hC.up (bH.trans Ac)) rfl (KW (by rw[←V7];exact Kl)) (fun aJ hk=>⟨by simpa using HV.jL (Knows.left hk),Pm,PA,F74,(Knows.right hk) _ (.head _),ayK,axj,fun y hy=>aym aJ (Knows.tail (Knows.right hk)) y hy⟩) hI.2 (hy.up (bH.trans Ac));rwa[List.append_assoc,List.cons_append] at this)) ?_
   rintro _ Y76 ⟨c76,rfl,ax0,axU⟩
   refine fJ w9 [[],[]]<|zD 2<|js 77 (!c76) (fun Ft=>?_) (fun Ft=>?_)
   ·
    try simp only[zB] at Ft
    refine zD 6<|aO q0.a.a (.bool false) [] [0] Y76 (bH.trans Ac) ⟨_,_,rfl,rfl,_,rfl,nofun,fun _=>axU (by simp_all)⟩
   try simp only[zB] at Ft
   refine zD 3<|ja ((i:Int)+1) (by omega)<|zD 2<|bA bO (⟨i+1,Y76⟩) ⟨by dsimp only;omega,ax0 (by simp_all)⟩ (by dsimp only;omega) [0,4] Ac
  refine jn fun b60=>eo Wl [1,2,3]<|aQ 3 fun aqz aqS O4=>jc (vs:=[zS]) [] (aHX (bD.nil _ _ _ _ _) (by simp)) ?_
  rintro v58 L58 ah6
  obtain⟨Uv,Up,Ic⟩:=ah6.form
  subst Ic
  refine eo O4 (zN 1 4)<|aQ 6 fun aBF aCu ayF=>iC (sz:=1) (ps:=([]:List Int)) (qs:=[(i:Int)]) (enc:=cB) (w:= .slice (some ⟨b60,0,none⟩) 1 1) [0] [1] [(b60,.cells ⟨([(i:Int)].map cB).flatten⟩ 3 (0,0))] (ah6) (fun s _ hZ=>bL [(i:Int)] (hZ _ (.head _)) (by intro p hp;rfl)) (fun p _=>ai rfl) (by simp only[List.length_cons,List.length_nil];omega) (fun v61 L61 HV=>?_)
  obtain⟨aeg,ad6,axE⟩:=HV.form
  subst axE
  refine fJ ayF [[4],[],[],[]]<|aQ 15 fun aUJ aU2 WC=>jc (vs:=[(.map (some r9)),zI 2]) [] (ajV (hP2.up (Sub.refl _)) (uL hO) (fun x hx=>agk hco (Su hO (by rw[←hk9];exact List.mem_map_of_mem (f:=(·.1)) hx)))) ?_
  rintro _ L70 ⟨a70,n70,c70,rfl⟩
  refine eo WC (zN 1 5)<|aQ 19 fun aBE aCt Ky=>jc (vs:=[(.map (some r0)),(.map (some r9))]) [] (asj (JR.up Ac) (hP2.up (Sub.refl _))) ?_
  rintro _ _ ⟨r74,F74,aUn,Z74,rfl,rfl,awZ,axj,aym⟩
  obtain⟨Pm,PA,rfl,ayK⟩:=awZ
  refine jg 0 [.b r74 (.map Pm PA),.l Z74]<|eo Ky (zN 2 6)<|zD 1<|aQ 21 fun adR aeG Im=>jc (vs:=[.agg ⟨[(.slice aeg ((([]:List Int)++[(i:Int)])).length ad6),.slice a70 n70 c70,(.map (some r74))]⟩,zP b1,zP b2,zP b3]) [3,0,1,6] ((show eg _ _ _ _ (L61++(r74,.map Pm PA)::(Z74++B)) _ from by have:=ajQ (t:=⟨aeg,((([]:List Int)++[(i:Int)])).length,ad6,a70,n70,c70,r74⟩) (LL:=L61++(r74,.map Pm PA)::Z74) (api.up (bH.trans Ac)) (hC.up (bH.trans Ac)) rfl (KW (by rw[←V7];exact Kl)) (fun aJ hk=>⟨by simpa using HV.jL (Knows.left hk),Pm,PA,F74,(Knows.right hk) _ (.head _),ayK,axj,fun y hy=>aym aJ (Knows.tail (Knows.right hk)) y hy⟩) hI.2 (hy.up (bH.trans Ac));rwa[List.append_assoc,List.cons_append] at this)) ?_
  rintro _ Y76 ⟨c76,rfl,ax0,axU⟩
  refine fJ Im [[],[]]<|zD 2<|js 77 (!c76) (fun AW=>?_) (fun AW=>?_)
  ·
   try simp only[zB] at AW
   refine zD 6<|aO q0.a.a (.bool false) [] [0] Y76 (bH.trans Ac) ⟨_,_,rfl,rfl,_,rfl,nofun,fun _=>axU (by simp_all)⟩
  try simp only[zB] at AW
  refine zD 3<|ja ((i:Int)+1) (by omega)<|zD 2<|bA bO (⟨i+1,Y76⟩) ⟨by dsimp only;omega,ax0 (by simp_all)⟩ (by dsimp only;omega) [0,4] Ac
 refine zD 7<|aO q0.a (.bool true) [] [0] B bH ⟨_,_,rfl,rfl,_,rfl,(fun _=>by have:=hI.2;rwa[show i=l.length by rw[←V7];omega] at this),nofun⟩
theorem aHP{S:List (List aj)}{Inv:Nat→Cells→Prop}{ea:Option Addr}{r0:Nat}{es0:Array MapEntry}{F0:List (ar×Value)}(JQ:KN ro b S ways)(hO:eS S)(hW:yY ways)(hC:adf ro bl b b1 b2 b3)(hE:∀aJ,Knows aJ LE→da aJ (.slice ea en ec) S)(hE0:tS pG F0 es0 ck0)(hk0:F0.map (·.1)=bM S)(hM0:MV Z F0 id)(hB:Inv 0 B)(hy:YOK zT bl ro (dk S ways).length (apO (bM S) (dk S ways)) Inv Stop):
 eg zT 174 [.agg ⟨[zS,.slice ea en ec,.map (some r0)]⟩,zP b1,zP b2,zP b3] ro (LE++(r0,.map es0 ck0)::(Z++B)) (fun r Y=>∃c,r= .bool c∧(c=true→Inv (dk S ways).length Y)∧(c=false→Stop Y)):=by
 match ways,hW with
 | [],_=>
  have:=ajQ (t:=⟨none,0,0,ea,en,ec,r0⟩) (x:=⟨[],id⟩) (k:=0) (LL:=LE++(r0,.map es0 ck0)::Z) JQ hC rfl rfl (fun aJ hk=>⟨bD.nil _ _ _ _ _,es0,ck0,F0,(Knows.right hk) _ (.head _),hE0,fun h hh=>by rw[hk0];exact hh,hM0 _ (Knows.tail (Knows.right hk))⟩) hB hy
  rwa[List.append_assoc,List.cons_append] at this
 | [l],hW=>
  refine(aS3 JQ hO hW hC hE hE0 hk0 hM0 hB hy).mono fun _ _ ⟨c,h1,h2,h3⟩=>⟨c,h1,fun h=>?_,h3⟩
  rw[show (dk S [l]).length=l.length by simp[dk]]
  exact h2 h
 |_::_::_,hW=>exact absurd hW.one (by simp)
theorem acw{S:List (List aj)}(g1:ro b1=some (.cells ⟨[zP b]⟩ 190 (0,0)))(JQ:KN ro b S ways)(hO:eS S)(hW:yY ways):ItX zT 173 [] [zP b1] ro [] (dk S ways).length (apO (bM S) (dk S ways)) (fun Z=>Z=[]):=by
 intro bl aH Inv Stop hs hy B hB
 replace g1:=hs _ _ g1
 replace JQ:=JQ.up hs
 have aSc:=JQ
 obtain⟨vS,vT,vH,fa,fc,gb,hS,hT,hHs⟩:=JQ
 have yO:=hS
 obtain⟨ij,oS,fw⟩:=hS
 obtain⟨anf,aYU,aYQ,ane,rfl,aYS,aYT,aYR⟩:=oS
 obtain⟨iS,ht,e8⟩:=id hT
 obtain⟨dX,AK,AI,dB,rfl,AJ,sD,sC⟩:=ht
 have P2:∀(i:Nat) (p:dj),([]:List dj)[i]?=some p→cE ⟨aH,[]⟩ 0 (0+i*6) 6 (mZ p):=fun _ _ h=>oQ h
 refine zC [.l B]<|zD 2<|jn fun b2=>zD 3<|jn fun b3=>jd 5 [0]<|jf [1,0] ((b2,.cells ⟨[(.func (.yield bl) #[] #[])]⟩ 269 (0,0))::[(b3,.cells ⟨[.func (.func 174) ⟨[]⟩ ⟨[zP b1,zP b2,zP b3]⟩]⟩ 269 (0,0))]) fun zo bH iQ=>zD 2<|jl (b:=b3) (off:=0) (m:=1) (vs:=[.func (.func 174) ⟨[]⟩ ⟨[zP b1,zP b2,zP b3]⟩]) 0 ⟨_,_,_,.inl (iQ _ (.tail _ (.head _))),rfl⟩<|jl (b:=b1) (off:=0) (m:=1) (vs:=[zP b]) 0 ⟨_,_,_,.inl (bH _ _ g1),rfl⟩<|zD 3<|jl (b:=b) (off:=0) (m:=4) (vs:=[.slice anf ij.length ane,.slice dX iS.length dB,.slice fa 0 fc,vH]) 0 ⟨_,_,_,.inl (bH _ _ gb),rfl⟩<|jl (b:=b1) (off:=0) (m:=1) (vs:=[zP b]) 0 ⟨_,_,_,.inl (bH _ _ g1),rfl⟩<|zD 3<|jl (b:=b) (off:=0) (m:=4) (vs:=[.slice anf ij.length ane,.slice dX iS.length dB,.slice fa 0 fc,vH]) 0 ⟨_,_,_,.inl (bH _ _ gb),rfl⟩<|aQ 6 fun EV EZ AV=>jc (vs:=[.agg ⟨[.slice anf ij.length ane]⟩]) [] (apA (yO.up bH) hO) ?_
 rintro _ L11 ⟨a11,n11,c11,rfl,aSA⟩
 refine eo AV [1]<|aQ 12 fun y4 ze wZ=>jc (vs:=[.agg ⟨[.slice anf ij.length ane]⟩]) [] (MW (yO.up bH) hO) ?_
 rintro _ _ ⟨r17,F17,bdA,Z17,rfl,rfl,aid,aci,aSl⟩
 obtain⟨aTk,aTv,rfl,aSz⟩:=aid
 refine jg 0 [.b r17 (.map aTk aTv),.l Z17]<|eo wZ [2,3]<|zD 1<|aQ 14 fun qp qv oV=>jc (vs:=[.agg ⟨[zS,.slice a11 n11 c11,(.map (some r17))]⟩,zP b1,zP b2,zP b3]) [2,0,1,3] (aHP (aSc.up bH) hO hW ⟨(bH _ _ g1),iQ _ (.head _),iQ _ (.tail _ (.head _))⟩ aSA aSz aci aSl hB (YOK.up hy bH)) ?_
 rintro _ Y19 ⟨c19,rfl,aRE,aRs⟩
 refine fJ oV [[],[]]<|zD 1<|aO q0.a (.tuple ⟨[]⟩) [] [0] Y19 bH ⟨_,_,rfl,rfl,[],Y19,rfl,rfl,by cases c19 with|true=>exact .inl (aRE rfl)|false=>exact .inr (aRs rfl)⟩
theorem Gy{S:List (List aj)}(hW:yY ways):(dk S ways).length≤3:=by
 match ways,hW with
 | [],_=>simp[dk]
 |l::_,hW=>
  have:=(hW.ok l (by simp)).1.2
  simpa [dk] using this
theorem ajU{fa:Option Addr}{S:List (List aj)}(hS:da ro vS S)(hO:eS S)(hT:nj ro vT ways)(hW:yY ways):FnG zT 100 [.agg ⟨[vS,vT,.slice fa 0 fc]⟩] ro [] (fun r aH Y=>∃b vl ts Lt Z,r= .tuple ⟨[zP b,vl,zI 0]⟩∧KN aH b S ways∧Y=Lt++Z∧ay vl 3 199 akx ts Lt∧ts.length=(dk S ways).length∧∀aJ,Knows aJ Z→dA (TrR (bM S) aJ) ts (dk S ways)):=by
 have yO:=hS
 obtain⟨ij,hs,fw⟩:=hS
 obtain⟨mB,U5,U3,lq,rfl,U4,NW,NU⟩:=hs
 obtain⟨iS,ht,e8⟩:=id hT
 obtain⟨dX,AK,AI,dB,rfl,AJ,sD,sC⟩:=ht
 have JK:=fw.len
 have Fj:=e8.len
 have Ko:=hO.two
 have BF:=hW.one
 have P2:∀(i:Nat) (p:dj),([]:List dj)[i]?=some p→cE ⟨ro,[]⟩ 0 (0+i*6) 6 (mZ p):=fun _ _ h=>oQ h
 refine aEQ (hm:=av) [] [] bp<|zD 2<|jn fun b1=>jd 7 [0]<|jc (vs:=[.agg ⟨[.slice mB ij.length lq,.slice dX iS.length dB,.slice fa 0 fc]⟩]) [] (ay6 yO hO hT hW) ?_
 rintro _ _ ⟨Uh,aBW,aJc,rfl,rfl,awQ⟩
 refine jg 0 [.b Uh (.cells ⟨[.slice mB ij.length lq,.slice dX iS.length dB,.slice fa 0 fc,aBW]⟩ 195 (0,0)),.l aJc]<|zD 5<|jf [0,1] ((Uh,.cells ⟨[.slice mB ij.length lq,.slice dX iS.length dB,.slice fa 0 fc,aBW]⟩ 195 (0,0))::aJc) (fun zo bH iQ=>?_)
 have JQ:KN zo Uh S ways:=⟨_,_,_,_,_,iQ _ (.head _),yO.up bH,hT.up bH,awQ.jL (Knows.tail iQ)⟩
 refine zD 10 ?_
 have hLn:(dk S ways).length≤3:=Gy hW
 refine zD 1<|jn fun b7=>zD 5<|jc (vs:=[zP Uh]) [] (ajO) ?_
 rintro _ _ ⟨art,rfl,rfl⟩
 refine jg 0 [.b art (.cells ⟨[zP Uh]⟩ 190 (0,0))]<|jf [0] [(art,.cells ⟨[zP Uh]⟩ 190 (0,0))] fun ro6 eT Qf=>zD 2<|nY<|nY<|jrf [] (acw (Qf _ (.head _)) (JQ.up eT) hO hW) (by rintro _ _ _ _ ⟨_,_,_,rfl,_⟩;rfl) (fun(zz:Value×Cells×(List XF)×Cells)=>[.b b7 (.cells ⟨[zz.1]⟩ 191 (0,0)),.l zz.2.1,.l zz.2.2.2]) (fun kk=>(fun(zz:Value×Cells×(List XF)×Cells)=>ay zz.1 3 199 akx zz.2.2.1 zz.2.1∧zz.2.2.1.length=kk∧(∀aJ,Knows aJ zz.2.2.2→dA (TrR (bM S) aJ) zz.2.2.1 ((dk S ways).take kk))∧(dk S ways).length≤3)) (fun jump=>(fun(zz:Value×Cells×(List XF)×Cells)=>False)) (⟨zS,[],[],[]⟩) ⟨ay.nil _ _ _,rfl,fun _ _=> .nil,hLn⟩ [2,0,1] ?_ ?_ ?_
 ·
  rintro bl7 bd7 kk7 vs7 LL7 ⟨vl,Lt,ts,Z⟩ ro7 hk7 aQ4 hI iD
  obtain⟨x7,t7,hx7,rfl,hR7⟩:=aQ4
  dsimp only at hI
  have bY:=(List.getElem?_eq_some_iff.1 hx7).1
  refine zD 1<|jn fun b8=>jd 2 [0]<|aET<|jd 4 [2,0]<|jn fun PK=>iC (sz:=3) (ps:=ts) (qs:=[(⟨t7.a,t7.n,t7.c,t7.ea,t7.en,t7.ec,t7.r⟩:XF)]) (enc:=akx) (w:= .slice (some ⟨PK,0,none⟩) 1 1) [4] [0] [(PK,.cells ⟨([(⟨t7.a,t7.n,t7.c,t7.ea,t7.en,t7.ec,t7.r⟩:XF)].map akx).flatten⟩ 199 (0,0))] (hI.1) (fun s _ hZ=>bL [(⟨t7.a,t7.n,t7.c,t7.ea,t7.en,t7.ec,t7.r⟩:XF)] (hZ _ (.head _)) (by intro p hp;rfl)) (fun p _=>ai rfl) (by simp only[List.length_cons,List.length_nil];omega) (fun v23 L23 Af=>?_)
  obtain⟨aL6,aLN,axM⟩:=Af.form
  subst axM
  refine jd 2 [4]<|jyn qy0 (Sub.refl _) ⟨(.slice aL6 ((ts++[(⟨t7.a,t7.n,t7.c,t7.ea,t7.en,t7.ec,t7.r⟩:XF)])).length aLN),L23,(ts++[(⟨t7.a,t7.n,t7.c,t7.ea,t7.en,t7.ec,t7.r⟩:XF)]),LL7++Z⟩ ⟨Af,by simp only[zM];omega,fun aJ hk=>qo (hI.2.2.1 aJ (Knows.right hk)) hx7 (hR7 aJ (Knows.left hk)),hI.2.2.2⟩ [3,4,0,6,5]
 ·
  rintro bd7 ⟨vl,Lt,ts,Z⟩ Z7 hI hZ7
  dsimp only at hI
  subst hZ7
  refine jd 9 [2]<|aOy qm0.a.a.m (.tuple ⟨[zP Uh,vl,zI 0]⟩) [0] [] [2,3] (Lt++Z) (Sub.refl _) ⟨_,_,_,rfl,rfl,(bH.trans eT),Uh,vl,ts,Lt,Z,rfl,JQ.up eT,rfl,hI.1,hI.2.1,by have:=hI.2.2.1;rwa[List.take_of_length_le (Nat.le_refl _)] at this⟩
 rintro bd7 ⟨vl,Lt,ts,Z⟩ Z7 jump hS hZ7
 exact hS.elim
def wv(t:XF):Value:= .slice t.a t.n t.c
theorem dA.maps{γ δ:Type}{R:α→β→Prop}{T:γ→δ→Prop}{f:α→γ}{g:β→δ}(h:∀a b,R a b→T (f a) (g b)):∀ {l:List α} {m:List β},dA R l m→dA T (l.map f) (m.map g)
 | [],[],.nil=> .nil
 |_::_,_::_,.cons h1 h2=> .cons (h _ _ h1) (dA.maps h h2)
theorem abw{y:ar}{l:List ar}(h:y∈l):cw (mh y.h y.n y.l) l 0≥0:=by
 have key:∀(l:List ar) (k:Nat),y∈l→cw (mh y.h y.n y.l) l k≥0:=by
  intro l
  induction l with
  |nil=>intro k h;cases h
  |cons x l ih=>
   intro k h
   simp only[cw]
   cases hx:mh y.h y.n y.l x with
   |true=>simp
   |false=>
    simp only[cond_false]
    rcases List.mem_cons.1 h with rfl|h
    ·simp[mh] at hx
    exact ih _ h
 exact key l 0 h
theorem apy{fa:Option Addr}{S:List (List aj)}(hS:da ro vS S)(hO:eS S)(hT:nj ro vT ways)(hW:yY ways):eg zT 95 [.agg ⟨[vS,vT,.slice fa 0 fc]⟩] ro [] (fun r Y=>∃a n c,r= .tuple ⟨[.slice a n c,zI 0]⟩∧n=((dk S ways).map (·.ways)).length∧∀jW,Knows jW Y→alp jW (.slice a n c) ((dk S ways).map (·.ways))):=by
 have yO:=hS
 obtain⟨ij,hs,fw⟩:=hS
 obtain⟨mB,U5,U3,lq,rfl,U4,NW,NU⟩:=hs
 obtain⟨iS,ht,e8⟩:=id hT
 obtain⟨dX,AK,AI,dB,rfl,AJ,sD,sC⟩:=ht
 have JK:=fw.len
 have Fj:=e8.len
 have Ko:=hO.two
 have BF:=hW.one
 have P2:∀(i:Nat) (p:dj),([]:List dj)[i]?=some p→cE ⟨ro,[]⟩ 0 (0+i*6) 6 (mZ p):=fun _ _ h=>oQ h
 have hLn:=Gy (S:=S) hW
 refine zE<|zD 2<|jn fun b1=>jd 6 [0]<|jcG (vs:=[.agg ⟨[.slice mB ij.length lq,.slice dX iS.length dB,.slice fa 0 fc]⟩]) [] (ajU yO hO hT hW) ?_
 rintro _ aH _ bH ⟨qn,vl,ts,Lt,Z,rfl,JQ,rfl,hL,htl,hA⟩
 obtain⟨uS,uT,uH,ua,uc,gb,_,_,hh⟩:=JQ
 obtain⟨cF,rH,rG,cy,rfl,tv,pw,pn⟩:=hh
 obtain⟨aL8,aLP,aRh⟩:=hL.form
 subst aRh
 refine jg 0 [.l Lt,.l Z]<|zD 28<|nY<|dV [1,1,1,1,0,1,0,0] [] (fun(zz:Nat×Value×Cells)=>[(2,zS),(3,zI 0),(7,zz.2.1),(19,(.slice aL8 ts.length aLP)),(20,zI (ts.length:Int)),(21,zI (zz.1:Int))]) (fun zz=>[.l zz.2.2,.l Lt,.l Z,.b b1 (.cells ⟨[.slice mB ij.length lq,.slice dX iS.length dB,.slice fa 0 fc]⟩ 31 (0,0))]) (fun zz=>zz.1≤ts.length∧ay zz.2.1 1 22 gz ((ts.take zz.1).map wv) zz.2.2) (fun zz=>ts.length-zz.1) (⟨0,zS,[]⟩) ⟨by dsimp only;omega,ay.nil _ _ _⟩ (zN 0 4) ?_
 rintro⟨k,vO,LO⟩ hI K1 bO rest
 dsimp only at hI
 refine zD 5<|zJ 22 ((k:Int) <(ts.length:Int)) (fun h2=>?_) fun h2=>?_
 ·
  refine zD 6 ?_
  obtain⟨vI,tD⟩:=zG ts k
  refine HC 3 hL tD fun b23 aR0=>mT 0 [1] Lt (fun s _ hZ=>bR hL aR0 hZ tD)<|jn fun b9=>jd 6 [0,0]<|jn fun b28=>iC (sz:=1) (ps:=((ts.take k).map wv)) (qs:=[(.slice vI.a vI.n vI.c:Value)]) (enc:=gz) (w:= .slice (some ⟨b28,0,none⟩) 1 1) [2] [0] [(b28,.cells ⟨([(.slice vI.a vI.n vI.c:Value)].map gz).flatten⟩ 22 (0,0))] (hI.2) (fun s _ hZ=>bL [(.slice vI.a vI.n vI.c:Value)] (hZ _ (.head _)) (by intro p hp;rfl)) (by intro p hp;rw[List.mem_singleton] at hp;subst hp;exact ai rfl) (by simp only[List.length_map,List.length_take,List.length_cons,List.length_nil];omega) (fun v29 L29 H2=>?_)
  obtain⟨aej,ad9,aix⟩:=H2.form
  subst aix
  refine zD 3<|ja ((k:Int)+1) (by omega)<|zD 2<|bA bO (⟨k+1,(.slice aej ((((ts.take k).map wv)++[(.slice vI.a vI.n vI.c:Value)])).length ad9),L29⟩) ⟨by dsimp only;omega,by rw[eA tD,List.map_append];exact H2⟩ (by dsimp only;omega) [0,3,4,5] (Sub.refl _)
 refine zD 3 ?_
 obtain⟨va3,vc3,he3⟩:=hI.2.form
 subst he3
 refine zD 6<|aO q0.a (.tuple ⟨[(.slice va3 (((ts.take k).map wv)).length vc3),zI 0]⟩) [] [0,2] (LO++Z) bH ⟨_,_,rfl,rfl,_,_,_,rfl,by simp only[List.length_map,List.length_take];omega,fun jW hk=>⟨_,hI.2.jL (Knows.left hk),by rw[List.take_of_length_le (by omega)];exact(hA jW (Knows.right hk)).maps fun _ _ h=>h.1⟩⟩
theorem ayY{fa:Option Addr}{S:List (List aj)}{y:ar}{x:TrD}(hS:da ro vS S)(hO:eS S)(hT:nj ro vT ways)(hW:yY ways)(hy:y∈bM S)(hLx:dk S ways=[x]):eg zT 72 [.agg ⟨[vS,vT,.slice fa 0 fc]⟩,.agg ⟨[zI y.h,zI y.n,zI y.l]⟩] ro [] (fun r Y=>∃a n c,r= .tuple ⟨[.slice a n c,zI 0]⟩∧∀jW,Knows jW Y→bD jW (.slice a n c) 3 cN [x.g y]):=by
 have yO:=hS
 obtain⟨ij,hs,fw⟩:=hS
 obtain⟨mB,U5,U3,lq,rfl,U4,NW,NU⟩:=hs
 obtain⟨iS,ht,e8⟩:=id hT
 obtain⟨dX,AK,AI,dB,rfl,AJ,sD,sC⟩:=ht
 have JK:=fw.len
 have Fj:=e8.len
 have Ko:=hO.two
 have BF:=hW.one
 have P2:∀(i:Nat) (p:dj),([]:List dj)[i]?=some p→cE ⟨ro,[]⟩ 0 (0+i*6) 6 (mZ p):=fun _ _ h=>oQ h
 have hhl:=uL hO
 have hph:=abw hy
 have AV:(dk S ways).length=1:=by rw[hLx];rfl
 refine zE<|zD 2<|jn fun b2=>jn fun b3=>jd 6 [1]<|jcG (vs:=[.agg ⟨[.slice mB ij.length lq,.slice dX iS.length dB,.slice fa 0 fc]⟩]) [] (ajU yO hO hT hW) ?_
 rintro _ aH _ bH ⟨DL,vl,ts,Lt,Z,rfl,JQ,rfl,hL,htl,hA⟩
 obtain⟨uS,uT,uH,ua,uc,gb,_,_,hh⟩:=JQ
 obtain⟨cF,rH,rG,cy,rfl,tv,pw,pn⟩:=hh
 obtain⟨A5,za,tH⟩:=hL.form
 subst tH
 refine jg 0 [.l Lt,.l Z]<|zD 22<|jl (b:=DL) (off:=0) (m:=4) (vs:=[uS,uT,.slice ua 0 uc,.slice cF ((bM S).length) cy]) 3 ⟨_,_,_,.inl gb,rfl⟩<|jd 1 [2]<|jp (vs:=[.slice cF ((bM S).length) cy,.agg ⟨[zI y.h,zI y.n,zI y.l]⟩]) [] [] (fun aH hs hZ=>MB ((show bD _ _ _ _ _ from ⟨cF,rH,rG,cy,rfl,tv,pw,pn⟩).up hs) (by omega))<|zD 2<|js 27 (!(decide (cw (mh y.h y.n y.l) (bM S) 0≥0))) (fun h2=>?_) (fun h2=>?_)
 ·
  exfalso;simp_all
 refine zD 9<|zJ 30 ((ts.length:Int)=0) (fun h3=>?_) fun h3=>?_
 ·
  exfalso;omega
 refine zD 5<|jf [0,1] (Lt++Z) (fun ro6 eT Qf=>?_)
 have hLs:=hL.jL (Knows.left Qf)
 have hAs:=hA _ (Knows.right Qf)
 obtain⟨kY,JD,JC,kX,T6,P3,GY,GX⟩:=hLs
 simp only[Value.slice.injEq] at T6
 obtain⟨rfl,_,rfl⟩:=T6
 refine zD 9<|nY<|dV [1,1,1,1,1,1,0,1,0,0] [] (fun(zz:Nat×Value×Cells)=>[(3,zP b3),(4,zS),(5,zI 0),(9,zz.2.1),(31,.slice A5 ts.length za),(32,zI (ts.length:Int)),(33,zI (zz.1:Int))]) (fun zz=>[.l zz.2.2,.b b3 (.cells ⟨[zI y.h,zI y.n,zI y.l]⟩ 158 (0,0)),.b b2 (.cells ⟨[.slice mB ij.length lq,.slice dX iS.length dB,.slice fa 0 fc]⟩ 31 (0,0))]) (fun zz=>zz.1≤ts.length∧ay zz.2.1 3 158 cN ([x.g y].take zz.1) zz.2.2) (fun zz=>ts.length-zz.1) (⟨0,zS,[]⟩) ⟨by dsimp only;omega,ay.nil _ _ _⟩ [0,1,2] ?_
 rintro⟨k,vO,LO⟩ hI K1 bO rest
 dsimp only at hI
 refine zD 5<|zJ 34 ((k:Int) <(ts.length:Int)) (fun h7=>?_) fun h7=>?_
 ·
  refine zD 6 ?_
  obtain⟨x35,VG⟩:=zG ts k
  refine iz za 3 GY VG<|jl 0 (GX _ _ VG)<|jn fun Uh=>jd 2 [0] ?_
  obtain⟨q35,aFM,_,bcF,bcJ,F35,aQx,aSy,aQJ,aPn⟩:=hAs.get VG
  obtain⟨hqe,hk0⟩:=Hg (by rw[hLx] at aFM;exact aFM)
  replace hqe:=hqe.symm
  subst hqe
  refine jd 5 [0,2]<|jlu (kv:=pG) (F:=F35) (r:=x35.r) (K:=158) y (zS) false [] [] Ex (fun s he _=>⟨_,_,he _ _ (.inl aQx),aSy⟩) ?_
  obtain⟨w41,aPd,aQv⟩:=Zd (k:=y) (F:=F35) (aQJ y hy)
  have hww:bD _ w41 3 cN [x.g y]:=aPn _ aQv
  obtain⟨U2,qwb,qwo,NQ,rfl,qwk,qwh,qwl⟩:=hww
  refine jw 41 (.slice U2 ([x.g y].length) NQ) (show R3 (zS) false y F35=_ from by simp only[R3,aPd];rfl) ?_
  refine iC (sz:=3) (ps:=([x.g y].take k)) (qs:=[x.g y]) (enc:=cN) (w:= .slice U2 ([x.g y].length) NQ) [1] [] [] (hI.2) (fun s he _=>⟨U2,qwb,qwo,NQ,rfl,qwh,fun i p hp=>(qwl i p hp).ext he⟩) (fun p _=>ai rfl) (by simp only[List.length_take,List.length_cons,List.length_nil];omega) (fun v42 L42 ahT=>?_)
  obtain⟨aLZ,aLG,aRb⟩:=ahT.form
  subst aRb
  refine zD 3<|ja ((k:Int)+1) (by omega)<|zD 2<|bA bO (⟨k+1,(.slice aLZ ((([x.g y].take k)++[x.g y])).length aLG),L42⟩) ⟨by dsimp only;omega,by have:=ahT;rw[hk0] at this ⊢;exact this⟩ (by dsimp only;omega) [0,2,3] (Sub.refl _)
 refine zD 5<|Sd (vs:=[vO]) [] [0] LO (fun aH hs hZ=>Z3 (hI.2.jL hZ) (by simp only[List.length_take,List.length_cons,List.length_nil];omega)) ?_
 rintro v45 L45 aF1
 obtain⟨atA,atl,axH⟩:=aF1.form
 subst axH
 refine zD 4<|aO q0.a.a (.tuple ⟨[(.slice atA (([x.g y].take k)).length atl),zI 0]⟩) [] [0] L45 (bH.trans eT) ⟨_,_,rfl,rfl,_,_,_,rfl,fun jW hk=>by have:=aF1.jL hk;have e: [x.g y].take k=[x.g y]:=List.take_of_length_le (by simp only[List.length_cons,List.length_nil];omega);simpa only[e] using this⟩
end Go.L
