/- Part 9 of the proof. -/
import Derived.Test.YtfamogolneloaaaGreatDoorS8
set_option maxRecDepth 100000
set_option linter.all false
namespace Go.L
open Go Go.Conc Go.Proofs
variable {ways:List (List aF)} {aK:Nat→Option Obj} {Z Z2 LM B LE:Cells} {W:List (List Int)} {b i k b1 ck bl b2 b3 s rm fc j IZ ck0 r1 en ec:Nat} {F:Nat→Nat→Bool} {Stop:Cells→Prop} {l:List Value} {α κ β:Type} {K:aE} {seen:List Nat} {vS vT:Value} {n c5 c6:Int} {xs:List Int}
def BA(ways:List (List aF))(w:List Int):List (List aF):=List.zipWith (fun l n=>(l.take (n.toNat+1)).drop n.toNat) ways w
theorem aog{w:List Int}{l:List aF}(h1:ways[k]?=some l) (h2:w[k]?=some n):(BA ways w)[k]?=some ((l.take (n.toNat+1)).drop n.toNat):=by
 simp only[BA,List.getElem?_zipWith,h1,h2]
def kN(K:aE)(ri:List Int→aj→List an)(w:List Int):bE:=⟨fun i j=>match K.before[i]?,K.after[j]? with
 |some x,some y=>decide (bP (pP y.st y.no 0) (ri w x) 0≥0)
 |_,_=>false⟩
def Fa(F:Nat→Nat→Bool)(i j:Nat)(r:bE):Prop:=∀x y,r.c x y=((decide (x <i)||(decide (x=i)&&decide (y <j)))&&F x y)
theorem Fa.set{r:bE}(h:Fa F i j r):Fa F i (j+1) (jo r i j (F i j)):=fun x y=>by
 simp only[jo]
 split
 ·rename_i hx;obtain⟨rfl,rfl⟩:=hx;simp
 rename_i hx
 rw[h x y]
 congr 2
 by_cases e:x=i
 ·subst e
  have:y≠j:=fun e2=>hx ⟨rfl,e2⟩
  simp only[decide_true,Bool.true_and]
  congr 1
  exact propext (by omega)
 simp[e]
theorem Fa.nxt{n:Nat}{r:bE}(hF:∀x y,n≤y→F x y=false)(h:Fa F i n r):Fa F (i+1) 0 r:=fun x y=>by
 rw[h x y]
 by_cases hy:y <n
 ·congr 1
  simp only[hy,decide_true,Bool.and_true,Nat.not_lt_zero,decide_false,Bool.and_false,Bool.or_false]
  rw[Bool.eq_iff_iff];simp;omega
 rw[hF x y (by omega)];simp
theorem Fa.fin{n:Nat}{r:bE}(hF:∀x y,n≤x→F x y=false)(h:Fa F n 0 r):r=⟨F⟩:=by
 rcases r with ⟨c⟩
 congr 1
 funext x y
 have:=h x y
 dsimp only at this
 rw[this]
 by_cases hx:x <n
 ·simp[hx]
 rw[hF x y (by omega)];simp
theorem asA{ri:List Int→aj→List an}{w:List Int}(x y:Nat)(h:K.before.length≤x):(kN K ri w).c x y=false:=by simp only[kN,List.getElem?_eq_none h]
theorem asz{ri:List Int→aj→List an}{w:List Int}(x y:Nat)(h:K.after.length≤y):(kN K ri w).c x y=false:=by
 simp only[kN,List.getElem?_eq_none h]
 split
 ·rename_i h1;cases h1
 rfl
structure VZ(K:aE)(W:List (List Int)):Prop where
 n:1≤W.length∧W.length≤2
 len:∀w∈W,w.length=K.ways.length
 rng:∀w∈W,∀(k:Nat) (l:List aF) (n:Int),K.ways[k]?=some l→w[k]?=some n→0≤n∧n <l.length
def xX(ro:Nat→Option Obj)(l:List Value)(K:aE)(W:List (List Int))(ri:List Int→aj→List an):Prop:=∀w∈W,∀x∈K.before,(ri w x).length≤1000∧∀aC,Sub ro aC→∀v vS vT vU r,l=vS::vT::vU::r→nv aC v (BA K.ways w)→
 eV zT 85 [.agg ⟨[vS,v,vU]⟩,.agg ⟨[zI x.st,zI x.no,zI 0]⟩] aC [] (fun r Y=>∃a n c,r= .tuple ⟨[.slice a n c,zI 0]⟩∧∀kK,Knows kK Y→bH kK (.slice a n c) 3 cL (ri w x))
theorem aua{ri:List Int→aj→List an}{ro:Nat→Option Obj}(hK:fU ro l K)(hO:ko K)(hV:eZ K)(hW:VZ K W)(h76:q6 ro l W)(h47:xX ro l K W ri):eV zT 43 [.agg ⟨l⟩] ro [] (fun r Y=>∃f,r= .tuple ⟨[pV f,zI 0]⟩∧∀kK,Sub ro kK→Knows kK Y→pM kK f K (W.map (kN K ri))):=by
 have Yl:=hK
 obtain⟨vS,vT,vc,vh,vr,vb,va,vf,fa,fc,hv,rfl,hS,hT,p7,oP,hr,hb,ha,hf⟩:=hK
 obtain⟨jE,hs,fY⟩:=id hS
 obtain⟨j5,ht,fN⟩:=id hT
 obtain⟨hc,hh,Hy⟩:=id p7
 have vy:=hr
 have vo:=hb
 have ha0:=ha
 have hf0:=hf
 obtain⟨nA,W6,W0,mE,rfl,W5,PK,PJ⟩:=hs
 obtain⟨eG,AN,AK,dR,rfl,AM,s9,s8⟩:=ht
 obtain⟨dj,AP,AO,de,rfl,DW,yU,yT⟩:=hc
 obtain⟨cK,sr,sq,cA,rfl,tN,py,px⟩:=hh
 obtain⟨mH,MM,ML,mG,rfl,PM,Kl,Kk⟩:=hr
 obtain⟨pz,SL,SJ,oZ,rfl,SK,MQ,MP⟩:=hb
 obtain⟨pE,SO,SM,pd,rfl,SN,PO,PN⟩:=ha
 obtain⟨lV,Cs,Cr,kA,rfl,Fs,v9,vZ⟩:=hf
 have Ee:=hO.rules
 have rj:=hO.before.1
 have Q6:=hO.after.1
 have Q5:=hO.facts.1
 have Q4:=hO.ways.1
 have Ju:=fY.len
 have Fz:=fN.len
 have hl8:=hO.qx.two
 have hl9:=hO.dH.nh
 have SH:∀(i:Nat) (p:eW),([]:List eW)[i]?=some p→cF ⟨ro,[]⟩ 0 (0+i*6) 6 (oV p):=fun _ _ h=>pQ h
 have hWn:=hW.n
 refine aQH av 83 [] [] bh<|zD 2<|jn fun b1=>jn fun b2=>jn fun b3=>zD 4<|jdf (f:=83) (ca:=[zP b2,zP b3])<|jd 5 [2]<|jn fun Iu=>jd 6 [2,3]<|jc (vs:=[.agg ⟨[.slice nA jE.length mE,.slice eG j5.length dR,.slice fa 0 fc,.slice dj K.cs.length de,.slice cK hv.length cA,.slice mH K.rules.length mG,.slice pz K.before.length oZ,.slice pE K.after.length pd,zI K.gone,zI K.new,zI K.af,.slice lV K.facts.length kA]⟩]) [] (at7 Yl hO hV ⟨hW.n.1,by have:=hW.n.2;omega⟩ h76) ?_
 rintro _ Y21 ⟨a21,n21,c21,rfl,bfx,am6⟩
 refine zD 2<|jf [0] Y21 (fun yn bB iN=>?_)
 obtain⟨wsW,hWs,aqy⟩:=am6 _ iN
 obtain⟨qWa,qWb,qWo,qWc,heW,qWk,qWh,qWl⟩:=hWs
 simp only[Value.slice.injEq] at heW
 obtain⟨rfl,rfl,rfl⟩:=heW
 have hlW:=aqy.len
 refine zD 2<|oL<|ek [1,1,1,0,1,0,0] [] (fun(zz:Nat×Value×Cells)=>[(1,zP b1),(2,zP b2),(3,zP b3),(21,.slice a21 wsW.length c21),(22,zI (wsW.length:Int)),(23,zI (zz.1:Int))]) (fun(zz:Nat×Value×Cells)=>[.l zz.2.2,.b Iu (.cells ⟨[.slice nA jE.length mE,.slice eG j5.length dR,.slice fa 0 fc,.slice dj K.cs.length de,.slice cK hv.length cA,.slice mH K.rules.length mG,.slice pz K.before.length oZ,.slice pE K.after.length pd,zI K.gone,zI K.new,zI K.af,.slice lV K.facts.length kA,zz.2.1]⟩ 128 (0,0)),.b b1 (.cells ⟨[.slice nA jE.length mE,.slice eG j5.length dR,.slice fa 0 fc,.slice dj K.cs.length de,.slice cK hv.length cA,.slice mH K.rules.length mG,.slice pz K.before.length oZ,.slice pE K.after.length pd,zI K.gone,zI K.new,zI K.af,.slice lV K.facts.length kA]⟩ 40 (0,0)),.b b2 (.cells ⟨[zP Iu]⟩ 104 (0,0)),.b b3 (.cells ⟨[zI 0]⟩ 46 (0,0))]) (fun(zz:Nat×Value×Cells)=>zz.1≤wsW.length∧az zz.2.1 16 159 Dm ((W.take zz.1).map (kN K ri)) zz.2.2) (fun(zz:Nat×Value×Cells)=>wsW.length-zz.1) (⟨0,zS,[]⟩) ⟨by dsimp only;omega,az.nil _ _ _⟩ [0,1,4,3,2] ?_
 rintro⟨k,vR,LR⟩ hI K1 bM rest
 dsimp only at hI
 refine zD 5<|zJ 24 ((k:Int) <(wsW.length:Int)) (fun h4=>?_) fun h4=>?_
 ·
  refine zD 6 ?_
  obtain⟨yJ,lH⟩:=zG wsW k
  refine iM c21 1 qWh lH ?_
  obtain⟨wz,aEk,h26⟩:=aqy.get lH
  obtain⟨aPv,bdH,bdF,aBt,rfl,bdG,aPu,aPt⟩:=h26
  refine jl 0 (qWl _ _ lH)<|zD 3 ?_
  have hwm:=List.mem_of_getElem? aEk
  have hwl:=hW.len _ hwm
  refine jd 8 [2,2]<|jn fun b6=>jd 10 [0]<|oL<|ek [1,1,1,0,1,0,0,1,1,0,0,1,1,0,1,0,0] [K1] (fun(zz:Nat×Value×Cells×(List Value))=>[(1,zP b1),(2,zP b2),(3,zP b3),(6,zP b6),(21,.slice a21 wsW.length c21),(22,zI (wsW.length:Int)),(23,zI (k:Int)),(34,.slice aPv wz.length aBt),(35,zI (wz.length:Int)),(36,zI (zz.1:Int))]) (fun(zz:Nat×Value×Cells×(List Value))=>[.l zz.2.2.1,.b b6 (.cells ⟨[.slice nA jE.length mE,zz.2.1,.slice fa 0 fc]⟩ 31 (0,0)),.l LR,.b Iu (.cells ⟨[.slice nA jE.length mE,.slice eG j5.length dR,.slice fa 0 fc,.slice dj K.cs.length de,.slice cK hv.length cA,.slice mH K.rules.length mG,.slice pz K.before.length oZ,.slice pE K.after.length pd,zI K.gone,zI K.new,zI K.af,.slice lV K.facts.length kA,vR]⟩ 128 (0,0)),.b b1 (.cells ⟨[.slice nA jE.length mE,.slice eG j5.length dR,.slice fa 0 fc,.slice dj K.cs.length de,.slice cK hv.length cA,.slice mH K.rules.length mG,.slice pz K.before.length oZ,.slice pE K.after.length pd,zI K.gone,zI K.new,zI K.af,.slice lV K.facts.length kA]⟩ 40 (0,0)),.b b2 (.cells ⟨[zP Iu]⟩ 104 (0,0)),.b b3 (.cells ⟨[zI 0]⟩ 46 (0,0))]) (fun(zz:Nat×Value×Cells×(List Value))=>(zz.1≤wz.length∧zz.2.2.2.length=zz.1)∧az zz.2.1 1 81 gT zz.2.2.2 zz.2.2.1∧dD (fun w l=>bH yn w 7 k9 l) zz.2.2.2 ((BA K.ways wz).take zz.1)) (fun(zz:Nat×Value×Cells×(List Value))=>wz.length-zz.1) (⟨0,zS,[],[]⟩) ⟨⟨by dsimp only;omega,rfl⟩,az.nil _ _ _,(by simp only[List.take_zero];exact dD.nil)⟩ [0,1,2,3,4,5,6] ?_
  rintro⟨j,vT,LT,es⟩ hJ K2 lI rest
  dsimp only at hJ
  refine zD 5<|zJ 37 ((j:Int) <(wz.length:Int)) (fun h5=>?_) fun h5=>?_
  ·
   refine zD 7 ?_
   obtain⟨Fh,yd⟩:=zG wz j
   refine iM aBt 1 aPu yd<|jl 0 (aPt _ _ yd)<|jd 10 [1,4] ?_
   obtain⟨x47,Ut⟩:=zG j5 j
   refine iM dR 1 s9 Ut<|zD 1 ?_
   obtain⟨l49,avk,h49⟩:=fN.get Ut
   obtain hwr:=hW.rng _ hwm _ _ _ avk yd
   obtain bfD:=(hO.ways.2 _ (List.mem_of_getElem? avk)).1.2
   obtain⟨aPj,aPi,aPd,aPh,rfl,aPf,aPg,aPe⟩:=h49
   refine jl 0 ((s8 _ _ Ut).ext (uD bB))<|zD 2<|ja (Fh+1) (by omega)<|jcB (lo:=Fh) (hi:=(Fh+1)) ((show bH _ _ _ _ _ from ⟨aPj,aPi,aPd,aPh,rfl,aPf,aPg,aPe⟩).up bB) (by omega) (fun v53 wE=>?_)
   obtain⟨Kj,aA2,aAY,Ki,rfl,aA0,aA1,aAZ⟩:=wE
   refine zD 1<|aM 14 fun rZ r8 p8=>jn fun YW=>bI p8 [1,2,3,4,5,6,7]<|aM 15 fun sL sR rn=>jT (sz:=1) (ps:=es) (qs:=[(.slice Kj (((((l49).take (Fh+1).toNat).drop Fh.toNat)).length) Ki:Value)]) (enc:=gT) (w:= .slice (some ⟨YW,0,none⟩) 1 1) [1] [0] [(YW,.cells ⟨([(.slice Kj (((((l49).take (Fh+1).toNat).drop Fh.toNat)).length) Ki:Value)].map gT).flatten⟩ 81 (0,0))] (hJ.2.1) (fun s _ hZ=>bN [(.slice Kj (((((l49).take (Fh+1).toNat).drop Fh.toNat)).length) Ki:Value)] (hZ _ (.head _)) (by intro p hp;rfl)) (by intro p hp;rw[List.mem_singleton] at hp;subst hp;exact ar rfl) (by simp<;>omega) (fun v56 L56 m8=>?_)
   obtain⟨FV,FU,Nx⟩:=m8.form
   subst Nx
   refine gY rn [[],[5]]<|zD 1<|aM 17 fun B2 Ca C8=>jd 1 [2]<|eo C8<|zD 2<|ja ((j:Int)+1) (by omega)<|zD 2<|bA lI (⟨j+1,(.slice FV ((es++[(.slice Kj (((((l49).take (Fh+1).toNat).drop Fh.toNat)).length) Ki:Value)])).length FU),L56,(es++[(.slice Kj (((((l49).take (Fh+1).toNat).drop Fh.toNat)).length) Ki:Value)])⟩) ⟨⟨by dsimp only;omega,by simp only[List.length_append,List.length_cons,List.length_nil];omega⟩,m8,by rw[jL (aog avk yd)];exact hJ.2.2.snoc (by rw[show Fh.toNat+1=(Fh+1).toNat by omega];exact⟨Kj,aA2,aAY,Ki,rfl,aA0,aA1,aAZ⟩)⟩ (by dsimp only;omega) [0,2,3,4,5,6,7] (Sub.refl _)
  refine zD 3 ?_
  have hS6:dD (fun w l=>bH yn w 7 k9 l) es (BA K.ways wz):=by have:=hJ.2.2;rwa[List.take_of_length_le (by simp only[BA,List.length_zipWith];omega)] at this
  refine zD 1<|jn fun b9=>jd 10 [5]<|ek [1,1,1,0,1,0,0,1,1,0,0,1,1,1,1,0,1,0,0] [K1] (fun(zz:Nat×bE)=>[(1,zP b1),(2,zP b2),(3,zP b3),(6,zP b6),(9,zP b9),(21,.slice a21 wsW.length c21),(22,zI (wsW.length:Int)),(23,zI (k:Int)),(60,.slice pz K.before.length oZ),(61,zI (K.before.length:Int)),(62,zI (zz.1:Int))]) (fun(zz:Nat×bE)=>[.b b9 (.cells ⟨[.bool (zz.2.c 0 0),.bool (zz.2.c 0 1),.bool (zz.2.c 0 2),.bool (zz.2.c 0 3),.bool (zz.2.c 1 0),.bool (zz.2.c 1 1),.bool (zz.2.c 1 2),.bool (zz.2.c 1 3),.bool (zz.2.c 2 0),.bool (zz.2.c 2 1),.bool (zz.2.c 2 2),.bool (zz.2.c 2 3),.bool (zz.2.c 3 0),.bool (zz.2.c 3 1),.bool (zz.2.c 3 2),.bool (zz.2.c 3 3)]⟩ 159 (0,0)),.l LT,.b b6 (.cells ⟨[.slice nA jE.length mE,vT,.slice fa 0 fc]⟩ 31 (0,0)),.l LR,.b Iu (.cells ⟨[.slice nA jE.length mE,.slice eG j5.length dR,.slice fa 0 fc,.slice dj K.cs.length de,.slice cK hv.length cA,.slice mH K.rules.length mG,.slice pz K.before.length oZ,.slice pE K.after.length pd,zI K.gone,zI K.new,zI K.af,.slice lV K.facts.length kA,vR]⟩ 128 (0,0)),.b b1 (.cells ⟨[.slice nA jE.length mE,.slice eG j5.length dR,.slice fa 0 fc,.slice dj K.cs.length de,.slice cK hv.length cA,.slice mH K.rules.length mG,.slice pz K.before.length oZ,.slice pE K.after.length pd,zI K.gone,zI K.new,zI K.af,.slice lV K.facts.length kA]⟩ 40 (0,0)),.b b2 (.cells ⟨[zP Iu]⟩ 104 (0,0)),.b b3 (.cells ⟨[zI 0]⟩ 46 (0,0))]) (fun(zz:Nat×bE)=>zz.1≤K.before.length∧Fa (kN K ri wz).c zz.1 0 zz.2) (fun(zz:Nat×bE)=>K.before.length-zz.1) (⟨0,⟨fun _ _=>false⟩⟩) ⟨by dsimp only;omega,fun x y=>by simp⟩ [0,1,2,3,4,5,6,7] ?_
  rintro⟨i,r⟩ hQ K6 hK6 rest
  dsimp only at hQ
  refine zD 5<|zJ 63 ((i:Int) <(K.before.length:Int)) (fun h9=>?_) fun h9=>?_
  ·
   refine zD 7 ?_
   obtain⟨OQ,afG⟩:=zG K.before i
   refine iM oZ 5 MQ afG<|jl 0 ((MP _ _ afG).ext (uD bB))<|jn fun S8=>jd 7 [0,3,0]<|jp (vs:=[.agg ⟨[.string OQ.name,zI OQ.st,zI OQ.no,zI OQ.head,.bool OQ.bold]⟩]) [] [] (fun aC hs hZ=>XL)<|aM 3 fun akZ alf U5=>SP (vs:=[.agg ⟨[.slice nA jE.length mE,vT,.slice fa 0 fc]⟩,.agg ⟨[zI OQ.st,zI OQ.no,zI 0]⟩]) [] [2] LT (fun aC hs hZ=>(h47 _ hwm _ (List.mem_of_getElem? afG)).2 _ (bB.trans hs) _ _ _ _ _ rfl ⟨_,hJ.2.1.kJ hZ,hS6.imp fun _ _ k=>k.up hs⟩) ?_
   rintro _ Y71 ⟨a71,n71,c71,rfl,aRo⟩
   refine bI U5 [1,2,3,4,5,6,7,8,9]<|zD 9<|jp (vs:=[zI 0]) [] [] (fun aC hs hZ=>A4)<|jf [0] Y71 (fun bcX aDt aSW=>?_)
   obtain⟨qPa,qPb,qPo,qPc,heP,qPk,qPh,qPl⟩:=aRo _ aSW
   simp only[Value.slice.injEq] at heP
   obtain⟨rfl,rfl,rfl⟩:=heP
   refine jd 9 [6]<|ek [1,1,1,0,1,0,0,1,1,0,0,1,1,1,1,0,1,0,0,1,1,0,0,1,1,1,1,0,0] [K1,K6] (fun(zz:Nat×bE)=>[(1,zP b1),(2,zP b2),(3,zP b3),(6,zP b6),(9,zP b9),(10,zI (i:Int)),(12,.slice a71 ((ri wz OQ).length) c71),(21,.slice a21 wsW.length c21),(22,zI (wsW.length:Int)),(23,zI (k:Int)),(60,.slice pz K.before.length oZ),(61,zI (K.before.length:Int)),(62,zI (i:Int)),(77,.slice pE K.after.length pd),(78,zI (K.after.length:Int)),(79,zI (zz.1:Int))]) (fun(zz:Nat×bE)=>[.b b9 (.cells ⟨[.bool (zz.2.c 0 0),.bool (zz.2.c 0 1),.bool (zz.2.c 0 2),.bool (zz.2.c 0 3),.bool (zz.2.c 1 0),.bool (zz.2.c 1 1),.bool (zz.2.c 1 2),.bool (zz.2.c 1 3),.bool (zz.2.c 2 0),.bool (zz.2.c 2 1),.bool (zz.2.c 2 2),.bool (zz.2.c 2 3),.bool (zz.2.c 3 0),.bool (zz.2.c 3 1),.bool (zz.2.c 3 2),.bool (zz.2.c 3 3)]⟩ 159 (0,0)),.b S8 (.cells ⟨[.string OQ.name,zI OQ.st,zI OQ.no,zI OQ.head,.bool OQ.bold]⟩ 44 (0,0)),.l LT,.b b6 (.cells ⟨[.slice nA jE.length mE,vT,.slice fa 0 fc]⟩ 31 (0,0)),.l LR,.b Iu (.cells ⟨[.slice nA jE.length mE,.slice eG j5.length dR,.slice fa 0 fc,.slice dj K.cs.length de,.slice cK hv.length cA,.slice mH K.rules.length mG,.slice pz K.before.length oZ,.slice pE K.after.length pd,zI K.gone,zI K.new,zI K.af,.slice lV K.facts.length kA,vR]⟩ 128 (0,0)),.b b1 (.cells ⟨[.slice nA jE.length mE,.slice eG j5.length dR,.slice fa 0 fc,.slice dj K.cs.length de,.slice cK hv.length cA,.slice mH K.rules.length mG,.slice pz K.before.length oZ,.slice pE K.after.length pd,zI K.gone,zI K.new,zI K.af,.slice lV K.facts.length kA]⟩ 40 (0,0)),.b b2 (.cells ⟨[zP Iu]⟩ 104 (0,0)),.b b3 (.cells ⟨[zI 0]⟩ 46 (0,0))]) (fun(zz:Nat×bE)=>zz.1≤K.after.length∧Fa (kN K ri wz).c i zz.1 zz.2) (fun(zz:Nat×bE)=>K.after.length-zz.1) (⟨0,r⟩) ⟨by dsimp only;omega,hQ.2⟩ [1,0,2,3,4,5,6,7,8] ?_
   rintro⟨j,r⟩ hU K8 hK8 rest
   dsimp only at hU
   refine zD 5<|zJ 80 ((j:Int) <(K.after.length:Int)) (fun Rv=>?_) fun Rv=>?_
   ·
    refine zD 7 ?_
    obtain⟨vG,G2⟩:=zG K.after j
    refine iM pd 5 PO G2<|jl 0 ((PN _ _ G2).ext (uD (bB.trans aDt)))<|jn fun mB=>jd 3 [0] ?_
    have hRW:(kN K ri wz).c i j=decide (bP (pP vG.st vG.no 0) (ri wz OQ) 0≥0):=by simp only[kN,afG,G2]
    refine jd 5 [0]<|GY (b:=b9) (off:=0) (len:=4) (sz:=4) (i:Int) (by omega)<|jp (vs:=[.agg ⟨[.string vG.name,zI vG.st,zI vG.no,zI vG.head,.bool vG.bold]⟩]) [] [] (fun aC hs hZ=>XL)<|jp (vs:=[.slice a71 ((ri wz OQ).length) c71,.agg ⟨[zI vG.st,zI vG.no,zI 0]⟩]) [] [] (fun aC hs hZ=>KW ((show bH _ _ _ _ _ from ⟨a71,qPb,qPo,c71,rfl,qPk,qPh,qPl⟩).up hs) (h47 _ hwm _ (List.mem_of_getElem? afG)).1)<|GY (b:=b9) (off:=0+(i:Int).toNat*4) (len:=4) (sz:=1) (j:Int) (by omega)<|aM 8 fun ab4 acW hL9=>jsx 1 b9 (0+(i:Int).toNat*4+(j:Int).toNat*1) [.bool (r.c 0 0),.bool (r.c 0 1),.bool (r.c 0 2),.bool (r.c 0 3),.bool (r.c 1 0),.bool (r.c 1 1),.bool (r.c 1 2),.bool (r.c 1 3),.bool (r.c 2 0),.bool (r.c 2 1),.bool (r.c 2 2),.bool (r.c 2 3),.bool (r.c 3 0),.bool (r.c 3 1),.bool (r.c 3 2),.bool (r.c 3 3)] [.bool (decide (bP (pP vG.st vG.no 0) (ri wz OQ) 0≥0))] 159 (by intro v hv;rw[List.mem_singleton] at hv;subst hv;rfl) (WO (r:=r) (by omega) (by omega)) ?_
    refine jmw 0 [.b b9 (.cells ⟨[.bool ((jo r i j ((kN K ri wz).c i j)).c 0 0),.bool ((jo r i j ((kN K ri wz).c i j)).c 0 1),.bool ((jo r i j ((kN K ri wz).c i j)).c 0 2),.bool ((jo r i j ((kN K ri wz).c i j)).c 0 3),.bool ((jo r i j ((kN K ri wz).c i j)).c 1 0),.bool ((jo r i j ((kN K ri wz).c i j)).c 1 1),.bool ((jo r i j ((kN K ri wz).c i j)).c 1 2),.bool ((jo r i j ((kN K ri wz).c i j)).c 1 3),.bool ((jo r i j ((kN K ri wz).c i j)).c 2 0),.bool ((jo r i j ((kN K ri wz).c i j)).c 2 1),.bool ((jo r i j ((kN K ri wz).c i j)).c 2 2),.bool ((jo r i j ((kN K ri wz).c i j)).c 2 3),.bool ((jo r i j ((kN K ri wz).c i j)).c 3 0),.bool ((jo r i j ((kN K ri wz).c i j)).c 3 1),.bool ((jo r i j ((kN K ri wz).c i j)).c 3 2),.bool ((jo r i j ((kN K ri wz).c i j)).c 3 3)]⟩ 159 (0,0))] (L:=[(b9,.cells ⟨dI [.bool (r.c 0 0),.bool (r.c 0 1),.bool (r.c 0 2),.bool (r.c 0 3),.bool (r.c 1 0),.bool (r.c 1 1),.bool (r.c 1 2),.bool (r.c 1 3),.bool (r.c 2 0),.bool (r.c 2 1),.bool (r.c 2 2),.bool (r.c 2 3),.bool (r.c 3 0),.bool (r.c 3 1),.bool (r.c 3 2),.bool (r.c 3 3)] (0+(i:Int).toNat*4+(j:Int).toNat*1) [.bool (decide (bP (pP vG.st vG.no 0) (ri wz OQ) 0≥0))]⟩ 159 (0,0))]) (by rw[WM (by omega) (by omega),hRW];rfl) ?_
    refine gY hL9 []<|zD 2<|ja ((j:Int)+1) (by omega)<|zD 2<|bA hK8 (⟨j+1,(jo r i j ((kN K ri wz).c i j))⟩) ⟨by dsimp only;omega,hU.2.set⟩ (by dsimp only;omega) [0,2,3,4,5,6,7,8,9] (Sub.refl _)
   refine zD 3<|ja ((i:Int)+1) (by omega)<|zD 2<|bA hK6 (⟨i+1,r⟩) ⟨by dsimp only;omega,Fa.nxt (fun x y h=>asz x y h) (by have:=hU.2;rwa[show j=K.after.length by omega] at this)⟩ (by dsimp only;omega) [0,2,3,4,5,6,7,8] aDt
  refine jd 9 [6,6,4,0]<|aM 6 fun JM JV zq=>jn fun aIC=>bI zq [1,2,3,4,5,6,7,8]<|aM 7 fun JL JU Da=>jT (sz:=16) (ps:=((W.take k).map (kN K ri))) (qs:=[(r:bE)]) (enc:=Dm) (w:= .slice (some ⟨aIC,0,none⟩) 1 1) [4] [0] [(aIC,.cells ⟨([(r:bE)].map Dm).flatten⟩ 159 (0,0))] (hI.2) (fun s _ hZ=>bN [(r:bE)] (hZ _ (.head _)) (by intro p hp;rfl)) (fun p _=>ar rfl) (by simp only[List.length_map,List.length_take,List.length_cons,List.length_nil];omega) (fun bcB aXj X5=>?_)
  obtain⟨azP,azL,aEJ⟩:=X5.form
  subst aEJ
  refine gY Da [[7],[7]]<|zD 2<|aM 10 fun OO Pc C9=>jd 1 [5]<|gY C9 []<|zD 2<|ja ((k:Int)+1) (by omega)<|zD 2<|bA bM (⟨k+1,(.slice azP ((((W.take k).map (kN K ri))++[(r:bE)])).length azL),aXj⟩) ⟨by dsimp only;omega,by rw[jL aEk,List.map_append];have e:=Fa.fin (fun x y h=>asA x y h) (by have:=hQ.2;rwa[show i=K.before.length by omega] at this);subst e;exact X5⟩ (by dsimp only;omega) [0,5,6,7,8] (Sub.refl _)
 refine jd 9 [3,3,4]<|jrD (g:=83) (ca:=[zP b2,zP b3]) ⟨rfl,rfl⟩ (.tuple ⟨[zP Iu,zI 0]⟩) [3,4] [1,0] ((Iu,.cells ⟨[.slice nA jE.length mE,.slice eG j5.length dR,.slice fa 0 fc,.slice dj K.cs.length de,.slice cK hv.length cA,.slice mH K.rules.length mG,.slice pz K.before.length oZ,.slice pE K.after.length pd,zI K.gone,zI K.new,zI K.af,.slice lV K.facts.length kA,vR]⟩ 128 (0,0))::LR) 9 bB ⟨_,_,rfl,rfl,Iu,rfl,fun kK hs hk=>⟨_,_,_,_,_,_,_,_,_,_,hv,hk _ (.head _),p7.up hs,oP,vy.up hs,vo.up hs,ha0.up hs,hf0.up hs,by have:=hI.2;rw[List.take_of_length_le (by omega)] at this;exact this.kJ hk.tail⟩⟩
theorem LZ.v(h:LZ K):eZ K where
 rules:=⟨by have:=h.rules.1;omega,fun r hr=>asx (h.rules.2 r hr)⟩
 before:=⟨by have:=h.before.1;omega,fun p hp=>by
  obtain⟨h1,h2,_⟩:=(h.before.2 p hp).1
  exact⟨⟨⟨h1.1.1,by have:=h1.1.2;omega⟩,h1.2⟩,h2⟩⟩
 after:=⟨by have:=h.after.1;omega,fun p hp=>by
  obtain⟨h1,h2,_⟩:=(h.after.2 p hp).1
  exact⟨⟨⟨h1.1.1,by have:=h1.1.2;omega⟩,h1.2⟩,h2⟩⟩
 dH:=h.dH.v
 facts:=⟨by have:=h.facts.1;omega,h.facts.2⟩
theorem q6.up{ro:Nat→Option Obj}(h:q6 ro l W)(hs:Sub ro aK):q6 aK l W:=fun aC h1=>h aC (hs.trans h1)
theorem xX.up{ro:Nat→Option Obj}{ri:List Int→aj→List an}(h:xX ro l K W ri)(hs:Sub ro aK):xX aK l K W ri:=fun w hw x hx=>⟨(h w hw x hx).1,fun aC h1=>(h w hw x hx).2 aC (hs.trans h1)⟩
theorem aox{ri:List Int→aj→List an}{ro:Nat→Option Obj}(hK:fU ro l K)(hO:ko K)(hV:eZ K)(hW:VZ K W)(h76:q6 ro l W)(h47:xX ro l K W ri):ir ro l K (W.map (kN K ri)):=
 fun aC hs=>aua (hK.up hs) hO hV hW (h76.up hs) (h47.up hs)
def rq(a b:Int):Int:=if a <b then-1 else if a>b then 1 else 0
def orL:List Int→Int
 | []=>0
 |x::l=>if x=0 then orL l else x
theorem aee{l:List Int}{x:Int}(h:l[k]?=some x):orL (l.drop k)=if x=0 then orL (l.drop (k+1)) else x:=by rw[fI h];rfl
theorem alV{l:List Int}(h:¬k <l.length):orL (l.drop k)=0:=by rw[eO h];rfl
def abf(x y:ah):Int:=orL [rq x.n y.n,rq x.l y.l]
theorem aol{x y:ah}(h:alP x y):abf x y <0:=by
 rcases h with h| ⟨h1,h2⟩
 ·have e:rq x.n y.n= -1:=if_pos h
  simp[abf,orL,e]
 have e:rq x.n y.n=0:=by simp only[rq];rw[if_neg (by omega),if_neg (by omega)]
 have e2:rq x.l y.l= -1:=if_pos h2
 simp[abf,orL,e,e2]
theorem aHD{a:Int}{ro:Nat→Option Obj}:dz zT 181 [zI a] ro (.bool false):=by
 refine bG av [] [] bh<|zD 12<|aH q0 (.bool (!decide (a=a))) [] [] [] (Sub.refl _) ⟨_,_,rfl,rfl,by simp,rfl⟩
theorem aw9{a b:Int}{ro:Nat→Option Obj}:dz zT 153 [zI a,zI b] ro (zI (rq a b)):=by
 refine bG av [] [] bh<|zD 7<|jp (vs:=[zI a]) [] [] (fun aC hs hZ=>aHD)<|zD 5<|jp (vs:=[zI b]) [] [] (fun aC hs hZ=>aHD)<|zD 23<|zJ 16 (a <b) (fun h1=>?_) fun h1=>?_
 ·
  refine zD 6<|aH q0 (zI (-1)) [] [] [] (Sub.refl _) ⟨_,_,rfl,rfl,by simp only[rq];first|rw[if_pos (by omega)]|rw[if_neg (by omega),if_pos (by omega)]|rw[if_neg (by omega),if_neg (by omega)],rfl⟩
 refine zD 9<|zJ 19 (a>b) (fun h2=>?_) fun h2=>?_
 ·
  refine zD 6<|aH q0 (zI 1) [] [] [] (Sub.refl _) ⟨_,_,rfl,rfl,by simp only[rq];first|rw[if_pos (by omega)]|rw[if_neg (by omega),if_pos (by omega)]|rw[if_neg (by omega),if_neg (by omega)],rfl⟩
 refine zD 7<|aH q0 (zI 0) [] [] [] (Sub.refl _) ⟨_,_,rfl,rfl,by simp only[rq];first|rw[if_pos (by omega)]|rw[if_neg (by omega),if_pos (by omega)]|rw[if_neg (by omega),if_neg (by omega)],rfl⟩
theorem gOr{v:Value}{ro:Nat→Option Obj}(hl:bH ro v 1 cq xs)(hn:xs.length≤1000):dz zT 200 [v] ro (zI (orL xs)):=by
 obtain⟨fL,sj,si,fp,rfl,tZ,lU,mS⟩:=hl
 refine bG av [] [] bh<|zD 16<|ek [1,1,0,1,0,0] [] (fun(zz:Nat)=>[(3,zI 0),(6,.slice fL xs.length fp),(7,zI (xs.length:Int)),(8,zI (zz:Int))]) (fun(zz:Nat)=>[]) (fun(zz:Nat)=>zz≤xs.length∧orL xs=orL (xs.drop zz)) (fun(zz:Nat)=>xs.length-zz) 0 ⟨by omega,rfl⟩ [] ?_
 rintro k hI K1 bM rest
 refine zD 5<|zJ 9 ((k:Int) <(xs.length:Int)) (fun h1=>?_) fun h1=>?_
 ·
  refine zD 6 ?_
  obtain⟨x10,sA⟩:=zG xs k
  refine iM fp 1 lU sA<|jl 0 (mS _ _ sA)<|zD 8<|js 14 (!decide (x10=0)) (fun h2=>?_) (fun h2=>?_)
  ·
   replace h2:=of_decide_eq_false (by simpa using h2)
   refine zD 7<|aH q0 (zI x10) [] [] [] (Sub.refl _) ⟨_,_,rfl,rfl,by rw[hI.2,aee sA,if_neg (by simp_all)],rfl⟩
  replace h2:=of_decide_eq_true (by simpa using h2)
  refine zD 3<|ja ((k:Int)+1) (by omega)<|zD 2<|bA bM (k+1) ⟨by omega,by rw[hI.2,aee sA,if_pos (by simp_all)]⟩ (by omega) [] (Sub.refl _)
 refine zD 8<|aH q0 (zI 0) [] [] [] (Sub.refl _) ⟨_,_,rfl,rfl,by rw[hI.2,alV (by omega)],rfl⟩
theorem aqI{x y:ah}{ro:Nat→Option Obj}:dz zT 201 [.agg ⟨[zI x.n,zI x.l]⟩,.agg ⟨[zI y.n,zI y.l]⟩] ro (zI (abf x y)):=by
 refine bG av [] [] bh<|zD 2<|jn fun b2=>jn fun b3=>jd 12 [1,0,1,0]<|jp (vs:=[zI x.n,zI y.n]) [] [] (fun aC hs hZ=>aw9)<|jp (vs:=[zI x.l,zI y.l]) [] [] (fun aC hs hZ=>aw9)<|aM 10 fun B4 Cc yy=>jn fun mB=>bI yy [1,2]<|jp (vs:=[.slice (some ⟨mB,0,none⟩) 2 2]) [0] [(mB,.cells ⟨([(rq x.n y.n),(rq x.l y.l)].map cq).flatten⟩ 3 (0,0))] (fun aC hs hZ=>gOr (bF [(rq x.n y.n),(rq x.l y.l)] hZ.head (by intro p hp;rfl)) (by first|omega| (simp only[List.length_set,List.length_append,List.length_cons,List.length_nil];omega))) ?_
 refine zD 3<|aH q0 (zI (orL [(rq x.n y.n),(rq x.l y.l)])) [] [] [] (Sub.refl _) ⟨_,_,rfl,rfl,rfl,rfl⟩
theorem Bm{lo hi:Int}{ro:Nat→Option Obj}:dz zT 188 [zI n,zI lo,zI hi] ro (.bool (iC n lo hi)):=by
 refine bG av [] [] bh<|zD 10<|jj 4 [(6,.bool false),(14,.bool ((decide (lo≤n))&&(decide (n≤hi))))] (fun ia=>?_) (fun hj=>?_)
 rotate_left
 refine js 10 (decide (lo≤n)) (fun h1=>?_) (fun h1=>?_)
 ·
  have gD:=h1
  replace gD:=of_decide_eq_true gD
  refine zD 4<|jw 14 (.bool ((decide (lo≤n))&&(decide (n≤hi)))) (w:= .bool (decide (n≤hi))) (by rw[h1]<;>rfl) ?_
  exact hj _ (by kernel_rfl) (by kernel_rfl)
 ·
  have gD:=h1
  replace gD:=of_decide_eq_false gD
  refine zD 4<|jw 14 (.bool ((decide (lo≤n))&&(decide (n≤hi)))) (w:= .bool false) (by rw[h1]<;>rfl) ?_
  exact hj _ (by kernel_rfl) (by kernel_rfl)
 refine zD 3<|aH q0 (.bool ((decide (lo≤n))&&(decide (n≤hi)))) [] [] [] (Sub.refl _) ⟨_,_,rfl,rfl,rfl,rfl⟩
theorem aw4{x:ah}{ro:Nat→Option Obj}(hx:BN x):dz zT 190 [.agg ⟨[zI x.n,zI x.l]⟩] ro (.bool true):=by
 obtain⟨⟨hx1,hx2⟩,hx3,hx4⟩:=hx
 refine bG av [] [] bh<|zD 2<|jn fun b1=>jd 6 [0]<|jp (vs:=[zI x.n,zI 1,zI 40]) [] [] (fun aC hs hZ=>Bm)<|zD 1<|jj 4 [(2,.bool false),(10,.bool ((iC x.n 1 40)&&(iC x.l 0 4)))] (fun ia=>?_) (fun hj=>?_)
 rotate_left
 refine js 6 (iC x.n 1 40) (fun h1=>?_) (fun h1=>?_)
 ·
  refine jd 2 [0]<|jp (vs:=[zI x.l,zI 0,zI 4]) [] [] (fun aC hs hZ=>Bm)<|zD 1<|jw 10 (.bool ((iC x.n 1 40)&&(iC x.l 0 4))) (w:= .bool (iC x.l 0 4)) (by rw[h1]<;>rfl) ?_
  exact hj _ (by kernel_rfl) (by kernel_rfl)
 ·
  refine zD 4<|jw 10 (.bool ((iC x.n 1 40)&&(iC x.l 0 4))) (w:= .bool false) (by rw[h1]<;>rfl) ?_
  exact hj _ (by kernel_rfl) (by kernel_rfl)
 refine zD 3<|aH q0 (.bool ((iC x.n 1 40)&&(iC x.l 0 4))) [] [] [] (Sub.refl _) ⟨_,_,rfl,rfl,by simp only[iC,Value.bool.injEq,Bool.and_eq_true,decide_eq_true_eq];omega,rfl⟩
theorem axa{v:Value}{S:List (List ah)}{ro:Nat→Option Obj}(hS:cZ ro v S)(hO:fw S):dz zT 187 [.agg ⟨[v]⟩] ro (zI 0):=by
 obtain⟨ws,ht,dk⟩:=hS
 obtain⟨eG,AN,AK,dR,rfl,AM,s9,s8⟩:=ht
 have hln:=dk.len
 have Jq:=hO.two
 refine bG av [] [] bh<|zD 2<|jn fun b1=>jd 10 [0]<|zJ 10 ((ws.length:Int)=0) (fun h1=>?_) fun h1=>?_
 ·
  exfalso;omega
 refine jd 10 [0]<|zJ 14 ((ws.length:Int)>3) (fun h2=>?_) fun h2=>?_
 ·
  exfalso;omega
 refine jd 11 [0]<|ek [1,1,1,0,1,0,0] [] (fun(zz:Nat)=>[(16,.slice eG ws.length dR),(17,zI (ws.length:Int)),(18,zI (zz:Int))]) (fun(zz:Nat)=>[.b b1 (.cells ⟨[.slice eG ws.length dR]⟩ 27 (0,0))]) (fun(zz:Nat)=>zz≤ws.length) (fun(zz:Nat)=>ws.length-zz) 0 (by omega) [0] ?_
 rintro k hI K1 bM rest
 refine zD 5<|zJ 19 ((k:Int) <(ws.length:Int)) (fun h3=>?_) fun h3=>?_
 ·
  refine zD 6 ?_
  obtain⟨x20,Nr⟩:=zG ws k
  refine iM dR 1 s9 Nr ?_
  obtain⟨l21,avm,h21⟩:=dk.get Nr
  obtain bfG:=hO.len _ (List.mem_of_getElem? avm)
  obtain aRA:=hO.ok _ (List.mem_of_getElem? avm)
  obtain am6:=hO.asc _ (List.mem_of_getElem? avm)
  obtain⟨aBB,bdK,bdI,alM,rfl,bdJ,aBA,aBz⟩:=h21
  refine jl 0 (s8 _ _ Nr)<|zD 9<|zJ 24 ((l21.length:Int)>8) (fun h4=>?_) fun h4=>?_
  ·
   exfalso;omega
  refine zD 9<|ek [1,1,1,0,1,0,0,1,1,0,0,1,1,1,0,0] [K1] (fun(zz:Nat)=>[(4,.slice aBB l21.length alM),(16,.slice eG ws.length dR),(17,zI (ws.length:Int)),(18,zI (k:Int)),(25,.slice aBB l21.length alM),(26,zI (l21.length:Int)),(27,zI (zz:Int))]) (fun(zz:Nat)=>[.b b1 (.cells ⟨[.slice eG ws.length dR]⟩ 27 (0,0))]) (fun(zz:Nat)=>zz≤l21.length) (fun(zz:Nat)=>l21.length-zz) 0 (by omega) [0] ?_
  rintro i hJ K2 lI rest
  refine zD 5<|zJ 28 ((i:Int) <(l21.length:Int)) (fun h5=>?_) fun h5=>?_
  ·
   refine zD 7 ?_
   obtain⟨gi,jv⟩:=zG l21 i
   refine iM alM 2 aBA jv<|jl 0 (aBz _ _ jv)<|jn fun b6=>jd 7 [0,0]<|jp (vs:=[.agg ⟨[zI gi.n,zI gi.l]⟩]) [] [] (fun aC hs hZ=>(aw4 (x:=gi) (aRA _ (List.mem_of_getElem? jv))))<|zD 9<|js 2 (decide ((i:Int)>0)) (fun h6=>?_) (fun h6=>?_)
   ·
    have h6g:=h6
    replace h6g:=of_decide_eq_true h6g
    refine zD 2<|ja ((i:Int)-1) (by omega) ?_
    obtain⟨x41,aur⟩:=zG l21 (((i:Int)-1).toNat)
    refine OB ((i:Int)-1) alM 2 aBA aur (by omega)<|jl 0 (aBz _ _ aur)<|jd 1 [0]<|jp (vs:=[.agg ⟨[zI x41.n,zI x41.l]⟩,.agg ⟨[zI gi.n,zI gi.l]⟩]) [] [] (fun aC hs hZ=>(aqI (x:=x41) (y:=gi)))<|zD 3<|zJ 46 ((abf x41 gi)≥0) (fun h7=>?_) fun h7=>?_
    ·
     exfalso;have:=aol (qv am6 (show ((i:Int)-1).toNat <i by omega) aur jv);simp_all;omega
    refine zD 3<|ja ((i:Int)+1) (by omega)<|zD 2<|bA lI (i+1) (by omega) (by omega) [1] (Sub.refl _)
   have h6g:=h6
   replace h6g:=of_decide_eq_false h6g
   refine zD 13<|ja ((i:Int)+1) (by omega)<|zD 2<|bA lI (i+1) (by omega) (by omega) [1] (Sub.refl _)
  refine zD 3<|ja ((k:Int)+1) (by omega)<|zD 2<|bA bM (k+1) (by omega) (by omega) [0] (Sub.refl _)
 refine zD 7<|aH q0 (zI 0) [] [] [] (Sub.refl _) ⟨_,_,rfl,rfl,rfl,rfl⟩
abbrev pF(x:an):Value:= .agg ⟨cL x⟩
instance:DecidableEq an:=fun x y=>match x,y with
 | ⟨a,b,c⟩,⟨d,e,f⟩=>if h:a=d∧b=e∧c=f then isTrue (by obtain⟨rfl,rfl,rfl⟩:=h;rfl) else isFalse fun k=>h (by cases k;exact⟨rfl,rfl,rfl⟩)
def mU(s:Int)(x:ah):an:=⟨s,x.n,x.l⟩
def QP(S:List (List ah)):Nat→List an
 |0=>[]
 |k+1=>QP S k++(match S[k]? with
  |some l=>l.map (mU k)
  |none=>[])
def bK(S:List (List ah)):List an:=QP S S.length
theorem auI{S:List (List ah)}{l:List ah}(h:S[k]?=some l):QP S (k+1)=QP S k++l.map (mU k):=by simp only[QP,h]
theorem Fw{S:List (List ah)}{x:an}:∀ {k:Nat},x∈QP S k↔∃j l p,j <k∧S[j]?=some l∧p∈l∧x=mU j p
 |0=>by simp[QP]
 |k+1=>by
  simp only[QP,List.mem_append,Fw (k:=k)]
  constructor
  ·rintro(⟨j,l,p,h1,h2⟩|h)
   ·exact⟨j,l,p,by omega,h2⟩
   split at h
   ·rename_i l hl
    obtain⟨p,hp,rfl⟩:=List.mem_map.1 h
    exact⟨k,l,p,by omega,hl,hp,rfl⟩
   cases h
  rintro⟨j,l,p,h1,h2,h3,rfl⟩
  by_cases hj:j=k
  ·subst hj;rw[h2];exact .inr (List.mem_map_of_mem h3)
  exact .inl ⟨j,l,p,by omega,h2,h3,rfl⟩
theorem Hi{S:List (List ah)}{l:List ah}{p:ah}(h1:S[j]?=some l) (h2:p∈l):mU j p∈bK S:=Fw.2 ⟨j,l,p,(List.getElem?_eq_some_iff.1 h1).1,h1,h2,rfl⟩
theorem Ux{S:List (List ah)}(hO:fw S):∀k,(QP S k).Nodup
 |0=>List.nodup_nil
 |k+1=>by
  simp only[QP]
  refine List.nodup_append.2 ⟨Ux hO k,?_,fun x hx y hy e=>?_⟩
  ·split
   ·rename_i l hl
    refine List.pairwise_map.2 ((hO.asc l (List.mem_of_getElem? hl)).imp fun {a b} h e=>?_)
    simp only[mU,an.mk.injEq] at e
    rcases h with h|h<;>omega
   exact List.nodup_nil
  subst e
  obtain⟨j,l,p,h1,_,_,rfl⟩:=Fw.1 hx
  split at hy
  ·obtain⟨q,_,hq⟩:=List.mem_map.1 hy
   simp only[mU,an.mk.injEq] at hq
   omega
  cases hy
theorem Nt{S:List (List ah)}(hO:fw S):∀k,(QP S k).length≤4*k
 |0=>by simp[QP]
 |k+1=>by
  have:=Nt hO k
  simp only[QP,List.length_append]
  split
  ·rename_i l hl
   have:=hO.len l (List.mem_of_getElem? hl)
   rw[List.length_map];omega
  simp;omega
theorem uB{S:List (List ah)}(hO:fw S):(bK S).length≤8:=by
 have:=Nt hO S.length
 have:=hO.two
 unfold bK;omega
theorem aHY(a b:an):EqD zT 10000 164 (pF a) (pF b) (decide (a=b)):=by
 have h:=(qW (lB Tryz.typeInfo164 Tryz.underlying164 rfl rfl rfl rfl rfl rfl) Tryz.stoodInHeld164 (.cons (by decide) (fE jH rfl) (fE jH rfl) (k7 jH _ _) (.cons (by decide) (Gx (lB Tryz.typeInfo73 Tryz.underlying73 rfl rfl rfl rfl rfl rfl) rfl) (Gx (lB Tryz.typeInfo73 Tryz.underlying73 rfl rfl rfl rfl rfl rfl) rfl) (ai1 _ _ _ _ 9997) .nil)):EqD zT 10000 164 (pF a) (pF b) _)
 have e:(a.h==b.h&&((a.n==b.n&&(a.l==b.l&&true))&&true))=decide (a=b):=by
  rcases a with ⟨x,y,z⟩;rcases b with ⟨u,v,w⟩
  rw[Bool.eq_iff_iff];simp
 rwa[e] at h
theorem aWb(a:an):CkD zT 10000 164 (pF a):=
 Sc (lB Tryz.typeInfo164 Tryz.underlying164 rfl rfl rfl rfl rfl rfl) (.cons (by decide) (fE jH rfl) (H8 jH _) (.cons (by decide) (Gx (lB Tryz.typeInfo73 Tryz.underlying73 rfl rfl rfl rfl rfl rfl) rfl) (Sc (dep:=9998) (lB Tryz.typeInfo73 Tryz.underlying73 rfl rfl rfl rfl rfl rfl) (.cons (by decide) (fE jH rfl) (H8 jH _) (.cons (by decide) (fE jH rfl) (H8 jH _) .nil))) .nil))
theorem Ea:SC zT 164 pF:=afb (lB Tryz.typeInfo164 Tryz.underlying164 rfl rfl rfl rfl rfl rfl) (fun k=>⟨_,rfl⟩) aWb aHY (fun k=>by simp[Instr.sameBits])
def MV(Z:Cells)(F:List (an×Value))(g:an→an):Prop:=∀aK,Knows aK Z→∀x∈F,bH aK x.2 3 cL [g x.1]
theorem HM[DecidableEq κ]{k:κ}:∀ {F:List (κ×Value)} {i:Nat},k∈F.map (·.1)→∃j v,sJ k F i=some (j,v)
 | [],_,h=>by cases h
 |x::F,i,h=>by
  simp only[sJ]
  split
  ·exact⟨_,_,rfl⟩
  rename_i hk
  refine HM ?_
  rcases List.mem_cons.1 h with h|h
  ·exact absurd h hk
  exact h
theorem Xy[DecidableEq κ]{k:κ}{F:List (κ×Value)}(h:k∈F.map (·.1)):∃v,lkM k F=some v∧(k,v)∈F:=by
 obtain⟨j,v,h1⟩:=HM (i:=0) h
 exact⟨v,by simp[lkM,h1],List.mem_of_getElem? (qU h1).2⟩
theorem acO[DecidableEq κ]{k:κ}{v:Value}{F:List (κ×Value)}(h:k∉F.map (·.1)):mD k v F=F++[(k,v)]:=by
 have:sJ k F 0=none:=by
  cases hf:sJ k F 0 with
  |none=>rfl
  |some y=>exact absurd (List.mem_map_of_mem (f:=(·.1)) (List.mem_of_getElem? (qU (j:=y.1) (v:=y.2) hf).2)) h
 simp only[mD,this]
theorem O4[DecidableEq κ]{k:κ}{v:Value}{F:List (κ×Value)}(h:k∈F.map (·.1))(hn:(F.map (·.1)).Nodup):(mD k v F).map (·.1)=F.map (·.1)∧∀x∈mD k v F,x=(k,v)∨(x∈F∧x.1≠k):=by
 obtain⟨j,u,h1⟩:=HM (i:=0) h
 have h2:=(qU h1).2
 rw[Nat.sub_zero] at h2
 obtain⟨hj,S0⟩:=List.getElem?_eq_some_iff.1 h2
 simp only[mD,h1,Fp]
 refine⟨?_,fun x hx=>?_⟩
 ·rw[List.map_set]
  refine List.ext_getElem? fun i=>?_
  rw[List.getElem?_set]
  split
  ·rename_i hi;subst hi;simp[h2,hj,S0]
  rfl
 obtain⟨i,hi⟩:=List.getElem?_of_mem hx
 rw[List.getElem?_set] at hi
 split at hi
 ·cases hi;exact .inl rfl
 rename_i IQ
 refine .inr ⟨List.mem_of_getElem? hi,fun e=>IQ ?_⟩
 obtain⟨hi1,Q8⟩:=List.getElem?_eq_some_iff.1 hi
 exact(List.getElem_inj (xs:=F.map (·.1)) (h₀:=by simpa using hj) (h₁:=by simpa using hi1) hn).1 (by simp[S0,Q8,e])
theorem MV.set{F:List (an×Value)}{g:an→an}(h:MV Z F g){k y:an}{v:Value}(hk:k∈F.map (·.1))(hn:(F.map (·.1)).Nodup)(hv:∀aK,Knows aK Z2→bH aK v 3 cL [y]):MV (Z++Z2) (mD k v F) (fun x=>if x=k then y else g x):=fun aK hr x hx=>by
 rcases(O4 hk hn).2 x hx with rfl| ⟨h1,h2⟩
 ·simp only[if_true];exact hv aK hr.right
 simp only[h2,if_false];exact h aK hr.left x h1
theorem MV.add{F:List (an×Value)}{g:an→an}(h:MV Z F g){k:an}{v:Value}(hv:∀aK,Knows aK Z2→bH aK v 3 cL [g k]):MV (Z++Z2) (F++[(k,v)]) g:=fun aK hr x hx=>by
 rcases List.mem_append.1 hx with h1|h1
 ·exact h aK hr.left x h1
 rw[List.mem_singleton] at h1;subst h1;exact hv aK hr.right
theorem aHP{v:Value}{ro:Nat→Option Obj}(hl:bH ro v 1 cq xs)(hn:xs.length≤1000):eV zT 101 [v] ro [] (fun r Y=>az r 1 3 cq xs Y):=by
 obtain⟨fL,sj,si,fp,rfl,tZ,lU,mS⟩:=hl
 refine bG av [] [] bh<|zD 8<|jsn 22 (a:=fL) (l:=xs.length) (c:=fp)<|zD 1<|js 4 (fL.isNone) (fun h1=>?_) (fun h1=>?_)
 ·
  refine zD 6<|aH q0 (zS) [] [] [] (Sub.refl _) ⟨_,_,rfl,rfl,by rw[rF lU (by assumption)];exact az.nil _ _ _⟩
 refine zD 4<|jn fun b5=>zD 1<|jT (sz:=1) (ps:=[]) (qs:=xs) (enc:=cq) (w:= .slice fL xs.length fp) [0] [] [] (cR (b:=b5) (T:=3)) (fun s he _=>⟨fL,sj,si,fp,rfl,lU,fun i p hp=>(mS i p hp).ext he⟩) (fun p _=>ar rfl) (by simp<;>omega) (fun v7 L7 iT=>?_)
 rw[List.nil_append] at iT
 obtain⟨Ti,Td,Re⟩:=iT.form
 subst Re
 refine zD 3<|aH q0 ((.slice Ti (xs).length Td)) [] [0] L7 (Sub.refl _) ⟨_,_,rfl,rfl,iT⟩
theorem aVP{v:Value}{xs:List ah}{ro:Nat→Option Obj}(hl:bH ro v 2 cW xs)(hn:xs.length≤1000):eV zT 97 [v] ro [] (fun r Y=>az r 2 73 cW xs Y):=by
 obtain⟨fL,sj,si,fp,rfl,tZ,lU,mS⟩:=hl
 refine bG av [] [] bh<|zD 8<|jsn 74 (a:=fL) (l:=xs.length) (c:=fp)<|zD 1<|js 4 (fL.isNone) (fun h1=>?_) (fun h1=>?_)
 ·
  refine zD 6<|aH q0 (zS) [] [] [] (Sub.refl _) ⟨_,_,rfl,rfl,by rw[rF lU (by assumption)];exact az.nil _ _ _⟩
 refine zD 4<|jn fun b5=>zD 1<|jT (sz:=2) (ps:=[]) (qs:=xs) (enc:=cW) (w:= .slice fL xs.length fp) [0] [] [] (cR (b:=b5) (T:=73)) (fun s he _=>⟨fL,sj,si,fp,rfl,lU,fun i p hp=>(mS i p hp).ext he⟩) (fun p _=>ar rfl) (by simp<;>omega) (fun v7 L7 iT=>?_)
 rw[List.nil_append] at iT
 obtain⟨Ti,Td,Re⟩:=iT.form
 subst Re
 refine zD 3<|aH q0 ((.slice Ti (xs).length Td)) [] [0] L7 (Sub.refl _) ⟨_,_,rfl,rfl,iT⟩
theorem aVQ{v:Value}{xs:List an}{ro:Nat→Option Obj}(hl:bH ro v 3 cL xs)(hn:xs.length≤1000):eV zT 159 [v] ro [] (fun r Y=>az r 3 164 cL xs Y):=by
 obtain⟨fL,sj,si,fp,rfl,tZ,lU,mS⟩:=hl
 refine bG av [] [] bh<|zD 8<|jsn 160 (a:=fL) (l:=xs.length) (c:=fp)<|zD 1<|js 4 (fL.isNone) (fun h1=>?_) (fun h1=>?_)
 ·
  refine zD 6<|aH q0 (zS) [] [] [] (Sub.refl _) ⟨_,_,rfl,rfl,by rw[rF lU (by assumption)];exact az.nil _ _ _⟩
 refine zD 4<|jn fun b5=>zD 1<|jT (sz:=3) (ps:=[]) (qs:=xs) (enc:=cL) (w:= .slice fL xs.length fp) [0] [] [] (cR (b:=b5) (T:=164)) (fun s he _=>⟨fL,sj,si,fp,rfl,lU,fun i p hp=>(mS i p hp).ext he⟩) (fun p _=>ar rfl) (by simp<;>omega) (fun v7 L7 iT=>?_)
 rw[List.nil_append] at iT
 obtain⟨Ti,Td,Re⟩:=iT.form
 subst Re
 refine zD 3<|aH q0 ((.slice Ti (xs).length Td)) [] [0] L7 (Sub.refl _) ⟨_,_,rfl,rfl,iT⟩
theorem anZ{v:Value}{S:List (List ah)}{ro:Nat→Option Obj}(hS:cZ ro v S)(hO:fw S):eV zT 197 [.agg ⟨[v]⟩] ro [] (fun r Y=>∃a n c,r= .agg ⟨[.slice a n c]⟩∧∀aK,Knows aK Y→cZ aK (.slice a n c) S):=by
 obtain⟨ws,ht,dk⟩:=hS
 obtain⟨eG,AN,AK,dR,rfl,AM,s9,s8⟩:=ht
 have hln:=dk.len
 have Jq:=hO.two
 refine bG av [] [] bh<|zD 2<|jn fun b1=>jn fun b2=>zD 4<|jn fun b3=>jd 11 [0,2]<|oL<|oL<|ek [1,1,0,1,0,0] [] (fun(zz:Nat×Value×Cells×(List Value)×Cells)=>[(2,zP b2),(3,zP b3),(8,.slice eG ws.length dR),(9,zI (ws.length:Int)),(10,zI (zz.1:Int))]) (fun(zz:Nat×Value×Cells×(List Value)×Cells)=>[.b b3 (.cells ⟨[zz.2.1]⟩ 27 (0,0)),.l zz.2.2.1,.l zz.2.2.2.2,.b b2 (.cells ⟨[zS]⟩ 27 (0,0)),.b b1 (.cells ⟨[.slice eG ws.length dR]⟩ 27 (0,0))]) (fun(zz:Nat×Value×Cells×(List Value)×Cells)=>(zz.1≤ws.length∧zz.2.2.2.1.length=zz.1)∧az zz.2.1 1 74 gT zz.2.2.2.1 zz.2.2.1∧∀aK,Knows aK zz.2.2.2.2→dD (fun w l=>bH aK w 2 cW l) zz.2.2.2.1 (S.take zz.1)) (fun(zz:Nat×Value×Cells×(List Value)×Cells)=>ws.length-zz.1) (⟨0,zS,[],[],[]⟩) ⟨⟨by dsimp only;omega,rfl⟩,az.nil _ _ _,fun _ _=> .nil⟩ [2,1,0,3,4] ?_
 rintro⟨k,vO,LO,es,Z⟩ hI K1 bM rest
 dsimp only at hI
 refine zD 5<|zJ 11 ((k:Int) <(ws.length:Int)) (fun h1=>?_) fun h1=>?_
 ·
  refine zD 6 ?_
  obtain⟨tM,qH⟩:=zG ws k
  refine iM dR 1 s9 qH ?_
  obtain⟨l13,aEn,Ap⟩:=dk.get qH
  obtain aEa:=hO.len _ (List.mem_of_getElem? aEn)
  obtain⟨aBK,aPZ,aPV,aBJ,rfl,aPX,aPY,aPW⟩:=Ap
  refine jl 0 (s8 _ _ qH)<|jd 6 [0]<|aM 3 fun B3 Cb zp=>jc (vs:=[.slice aBK l13.length aBJ]) [] (aVP (show bH _ _ _ _ _ from ⟨aBK,aPZ,aPV,aBJ,rfl,aPX,aPY,aPW⟩) (by first|omega| (simp only[List.length_set,List.length_append,List.length_cons,List.length_nil];omega))) ?_
  rintro v17 L17 C3
  obtain⟨AB,Az,Rf⟩:=C3.form
  subst Rf
  refine bI zp [1,2,3,4,5]<|aM 4 fun rZ r8 p8=>jn fun fJ=>bI p8 [1,2,3,4,5,6]<|aM 5 fun sL sR rn=>jT (sz:=1) (ps:=es) (qs:=[((.slice AB (l13).length Az):Value)]) (enc:=gT) (w:= .slice (some ⟨fJ,0,none⟩) 1 1) [3] [0] [(fJ,.cells ⟨([((.slice AB (l13).length Az):Value)].map gT).flatten⟩ 74 (0,0))] (hI.2.1) (fun s _ hZ=>bN [((.slice AB (l13).length Az):Value)] (hZ _ (.head _)) (by intro p hp;rfl)) (by intro p hp;rw[List.mem_singleton] at hp;subst hp;exact ar rfl) (by simp<;>omega) (fun v19 L19 agp=>?_)
  obtain⟨aM9,aML,aTz⟩:=agp.form
  subst aTz
  refine gY rn []<|zD 1<|aM 7 fun B2 Ca C8=>jd 1 [3]<|eo C8<|zD 2<|ja ((k:Int)+1) (by omega)<|zD 2<|KY bM (⟨k+1,(.slice aM9 ((es++[((.slice AB (l13).length Az):Value)])).length aML),L19,(es++[((.slice AB (l13).length Az):Value)]),L17++Z⟩) ⟨⟨by dsimp only;omega,by simp only[List.length_append,List.length_cons,List.length_nil];omega⟩,agp,fun aK hk=>xW (hI.2.2 aK hk.right) aEn (C3.kJ hk.left)⟩ (by dsimp only;omega) [[3],[0],[2,4],[5],[6]] (Sub.refl _)
 refine jd 5 [0] ?_
 obtain⟨va6,vc6,he6⟩:=hI.2.1.form
 subst he6
 refine jd 3 [3]<|aH q0 (.agg ⟨[(.slice va6 (es).length vc6)]⟩) [3] [1,2] (LO++Z) (Sub.refl _) ⟨_,_,rfl,rfl,_,_,_,rfl,fun aK hk=>⟨es,hI.2.1.kJ hk.left,by have:=hI.2.2 aK hk.right;rwa[List.take_of_length_le (by omega)] at this⟩⟩
theorem Yq{v:Value}{S:List (List ah)}{ro:Nat→Option Obj}(hS:cZ ro v S)(hO:fw S):eV zT 189 [.agg ⟨[v]⟩] ro [] (fun r Y=>az r 3 164 cL (bK S) Y):=by
 obtain⟨ws,ht,dk⟩:=hS
 obtain⟨eG,AN,AK,dR,rfl,AM,s9,s8⟩:=ht
 have hln:=dk.len
 have Jq:=hO.two
 refine bG av [] [] bh<|zD 2<|jn fun b1=>jd 15 [0]<|oL<|ek [1,1,0,1,0,0] [] (fun(zz:Nat×Value×Cells)=>[(2,zS),(3,zz.2.1),(9,.slice eG ws.length dR),(10,zI (ws.length:Int)),(11,zI (zz.1:Int))]) (fun(zz:Nat×Value×Cells)=>[.l zz.2.2,.b b1 (.cells ⟨[.slice eG ws.length dR]⟩ 27 (0,0))]) (fun(zz:Nat×Value×Cells)=>zz.1≤ws.length∧az zz.2.1 3 164 cL (QP S zz.1) zz.2.2) (fun(zz:Nat×Value×Cells)=>ws.length-zz.1) (⟨0,zS,[]⟩) ⟨by dsimp only;omega,az.nil _ _ _⟩ [0,1] ?_
 rintro⟨k,vO,LO⟩ hI K1 bM rest
 dsimp only at hI
 refine zD 5<|zJ 12 ((k:Int) <(ws.length:Int)) (fun h1=>?_) fun h1=>?_
 ·
  refine zD 7 ?_
  obtain⟨eF,dK⟩:=zG ws k
  refine iM dR 1 s9 dK ?_
  obtain⟨QA,aaM,HE⟩:=dk.get dK
  obtain aSJ:=hO.len _ (List.mem_of_getElem? aaM)
  obtain⟨as2,aPU,aPS,adX,rfl,aPT,as1,as0⟩:=HE
  refine jl 0 (s8 _ _ dK)<|zD 10<|ek [1,1,0,1,0,0,1,1,0,0,1,1,0,0] [K1] (fun(zz:Nat×Value×Cells)=>[(2,zS),(3,zz.2.1),(4,zI (k:Int)),(9,.slice eG ws.length dR),(10,zI (ws.length:Int)),(11,zI (k:Int)),(16,.slice as2 QA.length adX),(17,zI (QA.length:Int)),(18,zI (zz.1:Int))]) (fun(zz:Nat×Value×Cells)=>[.l zz.2.2,.b b1 (.cells ⟨[.slice eG ws.length dR]⟩ 27 (0,0))]) (fun(zz:Nat×Value×Cells)=>zz.1≤QA.length∧az zz.2.1 3 164 cL (QP S k++(QA.take zz.1).map (mU k)) zz.2.2) (fun(zz:Nat×Value×Cells)=>QA.length-zz.1) (⟨0,vO,LO⟩) ⟨by dsimp only;omega,by simpa using hI.2⟩ [0,1] ?_
  rintro⟨i,vO,LO⟩ hJ K2 lI rest
  dsimp only at hJ
  refine zD 5<|zJ 19 ((i:Int) <(QA.length:Int)) (fun h2=>?_) fun h2=>?_
  ·
   refine zD 6 ?_
   obtain⟨x20,Nr⟩:=zG QA i
   refine iM adX 2 as1 Nr<|jl 0 (as0 _ _ Nr)<|jn fun b7=>jd 7 [0,0]<|jn fun b26=>jT (sz:=3) (ps:=(QP S k++(QA.take i).map (mU k))) (qs:=[(⟨(k:Int),x20.n,x20.l⟩:an)]) (enc:=cL) (w:= .slice (some ⟨b26,0,none⟩) 1 1) [2] [0] [(b26,.cells ⟨([(⟨(k:Int),x20.n,x20.l⟩:an)].map cL).flatten⟩ 164 (0,0))] (hJ.2) (fun s _ hZ=>bN [(⟨(k:Int),x20.n,x20.l⟩:an)] (hZ _ (.head _)) (by intro p hp;rfl)) (fun p _=>ar rfl) (by have:=Nt hO k;simp only[List.length_append,List.length_map,List.length_take,List.length_cons,List.length_nil];omega) (fun v27 L27 agn=>?_)
   obtain⟨aM5,aMH,aTw⟩:=agn.form
   subst aTw
   refine zD 3<|ja ((i:Int)+1) (by omega)<|zD 2<|bA lI (⟨i+1,(.slice aM5 (((QP S k++(QA.take i).map (mU k))++[(⟨(k:Int),x20.n,x20.l⟩:an)])).length aMH),L27⟩) ⟨by dsimp only;omega,by rw[fg Nr,List.map_append,←List.append_assoc];exact agn⟩ (by dsimp only;omega) [0,3] (Sub.refl _)
  refine zD 3<|ja ((k:Int)+1) (by omega)<|zD 2<|bA bM (⟨k+1,vO,LO⟩) ⟨by dsimp only;omega,by rw[auI aaM];have:=hJ.2;rwa[List.take_of_length_le (by omega)] at this⟩ (by dsimp only;omega) [0,1] (Sub.refl _)
 refine zD 8<|aH q0 (vO) [] [0] LO (Sub.refl _) ⟨_,_,rfl,rfl,by have:=hI.2;rwa[show k=S.length by omega] at this⟩
theorem Tm{l:List α}{x:α}(hn:l.Nodup)(h:l[k]?=some x):x∉l.take k:=fun hx=>by
 obtain⟨hk,he⟩:=List.getElem?_eq_some_iff.1 h
 obtain⟨i,hi⟩:=List.getElem?_of_mem hx
 have hik:i <k:=by have:=(List.getElem?_eq_some_iff.1 hi).1;rw[List.length_take] at this;omega
 rw[List.getElem?_take_of_lt hik] at hi
 obtain⟨hi1,Q8⟩:=List.getElem?_eq_some_iff.1 hi
 have:=(List.getElem_inj (h₀:=hi1) (h₁:=hk) hn).1 (Q8.trans he.symm)
 omega
def ya(n:Int):Bool:= !decide (Int.tmod n 2=0)
def E4(n:Int):Bool:=decide (Int.tmod n 2=0)
theorem rM{p:α→Bool}{l:List α}{x:α}(h:l[i]?=some x):(l.take (i+1)).filter p=(l.take i).filter p++bif p x then [x] else []:=by
 rw[fg h,List.filter_append]
 cases hp:p x<;>simp[hp]
def rI(l:List ah):List (List ah):=[l.filter fun x=>ya x.n,l.filter fun x=>E4 x.n]
theorem ahl{l h:List ah}{x:ah}(hh:h∈rI l)(hx:x∈h):x∈l:=by
 simp only[rI,List.mem_cons,List.not_mem_nil,or_false] at hh
 rcases hh with rfl|rfl<;>exact(List.mem_filter.1 hx).1
theorem ahm{l h:List ah}(hh:h∈rI l):h.length≤l.length:=by
 simp only[rI,List.mem_cons,List.not_mem_nil,or_false] at hh
 rcases hh with rfl|rfl<;>exact List.length_filter_le _ _
def Ja(s:Int)(h:List ah):List (an×an):=(h.zip h.reverse).map fun p=>(mU s p.1,mU s p.2)
def acQ(s:Int)(l:List ah):List (an×an):=(rI l).flatMap (Ja s)
def J0(s:Int)(l:List ah):List (an×an):=l.map fun x=>(mU s x,⟨s,if ya x.n=true then x.n+1 else x.n-1,x.l⟩)
def sg(l:List ah):Int:=match l[l.length-1]? with
 |some y=>y.n+Int.tmod y.n 2
 |none=>0
def KX(s o:Int)(l:List ah)(r:Int):List (an×an):=l.map fun x=>(mU s x,⟨o,x.n+r,x.l⟩)
def gU(u:List (an×an))(x:an):an:=u.foldl (fun y p=>if x=p.1 then p.2 else y) x
theorem anW(u:List (an×an))(a b:an):gU (u++[(a,b)])=fun x=>if x=a then b else gU u x:=by
 funext x;simp only[gU,List.foldl_append,List.foldl_cons,List.foldl_nil]
theorem alv{s:Int}{h:List ah}{x y:ah}(hx:h[i]?=some x) (hy:h[(((h.length:Int)-1)-(i:Int)).toNat]?=some y):(Ja s h)[i]?=some (mU s x,mU s y):=by
 have hi:=(List.getElem?_eq_some_iff.1 hx).1
 have h2:h.reverse[i]?=some y:=by rw[List.getElem?_reverse hi,←hy];congr 1;omega
 have:=(List.getElem?_zip_eq_some (z:=(x,y))).2 ⟨hx,h2⟩
 simp only[Ja,List.getElem?_map,this];rfl
theorem adB(s:Int)(h:List ah):(Ja s h).length=h.length:=by simp[Ja]
theorem aeO{f:α→β}{l:List α}{x:α}(h:l[i]?=some x):(l.map f)[i]?=some (f x):=by rw[List.getElem?_map,h];rfl
theorem an3{f:α→List β}{l:List α}{x:α}(h:l[i]?=some x):(l.take (i+1)).flatMap f=(l.take i).flatMap f++f x:=by rw[fg h,List.flatMap_append,List.flatMap_singleton]
theorem MV.upd{S:List (List ah)}(hO:fw S){F:List (an×Value)}{u:List (an×an)}{l:List ah}{x:ah}{y:an}{T:TypeId}(h:MV Z F (gU u))(hk:F.map (·.1)=bK S)(hl:S[s]?=some l) (hx:x∈l):
 MV (Z++[(b,.cells ⟨cL y⟩ T (0,0))]) (mD (mU s x) (.slice (some ⟨b,0,none⟩) 1 1) F) (gU (u++[(mU s x,y)]))∧(mD (mU s x) (.slice (some ⟨b,0,none⟩) 1 1) F).map (·.1)=bK S:=by
 have hm:mU s x∈F.map (·.1):=by rw[hk];exact Hi hl hx
 have hn:(F.map (·.1)).Nodup:=by rw[hk];exact Ux hO _
 rw[anW]
 exact⟨h.set hm hn fun aK hk=>bF [y] (hk _ (.head _)) (fun _ _=>rfl),(O4 hm hn).1.trans hk⟩
theorem Pq{S:List (List ah)}(hO:fw S){F:List (an×Value)}{x:an}{T:TypeId}(h:MV Z F id)(hk:F.map (·.1)=(bK S).take k)(hx:(bK S)[k]?=some x):
 MV (Z++[(b,.cells ⟨cL x⟩ T (0,0))]) (mD x (.slice (some ⟨b,0,none⟩) 1 1) F) id∧(mD x (.slice (some ⟨b,0,none⟩) 1 1) F).map (·.1)=(bK S).take (k+1):=by
 have:x∉F.map (·.1):=by rw[hk];exact Tm (Ux hO _) hx
 rw[acO this]
 exact⟨h.add fun aK hk=>bF [x] (hk _ (.head _)) (fun _ _=>rfl),by rw[List.map_append,hk,fg hx];rfl⟩
theorem Lr{v:Value}{S:List (List ah)}{ro:Nat→Option Obj}(hS:cZ ro v S)(hO:fw S):eV zT 198 [.agg ⟨[v]⟩] ro [] (fun r Y=>∃rm F LM Z,r= .map (some rm)∧Y=LM++Z∧ki rm pF F LM∧F.map (·.1)=bK S∧MV Z F id):=by
 have yx:=hS
 obtain⟨ws,ht,dk⟩:=hS
 obtain⟨eG,AN,AK,dR,rfl,AM,s9,s8⟩:=ht
 have hln:=dk.len
 have Jq:=hO.two
 have hhl:=uB hO
 refine bG av [] [] bh<|zD 2<|jn fun b1=>zD 4<|jmk pF fun r6 L6 hm6=>jd 6 [1]<|jc (vs:=[.agg ⟨[.slice eG ws.length dR]⟩]) [] (Yq yx hO) ?_
 rintro v8 L8 ho8
 refine A5 ho8<|zD 1<|jf [0] L8 (fun yn bB iN=>?_)
 have hzh:=ho8.kJ iN
 obtain⟨aO2,bc9,bc7,aAR,rfl,bc8,aO1,aO0⟩:=hzh
 refine zD 2<|oL<|ek [1,1,0,1,0,0] [] (fun(zz:Nat×(List (an×Value))×Cells×Cells)=>[(2,(.map none)),(3,(.map (some r6))),(8,.slice aO2 ((bK S).length) aAR),(9,zI ((bK S).length:Int)),(10,zI (zz.1:Int))]) (fun(zz:Nat×(List (an×Value))×Cells×Cells)=>[.l zz.2.2.1,.l zz.2.2.2,.b b1 (.cells ⟨[.slice eG ws.length dR]⟩ 27 (0,0))]) (fun(zz:Nat×(List (an×Value))×Cells×Cells)=>zz.1≤(bK S).length∧ki r6 pF zz.2.1 zz.2.2.1∧zz.2.1.map (·.1)=(bK S).take zz.1∧MV zz.2.2.2 zz.2.1 id) (fun(zz:Nat×(List (an×Value))×Cells×Cells)=>(bK S).length-zz.1) (⟨0,[],L6,[]⟩) ⟨by dsimp only;omega,hm6,rfl,fun _ _ _ h=>(by cases h)⟩ [1,0,2] ?_
 rintro⟨k,F,LM,Z⟩ hI K1 bM rest
 dsimp only at hI
 refine zD 5<|zJ 11 ((k:Int) <((bK S).length:Int)) (fun h4=>?_) fun h4=>?_
 ·
  refine zD 6 ?_
  obtain⟨tM,qH⟩:=zG ((bK S)) k
  refine iM aAR 3 aO1 qH<|jl 0 (aO0 _ _ qH)<|jn fun b5=>jd 6 [0,0,0]<|jn fun b17=>jmu (kv:=pF) (F:=F) (r:=r6) (K:=164) 2 tM (.slice (some ⟨b17,0,none⟩) 1 1) Ea hI.2.1 fun Lm5 hm5=>zD 2<|ja ((k:Int)+1) (by omega)<|zD 2<|KY bM (⟨k+1,_,Lm5,Z++[(b17,.cells ⟨[zI tM.h,zI tM.n,zI tM.l]⟩ 164 (0,0))]⟩) ⟨by dsimp only;omega,hm5,(Pq (T:=164) hO hI.2.2.2 hI.2.2.1 qH).2,(Pq (T:=164) hO hI.2.2.2 hI.2.2.1 qH).1⟩ (by dsimp only;omega) [[0],[3,1],[4]] (Sub.refl _)
 refine zD 8<|aH q0.a ((.map (some r6))) [] [0,1] (LM++Z) bB ⟨_,_,rfl,rfl,_,F,LM,Z,rfl,rfl,hI.2.1,by rw[hI.2.2.1,List.take_of_length_le (by omega)],hI.2.2.2⟩
theorem gAt{h l:Int}{ro:Nat→Option Obj}:dz zT 263 [zI h,zI n,zI l] ro (.agg ⟨[zI h,zI n,zI l]⟩):=by
 refine bG av [] [] bh<|zD 2<|jn fun b6=>jd 11 [0]<|aH q0 (.agg ⟨[zI h,zI n,zI l]⟩) [0] [] [] (Sub.refl _) ⟨_,_,rfl,rfl,rfl,rfl⟩
theorem aHC{x:ah}{ro:Nat→Option Obj}:dz zT 261 [.agg ⟨[zI x.n,zI x.l]⟩] ro (.bool (ya x.n)):=by
 refine bG av [] [] bh<|zD 2<|jn fun b1=>jd 11 [0]<|aH q0 (.bool (!decide ((Int.tmod x.n 2)=0))) [] [] [] (Sub.refl _) ⟨_,_,rfl,rfl,rfl,rfl⟩
theorem aiy{v:Value}{l:List ah}{ro:Nat→Option Obj}(hl:bH ro v 2 cW l)(hn:l.length≤4):eV zT 260 [v,.func (.func 261) ⟨[]⟩ ⟨[]⟩] ro [] (fun r Y=>az r 2 73 cW (l.filter fun x=>ya x.n) Y):=by
 obtain⟨fL,sj,si,fp,rfl,tZ,lU,mS⟩:=hl
 refine bG av [] [] bh<|zD 16<|oL<|ek [1,1,0,1,0,0] [] (fun(zz:Nat×Value×Cells)=>[(1,.func (.func 261) ⟨[]⟩ ⟨[]⟩),(4,zS),(5,zz.2.1),(8,.slice fL l.length fp),(9,zI (l.length:Int)),(10,zI (zz.1:Int))]) (fun(zz:Nat×Value×Cells)=>[.l zz.2.2]) (fun(zz:Nat×Value×Cells)=>zz.1≤l.length∧az zz.2.1 2 73 cW ((l.take zz.1).filter fun x=>ya x.n) zz.2.2) (fun(zz:Nat×Value×Cells)=>l.length-zz.1) (⟨0,zS,[]⟩) ⟨by dsimp only;omega,az.nil _ _ _⟩ [0] ?_
 rintro⟨k,vO,LO⟩ hI K1 bM rest
 dsimp only at hI
 refine zD 5<|zJ 11 ((k:Int) <(l.length:Int)) (fun h1=>?_) fun h1=>?_
 ·
  refine zD 6 ?_
  obtain⟨tM,qH⟩:=zG l k
  refine iM fp 2 lU qH<|jl 0 (mS _ _ qH)<|jn fun b7=>jd 6 [0,0]<|jp (vs:=[.agg ⟨[zI tM.n,zI tM.l]⟩]) [] [] (fun aC hs hZ=>(aHC (x:=tM)))<|zD 1<|js 16 (ya tM.n) (fun h2=>?_) (fun h2=>?_)
  ·
   refine jd 4 [0]<|jn fun Iu=>jT (sz:=2) (ps:=((l.take k).filter fun x=>ya x.n)) (qs:=[(⟨tM.n,tM.l⟩:ah)]) (enc:=cW) (w:= .slice (some ⟨Iu,0,none⟩) 1 1) [2] [0] [(Iu,.cells ⟨([(⟨tM.n,tM.l⟩:ah)].map cW).flatten⟩ 73 (0,0))] (hI.2) (fun s _ hZ=>bN [(⟨tM.n,tM.l⟩:ah)] (hZ _ (.head _)) (by intro p hp;rfl)) (fun p _=>ar rfl) (by have:=List.length_filter_le (fun x:ah=>ya x.n) (l.take k);rw[List.length_take] at this;simp only[List.length_cons,List.length_nil];omega) (fun v20 L20 Hh=>?_)
   obtain⟨arU,arK,avZ⟩:=Hh.form
   subst avZ
   refine zD 3<|ja ((k:Int)+1) (by omega)<|zD 2<|bA bM (⟨k+1,(.slice arU ((((l.take k).filter fun x=>ya x.n)++[(⟨tM.n,tM.l⟩:ah)])).length arK),L20⟩) ⟨by dsimp only;omega,by rw[rM qH,show ya tM.n=true from (by assumption)];exact Hh⟩ (by dsimp only;omega) [0] (Sub.refl _)
  refine zD 3<|ja ((k:Int)+1) (by omega)<|zD 2<|bA bM (⟨k+1,vO,LO⟩) ⟨by dsimp only;omega,by rw[rM qH,show ya tM.n=false from (by assumption)];simpa using hI.2⟩ (by dsimp only;omega) [1] (Sub.refl _)
 refine zD 8<|aH q0 (vO) [] [0] LO (Sub.refl _) ⟨_,_,rfl,rfl,by have:=hI.2;rwa[List.take_of_length_le (by omega)] at this⟩
theorem aHJ{x:ah}{ro:Nat→Option Obj}:dz zT 262 [.agg ⟨[zI x.n,zI x.l]⟩] ro (.bool (E4 x.n)):=by
 refine bG av [] [] bh<|zD 2<|jn fun b1=>jd 11 [0]<|aH q0 (.bool (decide ((Int.tmod x.n 2)=0))) [] [] [] (Sub.refl _) ⟨_,_,rfl,rfl,rfl,rfl⟩
theorem aix{v:Value}{l:List ah}{ro:Nat→Option Obj}(hl:bH ro v 2 cW l)(hn:l.length≤4):eV zT 260 [v,.func (.func 262) ⟨[]⟩ ⟨[]⟩] ro [] (fun r Y=>az r 2 73 cW (l.filter fun x=>E4 x.n) Y):=by
 obtain⟨fL,sj,si,fp,rfl,tZ,lU,mS⟩:=hl
 refine bG av [] [] bh<|zD 16<|oL<|ek [1,1,0,1,0,0] [] (fun(zz:Nat×Value×Cells)=>[(1,.func (.func 262) ⟨[]⟩ ⟨[]⟩),(4,zS),(5,zz.2.1),(8,.slice fL l.length fp),(9,zI (l.length:Int)),(10,zI (zz.1:Int))]) (fun(zz:Nat×Value×Cells)=>[.l zz.2.2]) (fun(zz:Nat×Value×Cells)=>zz.1≤l.length∧az zz.2.1 2 73 cW ((l.take zz.1).filter fun x=>E4 x.n) zz.2.2) (fun(zz:Nat×Value×Cells)=>l.length-zz.1) (⟨0,zS,[]⟩) ⟨by dsimp only;omega,az.nil _ _ _⟩ [0] ?_
 rintro⟨k,vO,LO⟩ hI K1 bM rest
 dsimp only at hI
 refine zD 5<|zJ 11 ((k:Int) <(l.length:Int)) (fun h1=>?_) fun h1=>?_
 ·
  refine zD 6 ?_
  obtain⟨tM,qH⟩:=zG l k
  refine iM fp 2 lU qH<|jl 0 (mS _ _ qH)<|jn fun b7=>jd 6 [0,0]<|jp (vs:=[.agg ⟨[zI tM.n,zI tM.l]⟩]) [] [] (fun aC hs hZ=>(aHJ (x:=tM)))<|zD 1<|js 16 (E4 tM.n) (fun h2=>?_) (fun h2=>?_)
  ·
   refine jd 4 [0]<|jn fun Iu=>jT (sz:=2) (ps:=((l.take k).filter fun x=>E4 x.n)) (qs:=[(⟨tM.n,tM.l⟩:ah)]) (enc:=cW) (w:= .slice (some ⟨Iu,0,none⟩) 1 1) [2] [0] [(Iu,.cells ⟨([(⟨tM.n,tM.l⟩:ah)].map cW).flatten⟩ 73 (0,0))] (hI.2) (fun s _ hZ=>bN [(⟨tM.n,tM.l⟩:ah)] (hZ _ (.head _)) (by intro p hp;rfl)) (fun p _=>ar rfl) (by have:=List.length_filter_le (fun x:ah=>E4 x.n) (l.take k);rw[List.length_take] at this;simp only[List.length_cons,List.length_nil];omega) (fun v20 L20 Hh=>?_)
   obtain⟨arU,arK,avZ⟩:=Hh.form
   subst avZ
   refine zD 3<|ja ((k:Int)+1) (by omega)<|zD 2<|bA bM (⟨k+1,(.slice arU ((((l.take k).filter fun x=>E4 x.n)++[(⟨tM.n,tM.l⟩:ah)])).length arK),L20⟩) ⟨by dsimp only;omega,by rw[rM qH,show E4 tM.n=true from (by assumption)];exact Hh⟩ (by dsimp only;omega) [0] (Sub.refl _)
  refine zD 3<|ja ((k:Int)+1) (by omega)<|zD 2<|bA bM (⟨k+1,vO,LO⟩) ⟨by dsimp only;omega,by rw[rM qH,show E4 tM.n=false from (by assumption)];simpa using hI.2⟩ (by dsimp only;omega) [1] (Sub.refl _)
 refine zD 8<|aH q0 (vO) [] [0] LO (Sub.refl _) ⟨_,_,rfl,rfl,by have:=hI.2;rwa[List.take_of_length_le (by omega)] at this⟩
theorem Yo{v:Value}{S:List (List ah)}{l:List ah}{ck c2 c3 c4:Int}{F:List (an×Value)}{ro:Nat→Option Obj}(hS:cZ ro v S)(hO:fw S)(hl:S[s]?=some l) (hm:ki rm pF F LM) (hk:F.map (·.1)=bK S) (hM:MV Z F id):eV zT 240 [.agg ⟨[v]⟩,.agg ⟨[zI ck,zI (s:Int),zI c2,zI c3,zI c4,zI c5,zI c6]⟩,(.map (some rm))] ro (LM++Z) (fun r Y=>∃F' L' Z',r= zI 0∧Y=L'++Z'∧ki rm pF F' L'∧F'.map (·.1)=bK S∧MV Z' F' (gU (acQ (s:Int) l))):=by
 obtain⟨ws,ht,dk⟩:=hS
 obtain⟨eG,AN,AK,dR,rfl,AM,s9,s8⟩:=ht
 have hln:=dk.len
 have Jq:=hO.two
 have IJ:=(List.getElem?_eq_some_iff.1 hl).1
 have hlm:=List.mem_of_getElem? hl
 have hll:=hO.len _ hlm
 refine bG av [.l LM,.l Z] [] bh<|zD 2<|jn fun b3=>jn fun b4=>zD 4<|A6 [1,0,1] [] (fun(zz:Nat×Value×Value×Cells×Cells)=>[(2,(.map (some rm))),(4,zP b4),(6,zI 0),(25,.slice (some ⟨zz.1,0,none⟩) 2 2),(26,zI 2),(27,zI 0)]) (fun(zz:Nat×Value×Value×Cells×Cells)=>[.b zz.1 (.cells ⟨[zz.2.1,zz.2.2.1]⟩ 74 (0,0)),.l zz.2.2.2.1,.l zz.2.2.2.2,.l LM,.l Z,.b b4 (.cells ⟨[zI ck,zI (s:Int),zI c2,zI c3,zI c4,zI c5,zI c6]⟩ 77 (0,0)),.b b3 (.cells ⟨[.slice eG ws.length dR]⟩ 27 (0,0))]) (fun(zz:Nat×Value×Value×Cells×Cells)=>az zz.2.1 2 73 cW (l.filter fun x=>ya x.n) zz.2.2.2.1∧az zz.2.2.1 2 73 cW (l.filter fun x=>E4 x.n) zz.2.2.2.2) ?_ (fun K1 bM=>?_)
 ·
  rintro⟨dA,v1,v2,L1,L2⟩ hC rest
  dsimp only at hC
  refine jf [0,1,2] ((dA,.cells ⟨[v1,v2]⟩ 74 (0,0))::(L1++L2)) (fun yn bB iN=>?_)
  have hhv:=bF (enc:=gT) (T:=74) [v1,v2] (iN _ (.head _)) (fun _ _=>rfl)
  have aEu:dD (fun w l=>bH yn w 2 cW l) [v1,v2] (rI l):= .cons (hC.1.kJ (Knows.left (Knows.tail iN))) (.cons (hC.2.kJ (Knows.right (Knows.tail iN))) .nil)
  have hvl: [v1,v2].length=2:=rfl
  obtain⟨qga,qgb,qgo,qgc,Q9,qgk,qgh,qgl⟩:=hhv
  simp only[Value.slice.injEq] at Q9
  obtain⟨rfl,_,rfl⟩:=Q9
  refine zD 1<|ek [1,0,1,0,0] [] (fun(zz:Nat×(List (an×Value))×Cells×Cells)=>[(2,(.map (some rm))),(4,zP b4),(6,zI 0),(25,.slice (some ⟨dA,0,none⟩) 2 2),(26,zI 2),(27,zI (zz.1:Int))]) (fun(zz:Nat×(List (an×Value))×Cells×Cells)=>[.l zz.2.2.1,.l zz.2.2.2,.b b4 (.cells ⟨[zI ck,zI (s:Int),zI c2,zI c3,zI c4,zI c5,zI c6]⟩ 77 (0,0)),.b b3 (.cells ⟨[.slice eG ws.length dR]⟩ 27 (0,0))]) (fun(zz:Nat×(List (an×Value))×Cells×Cells)=>zz.1≤2∧ki rm pF zz.2.1 zz.2.2.1∧zz.2.1.map (·.1)=bK S∧MV zz.2.2.2 zz.2.1 (gU (((rI l).take zz.1).flatMap (Ja (s:Int))))) (fun(zz:Nat×(List (an×Value))×Cells×Cells)=>2-zz.1) (⟨0,F,LM,Z⟩) ⟨by dsimp only;omega,hm,hk,hM⟩ [0,1,2,3] ?_
  rintro⟨k,F,LM,Z⟩ hI K2 lI rest
  dsimp only at hI
  refine zD 5<|zJ 28 ((k:Int) <2) (fun h4=>?_) fun h4=>?_
  ·
   refine zD 6 ?_
   obtain⟨Ez,ze⟩:=zG ([v1,v2]) k
   refine iM 2 1 qgh ze ?_
   obtain⟨Ui,avl,h30⟩:=aEu.get ze
   obtain aD7:Ui.length≤4:=by have:=ahm (List.mem_of_getElem? avl);omega
   obtain⟨aBr,bdB,bdz,alJ,rfl,bdA,aBq,aBp⟩:=h30
   refine jl 0 (qgl _ _ ze)<|zD 9<|ek [1,0,1,0,0,1,1,0,0,1,1,0,0] [K2] (fun(zz:Nat×(List (an×Value))×Cells×Cells)=>[(2,(.map (some rm))),(4,zP b4),(6,zI 0),(8,.slice aBr Ui.length alJ),(25,.slice (some ⟨dA,0,none⟩) 2 2),(26,zI 2),(27,zI (k:Int)),(31,.slice aBr Ui.length alJ),(32,zI (Ui.length:Int)),(33,zI (zz.1:Int))]) (fun(zz:Nat×(List (an×Value))×Cells×Cells)=>[.l zz.2.2.1,.l zz.2.2.2,.b b4 (.cells ⟨[zI ck,zI (s:Int),zI c2,zI c3,zI c4,zI c5,zI c6]⟩ 77 (0,0)),.b b3 (.cells ⟨[.slice eG ws.length dR]⟩ 27 (0,0))]) (fun(zz:Nat×(List (an×Value))×Cells×Cells)=>zz.1≤Ui.length∧ki rm pF zz.2.1 zz.2.2.1∧zz.2.1.map (·.1)=bK S∧MV zz.2.2.2 zz.2.1 (gU (((rI l).take k).flatMap (Ja (s:Int))++(Ja (s:Int) Ui).take zz.1))) (fun(zz:Nat×(List (an×Value))×Cells×Cells)=>Ui.length-zz.1) (⟨0,F,LM,Z⟩) ⟨by dsimp only;omega,hI.2.1,hI.2.2.1,by simpa using hI.2.2.2⟩ [0,1,2,3] ?_
   rintro⟨i,F,LM,Z⟩ hJ K3 hK3 rest
   dsimp only at hJ
   refine zD 5<|zJ 34 ((i:Int) <(Ui.length:Int)) (fun h5=>?_) fun h5=>?_
   ·
    refine zD 7 ?_
    obtain⟨x36,zd⟩:=zG Ui i
    refine iM alJ 2 aBq zd<|jl 0 (aBp _ _ zd)<|jn fun iK=>jd 14 [0,3,0,3]<|ja ((Ui.length:Int)-1) (by omega)<|zD 1<|ja (((Ui.length:Int)-1)-(i:Int)) (by omega) ?_
    obtain⟨x51,ES⟩:=zG Ui (((((Ui.length:Int)-1)-(i:Int))).toNat)
    refine OB (((Ui.length:Int)-1)-(i:Int)) alJ 2 aBq ES (by omega)<|jl 0 (aBp _ _ ES)<|zD 1<|aM 16 fun sL sR rn=>jn fun So=>bI rn [1,2,3,4,5]<|aM 17 fun B2 Ca C8=>jmu (kv:=pF) (F:=F) (r:=rm) (K:=164) 2 (mU (s:Int) x36) (.slice (some ⟨So,0,none⟩) 1 1) Ea hJ.2.1 fun Lm8 hm8=>eo C8<|zD 2<|ja ((i:Int)+1) (by omega)<|zD 2 ?_
    have hup:=MV.upd (T:=164) (b:=So) (y:=mU s x51) hO hJ.2.2.2 hJ.2.2.1 hl (ahl (List.mem_of_getElem? avl) (List.mem_of_getElem? zd))
    exact KY hK3 (⟨i+1,_,Lm8,Z++[(So,.cells ⟨[zI (s:Int),zI x51.n,zI x51.l]⟩ 164 (0,0))]⟩) ⟨by dsimp only;omega,hm8,hup.2,by rw[fg (alv zd ES),←List.append_assoc];exact hup.1⟩ (by dsimp only;omega) [[0],[3,1],[4],[5]] (Sub.refl _)
   refine zD 3<|ja ((k:Int)+1) (by omega)<|zD 2<|bA lI (⟨k+1,F,LM,Z⟩) ⟨by dsimp only;omega,hJ.2.1,hJ.2.2.1,by have:=hJ.2.2.2;rw[List.take_of_length_le (l:=Ja (s:Int) Ui) (by rw[adB];omega)] at this;rw[an3 avl];exact this⟩ (by dsimp only;omega) [0,1,2,3] (Sub.refl _)
  refine zD 7<|aH q0.a (zI 0) [] [0,1] (LM++Z) bB ⟨_,_,rfl,rfl,F,LM,Z,rfl,rfl,hI.2.1,hI.2.2.1,by have:=hI.2.2.2;rwa[show k=2 by omega] at this⟩
 refine jd 5 [1,0] ?_
 obtain⟨Av,afL⟩:=zG ws s
 refine iM dR 1 s9 afL ?_
 obtain⟨l16,aEm,NN⟩:=dk.get afL
 obtain bfI:=hO.len _ (List.mem_of_getElem? aEm)
 obtain av0:l16=l:=Option.some.inj (aEm.symm.trans hl)
 obtain⟨aBI,aPR,aPN,aBH,rfl,aPP,aPQ,aPO⟩:=NN
 refine jl 0 (s8 _ _ afL)<|jd 4 [1,0] ?_
 obtain⟨sI,ux⟩:=zG ws s
 refine iM dR 1 s9 ux ?_
 obtain⟨l23,aEl,Ao⟩:=dk.get ux
 obtain bfF:=hO.len _ (List.mem_of_getElem? aEl)
 obtain avY:l23=l:=Option.some.inj (aEl.symm.trans hl)
 obtain⟨aBy,aPA,aPw,aBx,rfl,aPy,aPz,aPx⟩:=Ao
 refine jl 0 (s8 _ _ ux)<|zD 1<|aM 6 fun ak0 alg hL6=>jc (vs:=[.slice aBI l16.length aBH,.func (.func 261) ⟨[]⟩ ⟨[]⟩]) [] (aiy (show bH _ _ _ _ _ from ⟨aBI,aPR,aPN,aBH,rfl,aPP,aPQ,aPO⟩) (by omega)) ?_
 rintro v17 L17 C3
 obtain⟨AB,Az,anr⟩:=C3.form
 subst anr
 refine bI hL6 [1,2,3,4]<|aM 13 fun akZ alf U5=>jc (vs:=[.slice aBy l23.length aBx,.func (.func 262) ⟨[]⟩ ⟨[]⟩]) [] (aix (show bH _ _ _ _ _ from ⟨aBy,aPA,aPw,aBx,rfl,aPy,aPz,aPx⟩) (by omega)) ?_
 rintro v24 L24 aDQ
 obtain⟨arT,arJ,aTd⟩:=aDQ.form
 subst aTd
 refine bI U5 [1,2,3,4,5]<|aM 14 fun ab5 acX hL8=>jn fun dA=>bI hL8 [1,2,3,4,5,6]<|zD 2<|bA bM ⟨dA,(.slice AB (l16.filter fun x=>ya x.n).length Az),(.slice arT (l23.filter fun x=>E4 x.n).length arJ),L17,L24⟩ ⟨by rw[←av0];exact C3,by rw[←avY];exact aDQ⟩ Nat.zero_lt_one [0,2,1,5,6,3,4] (Sub.refl _)
theorem WA{s:Int}{l:List ah}{x:ah}(h:l[i]?=some x):(J0 s l)[i]?=some (mU s x,⟨s,if ya x.n=true then x.n+1 else x.n-1,x.l⟩):=aeO h
theorem amS{s o r:Int}{l:List ah}{x:ah}(h:l[i]?=some x):(KX s o l r)[i]?=some (mU s x,⟨o,x.n+r,x.l⟩):=aeO h
theorem raise_at{l:List ah}{x:ah}(h:l[(((l.length:Int)-1)).toNat]?=some x):sg l=x.n+Int.tmod x.n 2:=by
 have:l[l.length-1]?=some x:=by rw[←h];congr 1;omega
 simp only[sg,this]
theorem ZO{l:List ah}(h:¬(l.length:Int)>0):sg l=0:=by
 have:l=[]:=List.eq_nil_of_length_eq_zero (by omega)
 subst this;rfl
theorem tm2(h:1≤n∧n≤9):0≤Int.tmod n 2∧Int.tmod n 2≤1:=by
 rw[Int.tmod_eq_emod_of_nonneg (by omega)]
 omega
theorem adQ{l:List ah}(h:∀x∈l,BN x):0≤sg l∧sg l≤10:=by
 unfold sg
 split
 ·rename_i y hy
  have h1:=(h y (List.mem_of_getElem? hy)).1
  have:=tm2 h1
  omega
 omega
theorem RA{v:Value}{S:List (List ah)}{l:List ah}{ck c2 c3 c4:Int}{F:List (an×Value)}{ro:Nat→Option Obj}(hS:cZ ro v S)(hO:fw S)(hl:S[s]?=some l) (hm:ki rm pF F LM) (hk:F.map (·.1)=bK S) (hM:MV Z F id):eV zT 241 [.agg ⟨[v]⟩,.agg ⟨[zI ck,zI (s:Int),zI c2,zI c3,zI c4,zI c5,zI c6]⟩,(.map (some rm))] ro (LM++Z) (fun r Y=>∃F' L' Z',r= zI 0∧Y=L'++Z'∧ki rm pF F' L'∧F'.map (·.1)=bK S∧MV Z' F' (gU (J0 (s:Int) l))):=by
 obtain⟨ws,ht,dk⟩:=hS
 obtain⟨eG,AN,AK,dR,rfl,AM,s9,s8⟩:=ht
 have hln:=dk.len
 have Jq:=hO.two
 have IJ:=(List.getElem?_eq_some_iff.1 hl).1
 have hlm:=List.mem_of_getElem? hl
 have hll:=hO.len _ hlm
 refine bG av [.l LM,.l Z] [] bh<|zD 2<|jn fun b3=>jn fun b4=>jd 9 [1,0] ?_
 obtain⟨eF,dK⟩:=zG ws s
 refine iM dR 1 s9 dK ?_
 obtain⟨QA,aaM,HE⟩:=dk.get dK
 obtain aSJ:=hO.len _ (List.mem_of_getElem? aaM)
 obtain UU:QA=l:=Option.some.inj (aaM.symm.trans hl)
 obtain aRD:=hO.ok _ (List.mem_of_getElem? aaM)
 obtain⟨as2,aPU,aPS,adX,rfl,aPT,as1,as0⟩:=HE
 refine jl 0 (s8 _ _ dK)<|zD 4<|ek [1,0,1,0,0] [] (fun(zz:Nat×(List (an×Value))×Cells×Cells)=>[(2,(.map (some rm))),(4,zP b4),(6,zI 0),(15,.slice as2 QA.length adX),(16,zI (QA.length:Int)),(17,zI (zz.1:Int))]) (fun(zz:Nat×(List (an×Value))×Cells×Cells)=>[.l zz.2.2.1,.l zz.2.2.2,.b b4 (.cells ⟨[zI ck,zI (s:Int),zI c2,zI c3,zI c4,zI c5,zI c6]⟩ 77 (0,0)),.b b3 (.cells ⟨[.slice eG ws.length dR]⟩ 27 (0,0))]) (fun(zz:Nat×(List (an×Value))×Cells×Cells)=>zz.1≤QA.length∧ki rm pF zz.2.1 zz.2.2.1∧zz.2.1.map (·.1)=bK S∧MV zz.2.2.2 zz.2.1 (gU ((J0 (s:Int) l).take zz.1))) (fun(zz:Nat×(List (an×Value))×Cells×Cells)=>QA.length-zz.1) (⟨0,F,LM,Z⟩) ⟨by dsimp only;omega,hm,hk,hM⟩ [2,3,0,1] ?_
 rintro⟨i,F,LM,Z⟩ hI K1 bM rest
 dsimp only at hI
 refine zD 5<|zJ 18 ((i:Int) <(QA.length:Int)) (fun h1=>?_) fun h1=>?_
 ·
  refine zD 6 ?_
  obtain⟨Fi,ye⟩:=zG QA i
  refine iM adX 2 as1 ye<|jl 0 (as0 _ _ ye)<|jn fun b8=>jd 3 [0] ?_
  have Js:=aRD _ (List.mem_of_getElem? ye)
  have aR2:=Js.1.1
  have aR1:=Js.1.2
  refine jd 3 [0]<|ja (Fi.n-1) (by omega)<|jd 6 [0]<|jp (vs:=[.agg ⟨[zI Fi.n,zI Fi.l]⟩]) [] [] (fun aC hs hZ=>(aHC (x:=Fi)))<|zD 1<|js 25 (ya Fi.n) (fun h2=>?_) (fun h2=>?_)
  ·
   refine jd 4 [0]<|ja (Fi.n+1) (by omega)<|jd 13 [3,0,3,0]<|jp (vs:=[zI (s:Int),zI (Fi.n+1),zI Fi.l]) [] [] (fun aC hs hZ=>gAt)<|aM 11 fun B3 Cb zp=>jn fun dE=>bI zp [1,2,3,4,5]<|aM 12 fun rZ r8 p8=>jmu (kv:=pF) (F:=F) (r:=rm) (K:=164) 2 (mU (s:Int) Fi) (.slice (some ⟨dE,0,none⟩) 1 1) Ea hI.2.1 fun Lm5 hm5=>eo p8<|zD 2<|ja ((i:Int)+1) (by omega)<|zD 2 ?_
   have hup:=MV.upd (T:=164) (b:=dE) (y:=⟨s,Fi.n+1,Fi.l⟩) hO hI.2.2.2 hI.2.2.1 hl (by rw[←UU];exact List.mem_of_getElem? ye)
   exact KY bM (⟨i+1,_,Lm5,Z++[(dE,.cells ⟨[zI (s:Int),zI (Fi.n+1),zI Fi.l]⟩ 164 (0,0))]⟩) ⟨by dsimp only;omega,hm5,hup.2,by rw[fg (WA (by rw[←UU];exact ye))];rw[if_pos (by assumption)];exact hup.1⟩ (by dsimp only;omega) [[0],[3,1],[4],[5]] (Sub.refl _)
  refine jd 13 [3,0,3,0]<|jp (vs:=[zI (s:Int),zI (Fi.n-1),zI Fi.l]) [] [] (fun aC hs hZ=>gAt)<|aM 11 fun sL sR rn=>jn fun dE=>bI rn [1,2,3,4,5]<|aM 12 fun B2 Ca C8=>jmu (kv:=pF) (F:=F) (r:=rm) (K:=164) 2 (mU (s:Int) Fi) (.slice (some ⟨dE,0,none⟩) 1 1) Ea hI.2.1 fun Lm8 hm8=>eo C8<|zD 2<|ja ((i:Int)+1) (by omega)<|zD 2 ?_
  have hup:=MV.upd (T:=164) (b:=dE) (y:=⟨s,Fi.n-1,Fi.l⟩) hO hI.2.2.2 hI.2.2.1 hl (by rw[←UU];exact List.mem_of_getElem? ye)
  exact KY bM (⟨i+1,_,Lm8,Z++[(dE,.cells ⟨[zI (s:Int),zI (Fi.n-1),zI Fi.l]⟩ 164 (0,0))]⟩) ⟨by dsimp only;omega,hm8,hup.2,by rw[fg (WA (by rw[←UU];exact ye))];rw[if_neg (by rw[show ya Fi.n=false from (by assumption)];decide)];exact hup.1⟩ (by dsimp only;omega) [[0],[3,1],[4],[5]] (Sub.refl _)
 refine zD 7<|aH q0 (zI 0) [] [0,1] (LM++Z) (Sub.refl _) ⟨_,_,rfl,rfl,F,LM,Z,rfl,rfl,hI.2.1,hI.2.2.1,by have:=hI.2.2.2;rwa[List.take_of_length_le (by simp only[J0,List.length_map];rw[←UU];omega)] at this⟩
theorem anY{v:Value}{S:List (List ah)}{o:Nat}{l lo:List ah}{ck c3 c4:Int}{F:List (an×Value)}{ro:Nat→Option Obj}(hS:cZ ro v S)(hO:fw S)(hl:S[s]?=some l) (hm:ki rm pF F LM) (hk:F.map (·.1)=bK S) (hM:MV Z F id) (Be:S[o]?=some lo):eV zT 243 [.agg ⟨[v]⟩,.agg ⟨[zI ck,zI (s:Int),zI (o:Int),zI c3,zI c4,zI c5,zI c6]⟩,(.map (some rm))] ro (LM++Z) (fun r Y=>∃F' L' Z',r= zI 0∧Y=L'++Z'∧ki rm pF F' L'∧F'.map (·.1)=bK S∧MV Z' F' (gU (KX (s:Int) (o:Int) l (sg lo)))):=by
 obtain⟨ws,ht,dk⟩:=hS
 obtain⟨eG,AN,AK,dR,rfl,AM,s9,s8⟩:=ht
 have hln:=dk.len
 have Jq:=hO.two
 have IJ:=(List.getElem?_eq_some_iff.1 hl).1
 have hlm:=List.mem_of_getElem? hl
 have hll:=hO.len _ hlm
 have hso:=(List.getElem?_eq_some_iff.1 Be).1
 have aEb:=List.mem_of_getElem? Be
 have hr:=adQ (hO.ok _ aEb)
 have bfN:=hO.len _ aEb
 refine bG av [.l LM,.l Z] [] bh<|zD 2<|jn fun b3=>jn fun b4=>jd 8 [1,0] ?_
 obtain⟨Wh,G5⟩:=zG ws s
 refine iM dR 1 s9 G5 ?_
 obtain⟨l18,avo,Ru⟩:=dk.get G5
 obtain bfH:=hO.len _ (List.mem_of_getElem? avo)
 obtain UT:l18=l:=Option.some.inj (avo.symm.trans hl)
 obtain dV:=hO.ok _ (List.mem_of_getElem? avo)
 obtain⟨aBE,bdN,bdL,asZ,rfl,bdM,aPH,aPG⟩:=Ru
 refine jl 0 (s8 _ _ G5)<|jd 4 [1,0] ?_
 obtain⟨vx,tv⟩:=zG ws o
 refine iM dR 1 s9 tv ?_
 obtain⟨Uj,UP,h24⟩:=dk.get tv
 obtain aD9:=hO.len _ (List.mem_of_getElem? UP)
 obtain ag5:Uj=lo:=Option.some.inj (UP.symm.trans Be)
 obtain aDi:=hO.ok _ (List.mem_of_getElem? UP)
 obtain⟨asY,aBw,aBu,adW,rfl,aBv,alL,alK⟩:=h24
 refine jl 0 (s8 _ _ tv)<|zD 10<|ja ((l18.length:Int)+(Uj.length:Int)) (by omega)<|zD 2<|zJ 30 (((l18.length:Int)+(Uj.length:Int))>8) (fun h1=>?_) fun h1=>?_
 ·
  exfalso;omega
 refine zD 18<|A6 [1,1,1,1,1] [] (fun(zz:Int)=>[(2,(.map (some rm))),(4,zP b4),(6,zI 0),(7,.slice aBE l18.length asZ),(9,zI zz)]) (fun(zz:Int)=>[.l LM,.l Z,.b b4 (.cells ⟨[zI ck,zI (s:Int),zI (o:Int),zI c3,zI c4,zI c5,zI c6]⟩ 77 (0,0)),.b b3 (.cells ⟨[.slice eG ws.length dR]⟩ 27 (0,0))]) (fun(zz:Int)=>zz=sg lo) ?_ (fun K1 bM=>?_)
 ·
  rintro q hQ rest
  refine zD 8<|ek [1,1,1,1,1,0,1,0,0] [] (fun(zz:Nat×(List (an×Value))×Cells×Cells)=>[(2,(.map (some rm))),(4,zP b4),(9,zI q),(49,.slice aBE l18.length asZ),(50,zI (l18.length:Int)),(51,zI (zz.1:Int))]) (fun(zz:Nat×(List (an×Value))×Cells×Cells)=>[.l zz.2.2.1,.l zz.2.2.2,.b b4 (.cells ⟨[zI ck,zI (s:Int),zI (o:Int),zI c3,zI c4,zI c5,zI c6]⟩ 77 (0,0)),.b b3 (.cells ⟨[.slice eG ws.length dR]⟩ 27 (0,0))]) (fun(zz:Nat×(List (an×Value))×Cells×Cells)=>zz.1≤l18.length∧ki rm pF zz.2.1 zz.2.2.1∧zz.2.1.map (·.1)=bK S∧MV zz.2.2.2 zz.2.1 (gU ((KX (s:Int) (o:Int) l (sg lo)).take zz.1))) (fun(zz:Nat×(List (an×Value))×Cells×Cells)=>l18.length-zz.1) (⟨0,F,LM,Z⟩) ⟨by dsimp only;omega,hm,hk,hM⟩ [0,1,2,3] ?_
  rintro⟨i,F,LM,Z⟩ hI K2 lI rest
  dsimp only at hI
  refine zD 5<|zJ 52 ((i:Int) <(l18.length:Int)) (fun h2=>?_) fun h2=>?_
  ·
   refine zD 6 ?_
   obtain⟨x53,afH⟩:=zG l18 i
   refine iM asZ 2 aPH afH<|jl 0 (aPG _ _ afH)<|jn fun iD=>jd 4 [0] ?_
   have Js:=dV _ (List.mem_of_getElem? afH)
   have aR2:=Js.1.1
   have aR1:=Js.1.2
   refine jd 4 [0]<|ja (x53.n+q) (by omega)<|zD 2<|zJ 59 ((x53.n+q)>40) (fun h3=>?_) fun h3=>?_
   ·
    exfalso;omega
   refine jd 13 [3,0,3,0]<|ja (x53.n+q) (by omega)<|jd 2 [0]<|jp (vs:=[zI (o:Int),zI (x53.n+q),zI x53.l]) [] [] (fun aC hs hZ=>gAt)<|aM 14 fun rZ r8 p8=>jn fun b74=>bI p8 [1,2,3,4,5]<|aM 15 fun sL sR rn=>jmu (kv:=pF) (F:=F) (r:=rm) (K:=164) 2 (mU (s:Int) x53) (.slice (some ⟨b74,0,none⟩) 1 1) Ea hI.2.1 fun Lm6 hm6=>eo rn<|zD 2<|ja ((i:Int)+1) (by omega)<|zD 2 ?_
   have hup:=MV.upd (T:=164) (b:=b74) (y:=⟨o,x53.n+q,x53.l⟩) hO hI.2.2.2 hI.2.2.1 hl (by rw[←UT];exact List.mem_of_getElem? afH)
   exact KY lI (⟨i+1,_,Lm6,Z++[(b74,.cells ⟨[zI (o:Int),zI (x53.n+q),zI x53.l]⟩ 164 (0,0))]⟩) ⟨by dsimp only;omega,hm6,hup.2,by rw[fg (amS (by rw[←UT];exact afH))];have e:=hup.1;rw[hQ] at e ⊢;exact e⟩ (by dsimp only;omega) [[0],[3,1],[4],[5]] (Sub.refl _)
  refine zD 7<|aH q0 (zI 0) [] [0,1] (LM++Z) (Sub.refl _) ⟨_,_,rfl,rfl,F,LM,Z,rfl,rfl,hI.2.1,hI.2.2.1,by have:=hI.2.2.2;rwa[List.take_of_length_le (by simp only[KX,List.length_map];rw[←UT];omega)] at this⟩
 refine zJ 34 ((Uj.length:Int)>0) (fun h7=>?_) fun h7=>?_
 ·
  refine zD 4<|ja ((Uj.length:Int)-1) (by omega) ?_
  obtain⟨x38,Np⟩:=zG Uj ((((Uj.length:Int)-1)).toNat)
  refine OB ((Uj.length:Int)-1) adW 2 alL Np (by omega)<|zD 1<|jl 0 (alK _ _ Np)<|zD 2<|ja ((Uj.length:Int)-1) (by omega) ?_
  obtain⟨Zf,Jo⟩:=zG Uj ((((Uj.length:Int)-1)).toNat)
  refine OB ((Uj.length:Int)-1) adW 2 alL Jo (by omega)<|zD 1<|jl 0 (alK _ _ Jo)<|zD 1<|ja (x38.n+(Int.tmod Zf.n 2)) (by have h1:=(aDi _ (List.mem_of_getElem? Np)).1;have h2:=(aDi _ (List.mem_of_getElem? Jo)).1;have:=tm2 h2;omega) ?_
  refine zD 2 ?_
  have hra:=raise_at Np
  rw[ag5] at hra
  exact bA bM (x38.n+(Int.tmod Zf.n 2)) (by rw[←ag5];have e:x38=Zf:=Option.some.inj (Np.symm.trans Jo);subst e;exact(raise_at Np).symm) Nat.zero_lt_one [2,3,0,1] (Sub.refl _)
 refine zD 2<|bA bM 0 (by rw[←ag5];exact(ZO (by omega)).symm) Nat.zero_lt_one [2,3,0,1] (Sub.refl _)
def axh(S:List (List ah))(c:aF):List (an×an):=
 if c.k=1 then acQ c.st (S[c.st.toNat]?.getD []) else if c.k=2 then J0 c.st (S[c.st.toNat]?.getD []) else KX c.st c.ot (S[c.st.toNat]?.getD []) (sg (S[c.ot.toNat]?.getD []))
def y5(S:List (List ah))(c:aF)(x:an):an:=gU (axh S c) x
theorem qo{l:List α}(h:l.length=2):∃a b,l=[a,b]:=by
 match l,h with
 | [a,b],_=>exact⟨a,b,rfl⟩
theorem RB{ro:Nat→Option Obj}:dz zT 220 [] ro (.agg ⟨[.nilFunc,.func (.func 240) ⟨[]⟩ ⟨[]⟩,.func (.func 241) ⟨[]⟩ ⟨[]⟩,.func (.func 242) ⟨[]⟩ ⟨[]⟩,.func (.func 243) ⟨[]⟩ ⟨[]⟩,.func (.func 244) ⟨[]⟩ ⟨[]⟩,.func (.func 245) ⟨[]⟩ ⟨[]⟩,.func (.func 246) ⟨[]⟩ ⟨[]⟩]⟩):=by
 refine bG av [] [] bh<|zD 2<|jn fun b0=>jd 7 [0]<|aH q0 (.agg ⟨[.nilFunc,.func (.func 240) ⟨[]⟩ ⟨[]⟩,.func (.func 241) ⟨[]⟩ ⟨[]⟩,.func (.func 242) ⟨[]⟩ ⟨[]⟩,.func (.func 243) ⟨[]⟩ ⟨[]⟩,.func (.func 244) ⟨[]⟩ ⟨[]⟩,.func (.func 245) ⟨[]⟩ ⟨[]⟩,.func (.func 246) ⟨[]⟩ ⟨[]⟩]⟩) [0] [] [] (Sub.refl _) ⟨_,_,rfl,rfl,rfl,rfl⟩
theorem aHO{v:Value}{S:List (List ah)}{ro:Nat→Option Obj}(hS:cZ ro v S)(hO:fw S):eV zT 194 [.agg ⟨[v]⟩,.agg ⟨[zI 1,zI 0,zI 0,zI 0,zI 0,zI 0,zI 0]⟩] ro [] (fun r Y=>∃rm F LM Z,r= .tuple ⟨[.map (some rm),zI 0]⟩∧Y=LM++Z∧ki rm pF F LM∧F.map (·.1)=bK S∧MV Z F (y5 S ⟨1,0,0,0,0,0,0⟩)):=by
 obtain⟨p,q,rfl⟩:=qo hO.two
 have yx:=hS
 obtain⟨ws,ht,dk⟩:=hS
 obtain⟨w1,w2,rfl⟩:=qo (dk.len.trans hO.two)
 obtain⟨eG,AN,AK,dR,rfl,AM,s9,s8⟩:=ht
 refine bG av [] [] bh<|zD 2<|jn fun b2=>jn fun b3=>jd 8 [0]<|jp (vs:=[zI 1,zI 1,zI 7]) [] [] (fun aC hs hZ=>Bm)<|jd 18 [1,0]<|jp (vs:=[zI 0,zI 0,zI 1]) [] [] (fun aC hs hZ=>Bm)<|jd 70 [0,0,0,0,0,0]<|jne GG (wZ 0 0 0 0)<|zD 3<|js 73 (!(0==0&&(0==0&&true))) (fun h1=>?_) (fun h1=>?_)
 ·
  have gD:=h1
  try simp only[zB] at gD
  exact absurd gD (by decide)
 have gD:=h1
 try simp only[zB] at gD
 refine jd 6 [0]<|jne GG (wZ 0 0 0 0)<|zD 3<|js 82 (!(0==0&&(0==0&&true))) (fun h2=>?_) (fun h2=>?_)
 ·
  exact absurd h2 (by decide)
 refine jd 5 [1]<|jc (vs:=[.agg ⟨[.slice eG 2 dR]⟩]) [] (Lr (yx) hO) ?_
 rintro _ _ ⟨rm,F,LM,Z,rfl,rfl,hmM,hkM,hMM⟩
 refine jg 0 [.l LM,.l Z]<|jd 10 [2,3,2]<|jp [] [] (fun aC hs hZ=>RB)<|zD 1<|aM 7 fun B4 Cc yy=>jc (vs:=[.agg ⟨[.slice eG 2 dR]⟩,.agg ⟨[zI 1,zI 0,zI 0,zI 0,zI 0,zI 0,zI 0]⟩,(.map (some rm))]) [0,1] (Yo (s:=0) yx hO rfl hmM hkM hMM) ?_
 rintro _ _ ⟨F2,Ov,Z2,rfl,rfl,Fy,iN,hM2⟩
 refine jg 0 [.l Ov,.l Z2]<|gY yy [[2]]<|zD 16<|aH q0 (.tuple ⟨[(.map (some rm)),zI 0]⟩) [] [0,1] (Ov++Z2) (Sub.refl _) ⟨_,_,rfl,rfl,rm,F2,Ov,Z2,rfl,rfl,Fy,iN,hM2⟩
theorem aHN{v:Value}{S:List (List ah)}{ro:Nat→Option Obj}(hS:cZ ro v S)(hO:fw S):eV zT 194 [.agg ⟨[v]⟩,.agg ⟨[zI 2,zI 0,zI 0,zI 0,zI 0,zI 0,zI 0]⟩] ro [] (fun r Y=>∃rm F LM Z,r= .tuple ⟨[.map (some rm),zI 0]⟩∧Y=LM++Z∧ki rm pF F LM∧F.map (·.1)=bK S∧MV Z F (y5 S ⟨2,0,0,0,0,0,0⟩)):=by
 obtain⟨p,q,rfl⟩:=qo hO.two
 have yx:=hS
 obtain⟨ws,ht,dk⟩:=hS
 obtain⟨w1,w2,rfl⟩:=qo (dk.len.trans hO.two)
 obtain⟨eG,AN,AK,dR,rfl,AM,s9,s8⟩:=ht
 refine bG av [] [] bh<|zD 2<|jn fun b2=>jn fun b3=>jd 8 [0]<|jp (vs:=[zI 2,zI 1,zI 7]) [] [] (fun aC hs hZ=>Bm)<|jd 18 [1,0]<|jp (vs:=[zI 0,zI 0,zI 1]) [] [] (fun aC hs hZ=>Bm)<|jd 70 [0,0,0,0,0,0]<|jne GG (wZ 0 0 0 0)<|zD 3<|js 73 (!(0==0&&(0==0&&true))) (fun h1=>?_) (fun h1=>?_)
 ·
  have gD:=h1
  try simp only[zB] at gD
  exact absurd gD (by decide)
 have gD:=h1
 try simp only[zB] at gD
 refine jd 6 [0]<|jne GG (wZ 0 0 0 0)<|zD 3<|js 82 (!(0==0&&(0==0&&true))) (fun h2=>?_) (fun h2=>?_)
 ·
  exact absurd h2 (by decide)
 refine jd 5 [1]<|jc (vs:=[.agg ⟨[.slice eG 2 dR]⟩]) [] (Lr (yx) hO) ?_
 rintro _ _ ⟨rm,F,LM,Z,rfl,rfl,hmM,hkM,hMM⟩
 refine jg 0 [.l LM,.l Z]<|jd 10 [2,3,2]<|jp [] [] (fun aC hs hZ=>RB)<|zD 1<|aM 7 fun B4 Cc yy=>jc (vs:=[.agg ⟨[.slice eG 2 dR]⟩,.agg ⟨[zI 2,zI 0,zI 0,zI 0,zI 0,zI 0,zI 0]⟩,(.map (some rm))]) [0,1] (RA (s:=0) yx hO rfl hmM hkM hMM) ?_
 rintro _ _ ⟨F2,Ov,Z2,rfl,rfl,Fy,iN,hM2⟩
 refine jg 0 [.l Ov,.l Z2]<|gY yy [[2]]<|zD 16<|aH q0 (.tuple ⟨[(.map (some rm)),zI 0]⟩) [] [0,1] (Ov++Z2) (Sub.refl _) ⟨_,_,rfl,rfl,rm,F2,Ov,Z2,rfl,rfl,Fy,iN,hM2⟩
theorem aHM{v:Value}{S:List (List ah)}{ro:Nat→Option Obj}(hS:cZ ro v S)(hO:fw S):eV zT 194 [.agg ⟨[v]⟩,.agg ⟨[zI 1,zI 1,zI 0,zI 0,zI 0,zI 0,zI 0]⟩] ro [] (fun r Y=>∃rm F LM Z,r= .tuple ⟨[.map (some rm),zI 0]⟩∧Y=LM++Z∧ki rm pF F LM∧F.map (·.1)=bK S∧MV Z F (y5 S ⟨1,1,0,0,0,0,0⟩)):=by
 obtain⟨p,q,rfl⟩:=qo hO.two
 have yx:=hS
 obtain⟨ws,ht,dk⟩:=hS
 obtain⟨w1,w2,rfl⟩:=qo (dk.len.trans hO.two)
 obtain⟨eG,AN,AK,dR,rfl,AM,s9,s8⟩:=ht
 refine bG av [] [] bh<|zD 2<|jn fun b2=>jn fun b3=>jd 8 [0]<|jp (vs:=[zI 1,zI 1,zI 7]) [] [] (fun aC hs hZ=>Bm)<|jd 18 [1,0]<|jp (vs:=[zI 1,zI 0,zI 1]) [] [] (fun aC hs hZ=>Bm)<|jd 70 [0,0,0,0,0,0]<|jne GG (wZ 0 0 0 0)<|zD 3<|js 73 (!(0==0&&(0==0&&true))) (fun h1=>?_) (fun h1=>?_)
 ·
  have gD:=h1
  try simp only[zB] at gD
  exact absurd gD (by decide)
 have gD:=h1
 try simp only[zB] at gD
 refine jd 6 [0]<|jne GG (wZ 0 0 0 0)<|zD 3<|js 82 (!(0==0&&(0==0&&true))) (fun h2=>?_) (fun h2=>?_)
 ·
  exact absurd h2 (by decide)
 refine jd 5 [1]<|jc (vs:=[.agg ⟨[.slice eG 2 dR]⟩]) [] (Lr (yx) hO) ?_
 rintro _ _ ⟨rm,F,LM,Z,rfl,rfl,hmM,hkM,hMM⟩
 refine jg 0 [.l LM,.l Z]<|jd 10 [2,3,2]<|jp [] [] (fun aC hs hZ=>RB)<|zD 1<|aM 7 fun B4 Cc yy=>jc (vs:=[.agg ⟨[.slice eG 2 dR]⟩,.agg ⟨[zI 1,zI 1,zI 0,zI 0,zI 0,zI 0,zI 0]⟩,(.map (some rm))]) [0,1] (Yo (s:=1) yx hO rfl hmM hkM hMM) ?_
 rintro _ _ ⟨F2,Ov,Z2,rfl,rfl,Fy,iN,hM2⟩
 refine jg 0 [.l Ov,.l Z2]<|gY yy [[2]]<|zD 16<|aH q0 (.tuple ⟨[(.map (some rm)),zI 0]⟩) [] [0,1] (Ov++Z2) (Sub.refl _) ⟨_,_,rfl,rfl,rm,F2,Ov,Z2,rfl,rfl,Fy,iN,hM2⟩
theorem aHL{v:Value}{S:List (List ah)}{ro:Nat→Option Obj}(hS:cZ ro v S)(hO:fw S):eV zT 194 [.agg ⟨[v]⟩,.agg ⟨[zI 2,zI 1,zI 0,zI 0,zI 0,zI 0,zI 0]⟩] ro [] (fun r Y=>∃rm F LM Z,r= .tuple ⟨[.map (some rm),zI 0]⟩∧Y=LM++Z∧ki rm pF F LM∧F.map (·.1)=bK S∧MV Z F (y5 S ⟨2,1,0,0,0,0,0⟩)):=by
 obtain⟨p,q,rfl⟩:=qo hO.two
 have yx:=hS
 obtain⟨ws,ht,dk⟩:=hS
 obtain⟨w1,w2,rfl⟩:=qo (dk.len.trans hO.two)
 obtain⟨eG,AN,AK,dR,rfl,AM,s9,s8⟩:=ht
 refine bG av [] [] bh<|zD 2<|jn fun b2=>jn fun b3=>jd 8 [0]<|jp (vs:=[zI 2,zI 1,zI 7]) [] [] (fun aC hs hZ=>Bm)<|jd 18 [1,0]<|jp (vs:=[zI 1,zI 0,zI 1]) [] [] (fun aC hs hZ=>Bm)<|jd 70 [0,0,0,0,0,0]<|jne GG (wZ 0 0 0 0)<|zD 3<|js 73 (!(0==0&&(0==0&&true))) (fun h1=>?_) (fun h1=>?_)
 ·
  have gD:=h1
  try simp only[zB] at gD
  exact absurd gD (by decide)
 have gD:=h1
 try simp only[zB] at gD
 refine jd 6 [0]<|jne GG (wZ 0 0 0 0)<|zD 3<|js 82 (!(0==0&&(0==0&&true))) (fun h2=>?_) (fun h2=>?_)
 ·
  exact absurd h2 (by decide)
 refine jd 5 [1]<|jc (vs:=[.agg ⟨[.slice eG 2 dR]⟩]) [] (Lr (yx) hO) ?_
 rintro _ _ ⟨rm,F,LM,Z,rfl,rfl,hmM,hkM,hMM⟩
 refine jg 0 [.l LM,.l Z]<|jd 10 [2,3,2]<|jp [] [] (fun aC hs hZ=>RB)<|zD 1<|aM 7 fun B4 Cc yy=>jc (vs:=[.agg ⟨[.slice eG 2 dR]⟩,.agg ⟨[zI 2,zI 1,zI 0,zI 0,zI 0,zI 0,zI 0]⟩,(.map (some rm))]) [0,1] (RA (s:=1) yx hO rfl hmM hkM hMM) ?_
 rintro _ _ ⟨F2,Ov,Z2,rfl,rfl,Fy,iN,hM2⟩
 refine jg 0 [.l Ov,.l Z2]<|gY yy [[2]]<|zD 16<|aH q0 (.tuple ⟨[(.map (some rm)),zI 0]⟩) [] [0,1] (Ov++Z2) (Sub.refl _) ⟨_,_,rfl,rfl,rm,F2,Ov,Z2,rfl,rfl,Fy,iN,hM2⟩
theorem aHK{v:Value}{S:List (List ah)}{ro:Nat→Option Obj}(hS:cZ ro v S)(hO:fw S):eV zT 194 [.agg ⟨[v]⟩,.agg ⟨[zI 4,zI 1,zI 0,zI 0,zI 0,zI 0,zI 0]⟩] ro [] (fun r Y=>∃rm F LM Z,r= .tuple ⟨[.map (some rm),zI 0]⟩∧Y=LM++Z∧ki rm pF F LM∧F.map (·.1)=bK S∧MV Z F (y5 S ⟨4,1,0,0,0,0,0⟩)):=by
 obtain⟨p,q,rfl⟩:=qo hO.two
 have yx:=hS
 obtain⟨ws,ht,dk⟩:=hS
 obtain⟨w1,w2,rfl⟩:=qo (dk.len.trans hO.two)
 obtain⟨eG,AN,AK,dR,rfl,AM,s9,s8⟩:=ht
 refine bG av [] [] bh<|zD 2<|jn fun b2=>jn fun b3=>jd 8 [0]<|jp (vs:=[zI 4,zI 1,zI 7]) [] [] (fun aC hs hZ=>Bm)<|jd 18 [1,0]<|jp (vs:=[zI 1,zI 0,zI 1]) [] [] (fun aC hs hZ=>Bm)<|jd 33 [0,0,0,0]<|jp (vs:=[zI 0,zI 0,zI 1]) [] [] (fun aC hs hZ=>Bm)<|jd 36 [0,0,0]<|jne GG (wZ 0 0 0 0)<|zD 3<|js 73 (!(0==0&&(0==0&&true))) (fun h1=>?_) (fun h1=>?_)
 ·
  have gD:=h1
  try simp only[zB] at gD
  exact absurd gD (by decide)
 have gD:=h1
 try simp only[zB] at gD
 refine jd 6 [0]<|jne GG (wZ 0 0 0 0)<|zD 3<|js 82 (!(0==0&&(0==0&&true))) (fun h2=>?_) (fun h2=>?_)
 ·
  exact absurd h2 (by decide)
 refine jd 5 [1]<|jc (vs:=[.agg ⟨[.slice eG 2 dR]⟩]) [] (Lr (yx) hO) ?_
 rintro _ _ ⟨rm,F,LM,Z,rfl,rfl,hmM,hkM,hMM⟩
 refine jg 0 [.l LM,.l Z]<|jd 10 [2,3,2]<|jp [] [] (fun aC hs hZ=>RB)<|zD 1<|aM 7 fun B4 Cc yy=>jc (vs:=[.agg ⟨[.slice eG 2 dR]⟩,.agg ⟨[zI 4,zI 1,zI 0,zI 0,zI 0,zI 0,zI 0]⟩,(.map (some rm))]) [0,1] (anY (s:=1) (o:=0) yx hO rfl hmM hkM hMM rfl) ?_
 rintro _ _ ⟨F2,Ov,Z2,rfl,rfl,Fy,iN,hM2⟩
 refine jg 0 [.l Ov,.l Z2]<|gY yy [[2]]<|zD 16<|aH q0 (.tuple ⟨[(.map (some rm)),zI 0]⟩) [] [0,1] (Ov++Z2) (Sub.refl _) ⟨_,_,rfl,rfl,rm,F2,Ov,Z2,rfl,rfl,Fy,iN,hM2⟩
def aam(n:Nat):Int:=if n=0 then 0 else if n <2 then 1 else if n <4 then 2 else if n <8 then 3 else 4
theorem aw7{ro:Nat→Option Obj}:∀ {n:Nat},n≤12→dz zT 180 [zU (n:Int)] ro (zI (aam n))
 |0,_=>by refine bG av [] [] bh (zD 35 (ja 0 (by decide) (zD 3 ?_)));exact aH q0 (zI 0) [] [] [] (Sub.refl _) ⟨_,_,rfl,rfl,rfl,rfl⟩
 |1,_=>by refine bG av [] [] bh (zD 35 (ja 1 (by decide) (zD 3 ?_)));exact aH q0 (zI 1) [] [] [] (Sub.refl _) ⟨_,_,rfl,rfl,rfl,rfl⟩
 |2,_=>by refine bG av [] [] bh (zD 35 (ja 2 (by decide) (zD 3 ?_)));exact aH q0 (zI 2) [] [] [] (Sub.refl _) ⟨_,_,rfl,rfl,rfl,rfl⟩
 |3,_=>by refine bG av [] [] bh (zD 35 (ja 2 (by decide) (zD 3 ?_)));exact aH q0 (zI 2) [] [] [] (Sub.refl _) ⟨_,_,rfl,rfl,rfl,rfl⟩
 |4,_=>by refine bG av [] [] bh (zD 35 (ja 3 (by decide) (zD 3 ?_)));exact aH q0 (zI 3) [] [] [] (Sub.refl _) ⟨_,_,rfl,rfl,rfl,rfl⟩
 |5,_=>by refine bG av [] [] bh (zD 35 (ja 3 (by decide) (zD 3 ?_)));exact aH q0 (zI 3) [] [] [] (Sub.refl _) ⟨_,_,rfl,rfl,rfl,rfl⟩
 |6,_=>by refine bG av [] [] bh (zD 35 (ja 3 (by decide) (zD 3 ?_)));exact aH q0 (zI 3) [] [] [] (Sub.refl _) ⟨_,_,rfl,rfl,rfl,rfl⟩
 |7,_=>by refine bG av [] [] bh (zD 35 (ja 3 (by decide) (zD 3 ?_)));exact aH q0 (zI 3) [] [] [] (Sub.refl _) ⟨_,_,rfl,rfl,rfl,rfl⟩
 |8,_=>by refine bG av [] [] bh (zD 35 (ja 4 (by decide) (zD 3 ?_)));exact aH q0 (zI 4) [] [] [] (Sub.refl _) ⟨_,_,rfl,rfl,rfl,rfl⟩
 |9,_=>by refine bG av [] [] bh (zD 35 (ja 4 (by decide) (zD 3 ?_)));exact aH q0 (zI 4) [] [] [] (Sub.refl _) ⟨_,_,rfl,rfl,rfl,rfl⟩
 |10,_=>by refine bG av [] [] bh (zD 35 (ja 4 (by decide) (zD 3 ?_)));exact aH q0 (zI 4) [] [] [] (Sub.refl _) ⟨_,_,rfl,rfl,rfl,rfl⟩
 |11,_=>by refine bG av [] [] bh (zD 35 (ja 4 (by decide) (zD 3 ?_)));exact aH q0 (zI 4) [] [] [] (Sub.refl _) ⟨_,_,rfl,rfl,rfl,rfl⟩
 |12,_=>by refine bG av [] [] bh (zD 35 (ja 4 (by decide) (zD 3 ?_)));exact aH q0 (zI 4) [] [] [] (Sub.refl _) ⟨_,_,rfl,rfl,rfl,rfl⟩
 |n+13,h=>absurd h (by omega)
theorem ach{n:Nat}(h:n≤1000):Value.int .u64 (IntKind.u64.wrap (n:Int))= zU (n:Int):=by
 rw[sN .u64 rfl _ (by omega) (by simp[IntKind.bits];omega)]
def Om(v:Value)(xs:List ah)(Y:Cells):Prop:=∃ys,ys.Perm xs∧az v 2 73 cW ys Y
theorem aw8{n:Nat}{ro:Nat→Option Obj}(h:n≤12):dz zT 152 [zU (n:Int)] ro (zI (aam n)):=by
 refine bG av [] [] bh<|zD 10<|jp (vs:=[zU (n:Int)]) [] [] (fun aC hs hZ=>(aw7 h))<|zD 3<|aH q0 (zI (aam n)) [] [] [] (Sub.refl _) ⟨_,_,rfl,rfl,rfl,rfl⟩
theorem aVN{v:Value}{xs:List ah}{L:Cells}{a b:Int}{ro:Nat→Option Obj}(ho:az v 2 73 cW xs L)(hN:xs.length≤1000)(BX:0≤a∧a≤b∧b≤xs.length):eV zT 264 [v,zI a,zI b,.func (.func 201) ⟨[]⟩ ⟨[]⟩] ro L (fun r Y=>Om v xs Y):=by
 refine bG av [.l L] [] bh<|zD 3<|ja (a+1) (by omega)<|zD 3<|ek [1,0,0] [] (fun(zz:Int×(List ah)×Cells)=>[(0,v),(1,zI a),(2,zI b),(3,.func (.func 201) ⟨[]⟩ ⟨[]⟩),(8,zI zz.1)]) (fun(zz:Int×(List ah)×Cells)=>[.l zz.2.2]) (fun(zz:Int×(List ah)×Cells)=>(a+1≤zz.1)∧az v 2 73 cW zz.2.1 zz.2.2∧zz.2.1.Perm xs) (fun(zz:Int×(List ah)×Cells)=>(b-zz.1).toNat) (⟨(a+1),xs,L⟩) ⟨by dsimp only;omega,ho,.refl _⟩ [0] ?_
 rintro⟨i,ys,L⟩ hI K1 bM rest
 dsimp only at hI
 have XT:=hI.2.2.length_eq
 refine zD 7<|zJ 14 (i <b) (fun h1=>?_) fun h1=>?_
 ·
  refine zD 10<|ek [1,0,0,1,0,0,1,0,0] [K1] (fun(zz:Int×(List ah)×Cells)=>[(0,v),(1,zI a),(2,zI b),(3,.func (.func 201) ⟨[]⟩ ⟨[]⟩),(8,zI i),(9,zI zz.1)]) (fun(zz:Int×(List ah)×Cells)=>[.l zz.2.2]) (fun(zz:Int×(List ah)×Cells)=>(a≤zz.1∧zz.1≤i)∧az v 2 73 cW zz.2.1 zz.2.2∧zz.2.1.Perm xs) (fun(zz:Int×(List ah)×Cells)=>(zz.1-a).toNat) (⟨i,ys,L⟩) ⟨by dsimp only;omega,hI.2⟩ [0] ?_
  rintro⟨j,ys,L⟩ hJ K2 lI rest
  dsimp only at hJ
  have XT:=hJ.2.2.length_eq
  refine zD 7<|js 3 (decide (j>a)) (fun h2=>?_) (fun h2=>?_)
  ·
   have mM:=h2
   replace mM:=of_decide_eq_true mM
   refine zD 3 ?_
   obtain⟨yJ,lH⟩:=zG ys (j.toNat) (by first|omega| (simp only[List.length_set];omega))
   refine pW j 2 hJ.2.1 lH (Int.toNat_of_nonneg (show 0≤j∧j <((ys).length:Int) from (by first|omega| (simp only[List.length_set];omega))).1).symm (fun dA ahi=>?_)
   refine mY 0 [0] L (fun s _ hZ=>bU hJ.2.1 ahi hZ lH)<|zD 2<|ja (j-1) (by omega) ?_
   obtain⟨gi,jv⟩:=zG ys ((j-1).toNat) (by first|omega| (simp only[List.length_set];omega))
   refine pW (j-1) 2 hJ.2.1 jv (Int.toNat_of_nonneg (show 0≤(j-1)∧(j-1) <((ys).length:Int) from (by first|omega| (simp only[List.length_set];omega))).1).symm (fun b30 NA=>?_)
   refine mY 0 [0] L (fun s _ hZ=>bU hJ.2.1 NA hZ jv)<|aM 14 fun rZ r8 p8=>jp (vs:=[.agg ⟨[zI yJ.n,zI yJ.l]⟩,.agg ⟨[zI gi.n,zI gi.l]⟩]) [] [] (fun aC hs hZ=>(aqI (x:=yJ) (y:=gi)))<|bI p8 [0]<|zD 3<|zJ 34 ((abf yJ gi) <0) (fun h4=>?_) fun h4=>?_
   ·
    refine zD 9<|ja (j-1) (by omega)<|zD 2<|ja (j-1) (by omega) ?_
    obtain⟨x3,EU⟩:=zG ys ((j-1).toNat) (by first|omega| (simp only[List.length_set];omega))
    refine pW (j-1) 2 hJ.2.1 EU (Int.toNat_of_nonneg (show 0≤(j-1)∧(j-1) <((ys).length:Int) from (by first|omega| (simp only[List.length_set];omega))).1).symm (fun b45 ahh=>?_)
    refine mY 0 [0] L (fun s _ hZ=>bU hJ.2.1 ahh hZ EU)<|zD 2 ?_
    obtain⟨I0,ET⟩:=zG ys (j.toNat) (by first|omega| (simp only[List.length_set];omega))
    refine pW j 2 hJ.2.1 ET (Int.toNat_of_nonneg (show 0≤j∧j <((ys).length:Int) from (by first|omega| (simp only[List.length_set];omega))).1).symm (fun b49 ahg=>?_)
    refine mY 0 [0] L (fun s _ hZ=>bU hJ.2.1 ahg hZ ET) ?_
    obtain⟨x51,ES⟩:=zG ys (j.toNat) (by first|omega| (simp only[List.length_set];omega))
    refine pW j 2 hJ.2.1 ES (Int.toNat_of_nonneg (show 0≤j∧j <((ys).length:Int) from (by first|omega| (simp only[List.length_set];omega))).1).symm (fun b51 ahf=>?_)
    refine aM 15 fun sL sR rn=>QG 0 0 [zI x3.n,zI x3.l] (⟨x3.n,x3.l⟩:ah) hJ.2.1 ahf ES rfl rfl (Nat.le_of_ble_eq_true rfl) fun L6 ho7=>gY rn [] ?_
    obtain⟨x52,C1⟩:=zG ((ys.set j.toNat (⟨x3.n,x3.l⟩:ah))) ((j-1).toNat) (by first|omega| (simp only[List.length_set];omega))
    refine pW (j-1) 2 ho7 C1 (Int.toNat_of_nonneg (show 0≤(j-1)∧(j-1) <(((ys.set j.toNat (⟨x3.n,x3.l⟩:ah))).length:Int) from (by first|omega| (simp only[List.length_set];omega))).1).symm (fun b52 ahe=>?_)
    refine aM 17 fun B2 Ca C8=>QG 0 0 [zI I0.n,zI I0.l] (⟨I0.n,I0.l⟩:ah) ho7 ahe C1 rfl rfl (Nat.le_of_ble_eq_true rfl) fun L9 agC=>eo C8<|zD 3<|ja (j-1) (by omega)<|zD 2<|bA lI (⟨(j-1),((ys.set j.toNat (⟨x3.n,x3.l⟩:ah)).set ((j-1).toNat) (⟨I0.n,I0.l⟩:ah)),L9⟩) ⟨by dsimp only;omega,agC,(nX ET EU).trans hJ.2.2⟩ (by dsimp only;omega) [0] (Sub.refl _)
   refine zD 4<|ja (i+1) (by omega)<|zD 2<|bA bM (⟨(i+1),ys,L⟩) ⟨by dsimp only;omega,hJ.2⟩ (by dsimp only;omega) [0] (Sub.refl _)
  have mM:=h2
  replace mM:=of_decide_eq_false mM
  refine zD 18<|ja (i+1) (by omega)<|zD 2<|bA bM (⟨(i+1),ys,L⟩) ⟨by dsimp only;omega,hJ.2⟩ (by dsimp only;omega) [0] (Sub.refl _)
 refine zD 2<|aH q0 (.tuple ⟨[]⟩) [] [0] L (Sub.refl _) ⟨_,_,rfl,rfl,ys,hI.2.2,hI.2.1⟩
theorem aVL{v:Value}{xs:List ah}{L:Cells}{lim:Int}{ro:Nat→Option Obj}(ho:az v 2 73 cW xs L)(hN:xs.length≤12):eV zT 247 [v,zI 0,zI (xs.length:Int),zI lim,.func (.func 201) ⟨[]⟩ ⟨[]⟩] ro L (fun r Y=>Om v xs Y):=by
 refine bG av [.l L] [] bh<|zD 9<|ek [1,1,0,0] [] (fun(zz:Nat)=>[(0,v),(1,zI 0),(2,zI (xs.length:Int)),(3,zI lim),(4,.func (.func 201) ⟨[]⟩ ⟨[]⟩),(10,.bool true),(11,.bool true)]) (fun(zz:Nat)=>[.l L]) (fun(zz:Nat)=>True) (fun(zz:Nat)=>zz) 0 trivial [0] ?_
 rintro z hI K1 bM rest
 refine zD 5<|ja ((xs.length:Int)-0) (by omega)<|zD 8<|zJ 25 (((xs.length:Int)-0)≤12) (fun h1=>?_) fun h1=>?_
 ·
  refine zD 7<|jc (vs:=[v,zI 0,zI (xs.length:Int),.func (.func 201) ⟨[]⟩ ⟨[]⟩]) [0] (aVN ho (by omega) (by omega)) ?_
  rintro aAH Y30 ⟨aMa,auX,wI⟩
  refine zD 2<|aH q0 (.tuple ⟨[]⟩) [] [0] Y30 (Sub.refl _) ⟨_,_,rfl,rfl,_,auX,wI⟩
 exfalso;omega
theorem aiv{v:Value}{xs:List ah}{L:Cells}{ro:Nat→Option Obj}(ho:az v 2 73 cW xs L)(hN:xs.length≤12):eV zT 221 [v,.func (.func 201) ⟨[]⟩ ⟨[]⟩] ro L (fun r Y=>Om v xs Y):=by
 refine bG av [.l L] [] bh<|zD 3<|A5 ho<|zD 6<|je (zU (xs.length:Int)) (ach (by omega))<|jp (vs:=[zU (xs.length:Int)]) [] [] (fun aC hs hZ=>(aw8 (by omega)))<|zD 1<|jc (vs:=[v,zI 0,zI (xs.length:Int),zI (aam xs.length),.func (.func 201) ⟨[]⟩ ⟨[]⟩]) [0] (aVL ho (by omega)) ?_
 rintro aAI Y13 ⟨aMc,aaE,UK⟩
 refine zD 1<|aH q0 (.tuple ⟨[]⟩) [] [0] Y13 (Sub.refl _) ⟨_,_,rfl,rfl,_,aaE,UK⟩
theorem aHG{v:Value}{xs:List an}{L:Cells}{ro:Nat→Option Obj}(ho:az v 3 164 cL xs L)(hN:xs.length≤1):eV zT 222 [v,zI 0,zI (xs.length:Int),.func (.func 161) ⟨[]⟩ ⟨[]⟩] ro L (fun r Y=>az v 3 164 cL xs Y):=by
 refine bG av [.l L] [] bh<|zD 7<|ek [1,0,0] [] (fun(zz:Nat)=>[(0,v),(1,zI 0),(2,zI (xs.length:Int)),(3,.func (.func 161) ⟨[]⟩ ⟨[]⟩),(8,zI (0+1))]) (fun(zz:Nat)=>[.l L]) (fun(zz:Nat)=>True) (fun(zz:Nat)=>zz) 0 trivial [0] ?_
 rintro z hI K1 bM rest
 refine zD 7<|zJ 14 ((0+1) <(xs.length:Int)) (fun h1=>?_) fun h1=>?_
 ·
  exfalso;omega
 refine zD 2<|aH q0 (.tuple ⟨[]⟩) [] [0] L (Sub.refl _) ⟨_,_,rfl,rfl,ho⟩
theorem aHB{v:Value}{xs:List an}{L:Cells}{lim:Int}{ro:Nat→Option Obj}(ho:az v 3 164 cL xs L)(hN:xs.length≤1):eV zT 199 [v,zI 0,zI (xs.length:Int),zI lim,.func (.func 161) ⟨[]⟩ ⟨[]⟩] ro L (fun r Y=>az v 3 164 cL xs Y):=by
 refine bG av [.l L] [] bh<|zD 9<|ek [1,1,0,0] [] (fun(zz:Nat)=>[(0,v),(1,zI 0),(2,zI (xs.length:Int)),(3,zI lim),(4,.func (.func 161) ⟨[]⟩ ⟨[]⟩),(10,.bool true),(11,.bool true)]) (fun(zz:Nat)=>[.l L]) (fun(zz:Nat)=>True) (fun(zz:Nat)=>zz) 0 trivial [0] ?_
 rintro z hI K1 bM rest
 refine zD 5<|ja ((xs.length:Int)-0) (by omega)<|zD 8<|zJ 25 (((xs.length:Int)-0)≤12) (fun h1=>?_) fun h1=>?_
 ·
  refine zD 7<|jc (vs:=[v,zI 0,zI (xs.length:Int),.func (.func 161) ⟨[]⟩ ⟨[]⟩]) [0] (aHG ho (by omega)) ?_
  rintro aAH Y30 wI
  refine zD 2<|aH q0 (.tuple ⟨[]⟩) [] [0] Y30 (Sub.refl _) ⟨_,_,rfl,rfl,wI⟩
 exfalso;omega
theorem aw6{v:Value}{xs:List an}{L:Cells}{ro:Nat→Option Obj}(ho:az v 3 164 cL xs L)(hN:xs.length≤1):eV zT 160 [v,.func (.func 161) ⟨[]⟩ ⟨[]⟩] ro L (fun r Y=>az v 3 164 cL xs Y):=by
 refine bG av [.l L] [] bh<|zD 3<|A5 ho<|zD 6<|je (zU (xs.length:Int)) (ach (by omega))<|jp (vs:=[zU (xs.length:Int)]) [] [] (fun aC hs hZ=>(aw8 (by omega)))<|zD 1<|jc (vs:=[v,zI 0,zI (xs.length:Int),zI (aam xs.length),.func (.func 161) ⟨[]⟩ ⟨[]⟩]) [0] (aHB ho (by omega)) ?_
 rintro aAI Y13 UK
 refine zD 1<|aH q0 (.tuple ⟨[]⟩) [] [0] Y13 (Sub.refl _) ⟨_,_,rfl,rfl,UK⟩
theorem aiz{v:Value}{xs:List an}{L:Cells}{ro:Nat→Option Obj}(ho:az v 3 164 cL xs L)(hN:xs.length≤1):eV zT 162 [v] ro L (fun r Y=>v=r∧L=Y):=by
 refine bG av [.l L] [] bh<|zD 8<|A5 ho<|zD 2<|zJ 8 ((xs.length:Int) <2) (fun h1=>?_) fun h1=>?_
 ·
  refine zD 7<|aH q0 (v) [] [0] L (Sub.refl _) ⟨_,_,rfl,rfl,rfl,rfl⟩
 exfalso;omega
theorem Yp{v:Value}{xs:List an}{ro:Nat→Option Obj}(hl:bH ro v 3 cL xs)(hN:xs.length≤1):eV zT 123 [v] ro [] (fun r Y=>az r 3 164 cL xs Y):=by
 obtain⟨fL,sj,si,fp,rfl,tZ,lU,mS⟩:=hl
 refine bG av [] [] bh<|zD 7<|jc (vs:=[.slice fL xs.length fp]) [] (aVQ (show bH _ _ _ _ _ from ⟨fL,sj,si,fp,rfl,tZ,lU,mS⟩) (by first|omega| (simp only[List.length_set,List.length_append,List.length_cons,List.length_nil];omega))) ?_
 rintro v5 L5 ho5
 obtain⟨va5,vc5,he5⟩:=ho5.form
 subst he5
 refine zD 5<|jc (vs:=[(.slice va5 (xs).length vc5),.func (.func 161) ⟨[]⟩ ⟨[]⟩]) [0] (aw6 ho5 (by omega)) ?_
 rintro rv7 Y7 ho7
 refine zD 4<|jc (vs:=[(.slice va5 (xs).length vc5)]) [0] (aiz ho7 (by omega)) ?_
 rintro _ _ ⟨rfl,rfl⟩
 refine zD 3<|aH q0 ((.slice va5 (xs).length vc5)) [] [0] Y7 (Sub.refl _) ⟨_,_,rfl,rfl,ho7⟩
theorem MV.put{F:List (an×Value)}{g:an→an}(h:MV Z F g){k:an}{v:Value}(hv:∀aK,Knows aK Z2→bH aK v 3 cL [g k]):MV (Z++Z2) (mD k v F) g:=by
 have h1:∀x∈mD k v F,x=(k,v)∨x∈F:=fun x hx=>by
  unfold mD at hx
  split at hx
  ·rw[Fp] at hx
   obtain⟨i,hi⟩:=List.getElem?_of_mem hx
   rw[List.getElem?_set] at hi
   split at hi
   ·split at hi
    ·cases hi;exact .inl rfl
    cases hi
   exact .inr (List.mem_of_getElem? hi)
  rcases List.mem_append.1 hx with h|h
  ·exact .inr h
  exact .inl (List.mem_singleton.1 h)
 intro aK hr x hx
 rcases h1 x hx with rfl|hx
 ·exact hv aK hr.right
 exact h aK hr.left x hx
theorem O3[DecidableEq κ]{k x:κ}{v:Value}{F:List (κ×Value)}(h:x=k∨x∈F.map (·.1)):x∈(mD k v F).map (·.1):=by
 unfold mD
 split
 ·rename_i i u hf
  have zk:=(qU hf).2
  rw[Nat.sub_zero] at zk
  have hs:((F.set i (k,v)).map (·.1))=F.map (·.1):=by
   rw[List.map_set]
   refine List.ext_getElem? fun j=>?_
   rw[List.getElem?_set]
   split
   ·rename_i hj;subst hj;simp[zk,(List.getElem?_eq_some_iff.1 zk).1,(List.getElem?_eq_some_iff.1 zk).2]
   rfl
  rw[Fp,hs]
  rcases h with rfl|h
  ·exact List.mem_map_of_mem (f:=(·.1)) (List.mem_of_getElem? zk)
  exact h
 rw[List.map_append]
 rcases h with rfl|h
 ·exact List.mem_append_right _ (by simp)
 exact List.mem_append_left _ h
def Seen(es:Array MapEntry)(seen:List Nat)(F:List (an×Value)):Prop:=∀e∈es.toList,e∈cM es seen∨∃k,e.key=pF k∧k∈F.map (·.1)
theorem Seen.start{es:Array MapEntry}{F:List (an×Value)}:Seen es [] F:=fun e he=> .inl (by rw[CX];exact he)
theorem Seen.step{es:Array MapEntry}{F0 F:List (an×Value)}(h:Seen es seen F)(hE:tK pF F0 es ck){e:MapEntry}(he:e∈cM es seen){k:an}(hk:e.key=pF k){v:Value}:Seen es (seen++[e.born]) (mD k v F):=fun x hx=>by
 rcases h x hx with h1| ⟨q,h1,h2⟩
 ·rcases Uh hE he h1 with rfl|h2
  ·exact .inr ⟨k,hk,O3 (.inl rfl)⟩
  exact .inl h2
 exact .inr ⟨q,h1,O3 (.inr h2)⟩
theorem amv{a b:an}(h:pF a=pF b):a=b:=by
 rcases a with ⟨x,y,z⟩;rcases b with ⟨d,e,f⟩
 simp only[pF,cL,Value.agg.injEq,Array.mk.injEq,List.cons.injEq,Value.int.injEq] at h
 simp[h.1.2,h.2.1.2,h.2.2.1.2]
theorem Seen.fin{es:Array MapEntry}{F0 F:List (an×Value)}(h:Seen es seen F)(hl:cM es seen=[])(hE:tK pF F0 es ck){k:an}(hk:k∈F0.map (·.1)):k∈F.map (·.1):=by
 obtain⟨⟨k',v⟩,h1,rfl⟩:=List.mem_map.1 hk
 have:(pF k',v)∈es.toList.map (fun e=>(e.key,e.val)):=by rw[hE.1];exact List.mem_map_of_mem (f:=fun x:an×Value=>(pF x.1,x.2)) h1
 obtain⟨e,h2,h3⟩:=List.mem_map.1 this
 simp only[Prod.mk.injEq] at h3
 rcases h e h2 with h4| ⟨q,h4,h5⟩
 ·rw[hl] at h4;cases h4
 have:=amv (h3.1.symm.trans h4);subst this;exact h5
structure SA(ro:Nat→Option Obj)(r:Nat)(H:List an)(g:an→an)(es:Array MapEntry)(ck:Nat)(F:List (an×Value)):Prop where
 m:ro r=some (.map es ck)
 e:tK pF F es ck
 k:F.map (·.1)=H
 v:∀x∈F,bH ro x.2 3 cL [g x.1]
theorem GB{a x:α}(h: [a][j]?=some x):x=a∧j=0:=by
 cases j with
 |zero=>simp at h;exact⟨h.symm,rfl⟩
 |succ j=>simp at h
theorem aqG{B0:Array MapEntry}{F1:List (an×Value)}{r2 ck2:Nat}{E5:Array MapEntry}{F2:List (an×Value)}{H:List an}{g:an→an}{ro:Nat→Option Obj}(IV:SA ro r1 H id B0 IZ F1)(hP2:SA ro r2 H g E5 ck2 F2):eV zT 196 [(.map (some r1)),(.map (some r2))] ro [] (fun r Y=>∃rm F LM Z,r= .map (some rm)∧Y=LM++Z∧ki rm pF F LM∧(∀h∈H,h∈F.map (·.1))∧MV Z F g):=by
 refine bG av [] [] bh<|zD 6<|jmk pF fun Gp L11 agJ=>zD 6<|jmR IV.m fun r13=>jg 0 [.b r13 (uY r1 IZ [])]<|zD 2<|oL<|ek [1,1,0,1,0,0] [] (fun(zz:(List Nat)×(List (an×Value))×Cells×Cells)=>[(1,(.map (some r2))),(4,(.map none)),(5,(.map (some Gp))),(13,zP r13)]) (fun(zz:(List Nat)×(List (an×Value))×Cells×Cells)=>[.b r13 (uY r1 IZ zz.1),.l zz.2.2.1,.l zz.2.2.2]) (fun(zz:(List Nat)×(List (an×Value))×Cells×Cells)=>ki Gp pF zz.2.1 zz.2.2.1∧Seen B0 zz.1 zz.2.1∧MV zz.2.2.2 zz.2.1 g) (fun(zz:(List Nat)×(List (an×Value))×Cells×Cells)=>(cM B0 zz.1).length) (⟨[],[],L11,[]⟩) ⟨agJ,Seen.start,fun _ _ _ h=>(by cases h)⟩ [1,2,0] ?_
 rintro⟨seen,F,LM,Z⟩ hI K1 bM rest
 dsimp only at hI
 refine zD 2<|jmN (it:=r13) (kv:=pF) (seen:=seen) 0 IV.m IV.e (fun OA v14 N1 aEC yh anm aRE=>?_) (fun aQ4=>?_)
 ·
  have hkH:OA∈H:=by rw[←IV.k];exact List.mem_map_of_mem (f:=(·.1)) aEC
  have hvv:bH ro v14 3 cL [OA]:=IV.v _ aEC
  obtain⟨MI,qvb,qvo,BU,rfl,qvk,PH,PG⟩:=hvv
  refine jg 0 [.b r13 (uY r1 IZ (seen++[N1.born]))]<|zD 8<|jmE (it:=r13) 0 IV.m IV.e yh anm aRE<|jg 0 [.b r13 (uY r1 IZ (seen++[N1.born]))]<|zD 2<|jn fun b6=>jd 15 [0]<|oL<|ek [1,1,0,1,0,0,1,1,0,1,1,0,1,0,0] [K1] (fun(zz:Nat×Value×Cells)=>[(1,(.map (some r2))),(4,(.map none)),(5,(.map (some Gp))),(6,zP b6),(8,zz.2.1),(13,zP r13),(19,.slice MI ([OA].length) BU),(20,zI ([OA].length:Int)),(21,zI (zz.1:Int))]) (fun(zz:Nat×Value×Cells)=>[.l zz.2.2,.b b6 (.cells ⟨[zI OA.h,zI OA.n,zI OA.l]⟩ 164 (0,0)),.b r13 (uY r1 IZ (seen++[N1.born])),.l LM,.l Z]) (fun(zz:Nat×Value×Cells)=>zz.1≤[OA].length∧az zz.2.1 3 164 cL ([g OA].take zz.1) zz.2.2) (fun(zz:Nat×Value×Cells)=>[OA].length-zz.1) (⟨0,zS,[]⟩) ⟨by simp,az.nil _ _ _⟩ [0,1,2,3,4] ?_
  rintro⟨i,vO,LO⟩ hJ K2 lI rest
  dsimp only at hJ
  have SZ: [OA].length=1:=rfl
  refine zD 5<|zJ 22 ((i:Int) <([OA].length:Int)) (fun h1=>?_) fun h1=>?_
  ·
   refine zD 6 ?_
   obtain⟨vx,tv⟩:=zG ([OA]) i
   refine iM BU 3 PH tv<|jl 0 (PG _ _ tv)<|jn fun iK=>jd 2 [0] ?_
   obtain⟨hxe,hj0⟩:=GB tv
   refine jd 4 [0]<|jlu (kv:=pF) (F:=F2) (r:=r2) (K:=164) vx (zS) false [] [] Ea (fun s he _=>⟨_,_,he _ _ (.inl hP2.m),hP2.e⟩) ?_
   obtain⟨w28,aRr,ave⟩:=Xy (k:=vx) (F:=F2) (by rw[hP2.k,hxe];exact hkH)
   have hww:bH ro w28 3 cL [g vx]:=hP2.v _ ave
   obtain⟨TU,qwb,qwo,MH,rfl,qwk,qwh,qwl⟩:=hww
   refine jw 28 (.slice TU ([g vx].length) MH) (show Qx (zS) false vx F2=_ from by simp only[Qx,aRr];rfl) ?_
   refine jT (sz:=3) (ps:=([g OA].take i)) (qs:=[g vx]) (enc:=cL) (w:= .slice TU ([g vx].length) MH) [1] [] [] (hJ.2) (fun s he _=>⟨TU,qwb,qwo,MH,rfl,qwh,fun i p hp=>(qwl i p hp).ext he⟩) (fun p _=>ar rfl) (by simp only[List.length_take,List.length_cons,List.length_nil];omega) (fun v29 L29 Hg=>?_)
   obtain⟨acK,acz,ag4⟩:=Hg.form
   subst ag4
   refine zD 3<|ja ((i:Int)+1) (by omega)<|zD 2<|bA lI (⟨i+1,(.slice acK ((([g OA].take i)++[g vx])).length acz),L29⟩) ⟨by dsimp only;omega,by have:=Hg;rw[hj0] at this ⊢;rw[hxe] at this;exact this⟩ (by dsimp only;omega) [0,2,3,4,5] (Sub.refl _)
  refine jd 6 [1]<|aM 3 fun rZ r8 p8=>SP (vs:=[vO]) [] [0] LO (fun aC hs hZ=>Yp (hJ.2.kJ hZ) (by simp only[List.length_take,List.length_cons,List.length_nil];omega)) ?_
  rintro v34 L34 aSl
  refine bI p8 [1,2,3,4,5]<|aM 4 fun sL sR rn=>jmu (kv:=pF) (F:=F) (r:=Gp) (K:=164) 4 OA (v34) Ea hI.1 fun Lm4 hm4=>eo rn<|zD 1<|KY bM (⟨(seen++[N1.born]),_,Lm4,Z++L34⟩) ⟨hm4,hI.2.1.step IV.e yh anm,hI.2.2.put fun aK hk=>(by have:=aSl;rw[show ([g OA].take i)=[g OA] from List.take_of_length_le (by simp;omega)] at this;exact this.kJ hk)⟩ (GS yh) [[4],[0],[5,1]] (Sub.refl _)
 refine jg 0 [.b r13 (uY r1 IZ seen)]<|zD 11<|aH q0 ((.map (some Gp))) [] [1,2] (LM++Z) (Sub.refl _) ⟨_,_,rfl,rfl,Gp,F,LM,Z,rfl,rfl,hI.1,fun h hh=>hI.2.1.fin aQ4 IV.e (by rw[IV.k];exact hh),hI.2.2⟩
theorem aeP{kv:κ→Value}{F:List (κ×Value)}{es:Array MapEntry}(h:tK kv F es ck):es.toList.length=F.length:=by
 have:=congrArg List.length h.1
 simpa using this
theorem aiB{B0:Array MapEntry}{F1:List (an×Value)}{H:List an}{g:an→an}{ro:Nat→Option Obj}(IV:SA ro r1 H g B0 IZ F1)(hn:H.length≤8)(hS:∀x∈F1,(g x.1).h=0∨(g x.1).h=1):eV zT 195 [(.map (some r1)),zI 2] ro [] (fun r Y=>∃a n c,r= .agg ⟨[.slice a n c]⟩):=by
 refine bG av [] [] bh<|zD 2<|jn fun b4=>zD 4<|jmS (E:=74) (z:= zS) fun Ar=>jg 0 [.b Ar (.cells ⟨[zS,zS]⟩ 74 (0,0))]<|zD 1<|jn fun b5=>jd 6 [0]<|jmR IV.m fun ZP=>jg 0 [.b ZP (uY r1 IZ [])]<|zD 2<|oL<|oL<|ek [1,1,0,1,0,0] [] (fun(zz:(List Nat)×Value×Cells×(List ah)×Value×Cells×(List ah))=>[(4,zP b4),(5,zP b5),(16,zP ZP)]) (fun(zz:(List Nat)×Value×Cells×(List ah)×Value×Cells×(List ah))=>[.b ZP (uY r1 IZ zz.1),.b Ar (.cells ⟨[zz.2.1,zz.2.2.2.2.1]⟩ 74 (0,0)),.l zz.2.2.1,.l zz.2.2.2.2.2.1,.b b5 (.cells ⟨[.slice (some ⟨Ar,0,none⟩) 2 2]⟩ 27 (0,0)),.b b4 (.cells ⟨[zS]⟩ 27 (0,0))]) (fun(zz:(List Nat)×Value×Cells×(List ah)×Value×Cells×(List ah))=>zz.2.2.2.1.length+zz.2.2.2.2.2.2.length+(cM B0 zz.1).length≤8∧az zz.2.1 2 73 cW zz.2.2.2.1 zz.2.2.1∧az zz.2.2.2.2.1 2 73 cW zz.2.2.2.2.2.2 zz.2.2.2.2.2.1) (fun(zz:(List Nat)×Value×Cells×(List ah)×Value×Cells×(List ah))=>(cM B0 zz.1).length) (⟨[],zS,[],[],zS,[],[]⟩) ⟨by rw[CX,aeP IV.e];have:=congrArg List.length IV.k;simp at this ⊢;omega,az.nil _ _ _,az.nil _ _ _⟩ [2,4,1,0,3,5] ?_
 rintro⟨seen,w0,L0,p0,w1,L1,p1⟩ hI K1 bM rest
 dsimp only at hI
 refine zD 2<|jmN (it:=ZP) (kv:=pF) (seen:=seen) 0 IV.m IV.e (fun k17 v17 e17 anr Rf aaN aRC=>?_) (fun beB=>?_)
 ·
  have hvv:bH ro v17 3 cL [g k17]:=IV.v _ anr
  obtain⟨MI,qvb,qvo,BU,rfl,qvk,PH,PG⟩:=hvv
  have hsg:(g k17).h=0∨(g k17).h=1:=hS _ anr
  have cN:=GS Rf
  refine jg 0 [.b ZP (uY r1 IZ (seen++[e17.born]))]<|zD 8<|jmE (it:=ZP) 0 IV.m IV.e Rf aaN aRC<|jg 0 [.b ZP (uY r1 IZ (seen++[e17.born]))]<|zD 10<|ek [1,1,0,1,0,0,1,1,0,1,1,0,0] [K1] (fun(zz:Nat×Value×Cells×(List ah)×Value×Cells×(List ah))=>[(4,zP b4),(5,zP b5),(16,zP ZP),(21,.slice MI ([g k17].length) BU),(22,zI ([g k17].length:Int)),(23,zI (zz.1:Int))]) (fun(zz:Nat×Value×Cells×(List ah)×Value×Cells×(List ah))=>[.b ZP (uY r1 IZ (seen++[e17.born])),.b Ar (.cells ⟨[zz.2.1,zz.2.2.2.2.1]⟩ 74 (0,0)),.l zz.2.2.1,.l zz.2.2.2.2.2.1,.b b5 (.cells ⟨[.slice (some ⟨Ar,0,none⟩) 2 2]⟩ 27 (0,0)),.b b4 (.cells ⟨[zS]⟩ 27 (0,0))]) (fun(zz:Nat×Value×Cells×(List ah)×Value×Cells×(List ah))=>(zz.1≤1∧zz.2.2.2.1.length+zz.2.2.2.2.2.2.length+(cM B0 (seen++[e17.born])).length+(1-zz.1)≤8)∧az zz.2.1 2 73 cW zz.2.2.2.1 zz.2.2.1∧az zz.2.2.2.2.1 2 73 cW zz.2.2.2.2.2.2 zz.2.2.2.2.2.1) (fun(zz:Nat×Value×Cells×(List ah)×Value×Cells×(List ah))=>1-zz.1) (⟨0,w0,L0,p0,w1,L1,p1⟩) ⟨by dsimp only;omega,hI.2⟩ [0,1,2,3,4,5] ?_
  rintro⟨i,w0,L0,p0,w1,L1,p1⟩ hJ K2 lI rest
  dsimp only at hJ
  have SZ: [g k17].length=1:=rfl
  refine zD 5<|zJ 24 ((i:Int) <([g k17].length:Int)) (fun h1=>?_) fun h1=>?_
  ·
   refine zD 6 ?_
   obtain⟨yJ,lH⟩:=zG ([g k17]) i
   refine iM BU 3 PH lH<|jl 0 (PG _ _ lH) ?_
   obtain⟨hxe,hi0⟩:=GB lH;rw[←hxe] at hsg;obtain⟨xh,xn,xl⟩:=yJ;dsimp only at hsg;rcases hsg with rfl|rfl
   ·
    refine jn fun b9=>jd 11 [0,5,0,5,0]<|jd 4 [2,0]<|aM 12 fun rZ r8 p8=>jn fun b39=>bI p8 [1,2,3,4,5,6,7]<|aM 13 fun sL sR rn=>jT (sz:=2) (ps:=p0) (qs:=[(⟨xn,xl⟩:ah)]) (enc:=cW) (w:= .slice (some ⟨b39,0,none⟩) 1 1) [4] [0] [(b39,.cells ⟨([(⟨xn,xl⟩:ah)].map cW).flatten⟩ 73 (0,0))] (hJ.2.1) (fun s _ hZ=>bN [(⟨xn,xl⟩:ah)] (hZ _ (.head _)) (by intro p hp;rfl)) (fun p _=>ar rfl) (by simp only[List.length_cons,List.length_nil];omega) (fun v40 L40 He=>?_)
    obtain⟨arR,arH,avU⟩:=He.form
    subst avU
    refine gY rn [[2],[6],[2],[6]]<|zD 1<|aM 15 fun B2 Ca C8=>jd 1 [4]<|eo C8<|zD 2<|ja ((i:Int)+1) (by omega)<|zD 2<|bA lI (⟨i+1,(.slice arR ((p0++[(⟨xn,xl⟩:ah)])).length arH),L40,(p0++[(⟨xn,xl⟩:ah)]),w1,L1,p1⟩) ⟨by simp only[List.length_append,List.length_cons,List.length_nil];omega,He,hJ.2.2⟩ (by dsimp only;omega) [3,4,0,5,6,7] (Sub.refl _)
   refine jn fun b9=>jd 11 [0,5,0,5,0]<|jd 4 [2,0]<|aM 12 fun ak0 alg hL6=>jn fun b39=>bI hL6 [1,2,3,4,5,6,7]<|aM 13 fun akZ alf U5=>jT (sz:=2) (ps:=p1) (qs:=[(⟨xn,xl⟩:ah)]) (enc:=cW) (w:= .slice (some ⟨b39,0,none⟩) 1 1) [5] [0] [(b39,.cells ⟨([(⟨xn,xl⟩:ah)].map cW).flatten⟩ 73 (0,0))] (hJ.2.2) (fun s _ hZ=>bN [(⟨xn,xl⟩:ah)] (hZ _ (.head _)) (by intro p hp;rfl)) (fun p _=>ar rfl) (by simp only[List.length_cons,List.length_nil];omega) (fun v40 L40 He=>?_)
   obtain⟨arR,arH,avU⟩:=He.form
   subst avU
   refine gY U5 [[2],[6],[2],[6]]<|zD 1<|aM 15 fun ab5 acX hL8=>jd 1 [4]<|eo hL8<|zD 2<|ja ((i:Int)+1) (by omega)<|zD 2<|bA lI (⟨i+1,w0,L0,p0,(.slice arR ((p1++[(⟨xn,xl⟩:ah)])).length arH),L40,(p1++[(⟨xn,xl⟩:ah)])⟩) ⟨by simp only[List.length_append,List.length_cons,List.length_nil];omega,hJ.2.1,He⟩ (by dsimp only;omega) [3,4,5,0,6,7] (Sub.refl _)
  refine zD 2<|bA bM (⟨(seen++[e17.born]),w0,L0,p0,w1,L1,p1⟩) ⟨by dsimp only;omega,hJ.2⟩ cN [0,1,2,3,4,5] (Sub.refl _)
 refine jg 0 [.b ZP (uY r1 IZ seen)]<|jd 14 [4]<|ek [1,1,1,0,1,0,0] [] (fun(zz:Nat×Value×Cells×(List ah)×Value×Cells×(List ah))=>[(4,zP b4),(5,zP b5),(44,.slice (some ⟨Ar,0,none⟩) 2 2),(45,zI 2),(46,zI (zz.1:Int))]) (fun(zz:Nat×Value×Cells×(List ah)×Value×Cells×(List ah))=>[.b Ar (.cells ⟨[zz.2.1,zz.2.2.2.2.1]⟩ 74 (0,0)),.l zz.2.2.1,.l zz.2.2.2.2.2.1,.b b5 (.cells ⟨[.slice (some ⟨Ar,0,none⟩) 2 2]⟩ 27 (0,0)),.b b4 (.cells ⟨[zS]⟩ 27 (0,0))]) (fun(zz:Nat×Value×Cells×(List ah)×Value×Cells×(List ah))=>(zz.1≤2∧zz.2.2.2.1.length≤8∧zz.2.2.2.2.2.2.length≤8)∧az zz.2.1 2 73 cW zz.2.2.2.1 zz.2.2.1∧az zz.2.2.2.2.1 2 73 cW zz.2.2.2.2.2.2 zz.2.2.2.2.2.1) (fun(zz:Nat×Value×Cells×(List ah)×Value×Cells×(List ah))=>2-zz.1) (⟨0,w0,L0,p0,w1,L1,p1⟩) ⟨by dsimp only;omega,hI.2⟩ [1,2,3,4,5] ?_
 rintro⟨k,w0,L0,p0,w1,L1,p1⟩ hQ K9 hK9 rest
 dsimp only at hQ
 refine zD 5<|zJ 47 ((k:Int) <2) (fun h8=>?_) fun h8=>?_
 ·
  refine zD 6 ?_
  rcases(show k=0∨k=1 by omega) with hk0|hk0
  ·
   refine jw 46 (zI 0) (show Value.int .i64 (k:Int)= zI 0 by rw[hk0];rfl) ?_
   refine jd 6 [0]<|jc (vs:=[w0,.func (.func 201) ⟨[]⟩ ⟨[]⟩]) [1] (aiv hQ.2.1 (by omega)) ?_
   rintro aOR Y51 ⟨ard,auT,au3⟩
   refine zD 5 ?_
   have hle:=auT.length_eq
   exact bA hK9 (⟨1,w0,Y51,ard,w1,L1,p1⟩) ⟨by dsimp only;omega,au3,hQ.2.2⟩ (by dsimp only;omega) [1,0,2,3,4] (Sub.refl _)
  refine jw 46 (zI 1) (show Value.int .i64 (k:Int)= zI 1 by rw[hk0];rfl) ?_
  refine jd 6 [0]<|jc (vs:=[w1,.func (.func 201) ⟨[]⟩ ⟨[]⟩]) [2] (aiv hQ.2.2 (by omega)) ?_
  rintro aOR Y51 ⟨ard,auT,au3⟩
  refine zD 5 ?_
  have hle:=auT.length_eq
  exact bA hK9 (⟨2,w0,L0,p0,w1,Y51,ard⟩) ⟨by dsimp only;omega,hQ.2.1,au3⟩ (by dsimp only;omega) [1,2,0,3,4] (Sub.refl _)
 refine jd 8 [3,4]<|aH q0 (.agg ⟨[.slice (some ⟨Ar,0,none⟩) 2 2]⟩) [4] [] [] (Sub.refl _) ⟨_,_,rfl,rfl,_,_,_,rfl⟩
structure V1 where
 a:Option Addr
 n:Nat
 c:Nat
 ea:Option Addr
 en:Nat
 ec:Nat
 r:Nat
abbrev ajc(t:V1):List Value:=[.slice t.a t.n t.c,.slice t.ea t.en t.ec,.map (some t.r)]
structure TrD where
 ways:List Int
 g:an→an
def aWZ(ro:Nat→Option Obj)(r:Nat)(H:List an)(g:an→an):Prop:=∃es ck F,ro r=some (.map es ck)∧tK pF F es ck∧(∀h∈H,h∈F.map (·.1))∧∀y∈F,bH ro y.2 3 cL [g y.1]
def TrR(H:List an)(ro:Nat→Option Obj)(t:V1)(x:TrD):Prop:=bH ro (.slice t.a t.n t.c) 1 cq x.ways∧aWZ ro t.r H x.g
def TrO(H:List an)(LL:Cells)(t:V1)(x:TrD):Prop:=∀aK,Knows aK LL→TrR H aK t x
abbrev an9(H:List an)(L:List TrD):(Nat→Option Obj)→Nat→List Value→Cells→Prop:=fun _ k vs LL=>∃x t,L[k]?=some x∧vs=[.agg ⟨ajc t⟩]∧TrO H LL t x
def ar3(S:List (List ah))(l:List aF)(i:Nat):TrD:=⟨[(i:Int)],match l[i]? with
 |some c=>y5 S c
 |none=>id⟩
def di(S:List (List ah)):List (List aF)→List TrD
 | []=>[⟨[],id⟩]
 |l::_=>(List.range l.length).map (ar3 S l)
theorem JO{S:List (List ah)}{l:List aF}{c:aF}(h:l[i]?=some c):(di S [l])[i]?=some ⟨[(i:Int)],y5 S c⟩:=by
 have hi:=(List.getElem?_eq_some_iff.1 h).1
 simp only[di,List.getElem?_map,List.getElem?_range hi,Option.map_some,ar3,h]
structure yH(ways:List (List aF)):Prop where
 one:ways.length≤1
 ok:∀l∈ways,(1≤l.length∧l.length≤3)∧∀c∈l,iY c
theorem aIa{c:aF}(h:iY c):1≤c.k∧c.k≤7:=by
 simp only[iY,List.mem_cons,List.not_mem_nil,or_false] at h
 rcases h with rfl|rfl|rfl|rfl|rfl<;>simp
theorem aqF{x:an}:∀(u:List (an×an)) (y:an),u.foldl (fun y p=>if x=p.1 then p.2 else y) y=y∨∃p∈u,u.foldl (fun y p=>if x=p.1 then p.2 else y) y=p.2
 | [],y=> .inl rfl
 |p::u,y=>by
  simp only[List.foldl_cons]
  rcases aqF (x:=x) u (if x=p.1 then p.2 else y) with h| ⟨q,hq,h⟩
  ·rw[h]
   split
   ·exact .inr ⟨p,by simp,rfl⟩
   exact .inl rfl
  exact .inr ⟨q,by simp[hq],h⟩
theorem aw5{u:List (an×an)}{x:an}:gU u x=x∨∃p∈u,gU u x=p.2:=aqF u x
theorem aeG{S:List (List ah)}{c:aF}(hc:iY c){x:an}(hx:x.h=0∨x.h=1):(y5 S c x).h=0∨(y5 S c x).h=1:=by
 rcases aw5 (u:=axh S c) (x:=x) with h| ⟨p,hp,h⟩
 ·rw[y5,h];exact hx
 rw[y5,h]
 simp only[iY,List.mem_cons,List.not_mem_nil,or_false] at hc
 rcases hc with rfl|rfl|rfl|rfl|rfl<;>simp[axh,acQ,J0,KX,Ja,mU] at hp
 ·obtain⟨_,_,_,_,_,rfl⟩:=hp;exact .inl rfl
 ·obtain⟨_,_,rfl⟩:=hp;exact .inl rfl
 ·obtain⟨_,_,_,_,_,rfl⟩:=hp;exact .inr rfl
 ·obtain⟨_,_,rfl⟩:=hp;exact .inr rfl
 obtain⟨_,_,rfl⟩:=hp;exact .inl rfl
theorem QU{S:List (List ah)}(hO:fw S){x:an}(hx:x∈bK S):x.h=0∨x.h=1:=by
 obtain⟨j,l,p,h1,_,_,rfl⟩:=Fw.1 hx
 have:=hO.two
 simp only[mU];omega
theorem SA.up{ro:Nat→Option Obj}{r:Nat}{H:List an}{g:an→an}{es:Array MapEntry}{F:List (an×Value)}(h:SA ro r H g es ck F)(hs:Sub ro aK):SA aK r H g es ck F:=⟨hs _ _ h.m,h.e,h.k,fun x hx=>(h.v x hx).up hs⟩
theorem aVO{v:Value}{S:List (List ah)}{c:aF}{ro:Nat→Option Obj}(hc:iY c)(hS:cZ ro v S)(hO:fw S):eV zT 194 [.agg ⟨[v]⟩,.agg ⟨k9 c⟩] ro [] (fun r Y=>∃rm F LM Z,r= .tuple ⟨[.map (some rm),zI 0]⟩∧Y=LM++Z∧ki rm pF F LM∧F.map (·.1)=bK S∧MV Z F (y5 S c)):=by
 simp only[iY,List.mem_cons,List.not_mem_nil,or_false] at hc
 rcases hc with rfl|rfl|rfl|rfl|rfl
 ·exact aHO hS hO
 ·exact aHN hS hO
 ·exact aHM hS hO
 ·exact aHL hS hO
 exact aHK hS hO
def JI(ro:Nat→Option Obj)(b:Nat)(S:List (List ah))(ways:List (List aF)):Prop:=∃vS vT vH fa fc,ro b=some (.cells ⟨[vS,vT,.slice fa 0 fc,vH]⟩ 212 (0,0))∧cZ ro vS S∧nv ro vT ways∧bH ro vH 3 cL (bK S)
theorem JI.up{ro:Nat→Option Obj}{S:List (List ah)}(h:JI ro b S ways)(hs:Sub ro aK):JI aK b S ways:=by
 obtain⟨vS,vT,vH,fa,fc,h1,h2,h3,h4⟩:=h
 exact⟨vS,vT,vH,fa,fc,hs _ _ h1,h2.up hs,h3.up hs,h4.up hs⟩
theorem axb{fa:Option Addr}{S:List (List ah)}{ro:Nat→Option Obj}(hS:cZ ro vS S)(hO:fw S)(hT:nv ro vT ways)(hW:yH ways):eV zT 157 [.agg ⟨[vS,vT,.slice fa 0 fc]⟩] ro [] (fun r Y=>∃b vH LH,r= .tuple ⟨[zP b,zI 0]⟩∧Y=(b,.cells ⟨[vS,vT,.slice fa 0 fc,vH]⟩ 212 (0,0))::LH∧az vH 3 164 cL (bK S) LH):=by
 have yx:=hS
 obtain⟨jE,hs,fY⟩:=hS
 obtain⟨nA,W6,W0,mE,rfl,W5,PK,PJ⟩:=hs
 obtain⟨j5,ht,fN⟩:=id hT
 obtain⟨eG,AN,AK,dR,rfl,AM,s9,s8⟩:=ht
 have Ju:=fY.len
 have Fz:=fN.len
 have Jq:=hO.two
 have Bd:=hW.one
 have SH:∀(i:Nat) (p:eW),([]:List eW)[i]?=some p→cF ⟨ro,[]⟩ 0 (0+i*6) 6 (oV p):=fun _ _ h=>pQ h
 refine bG av [] [] bh<|zD 2<|jn fun b1=>jd 8 [0]<|jp (vs:=[.agg ⟨[.slice nA jE.length mE]⟩]) [] [] (fun aC hs hZ=>axa (yx.up hs) hO)<|jd 17 [0]<|zJ 21 ((j5.length:Int)>3) (fun h1=>?_) fun h1=>?_
 ·
  exfalso;omega
 refine jd 11 [0]<|ek [1,1,1,0,1,0,0] [] (fun(zz:Nat)=>[(1,zP b1),(23,.slice eG j5.length dR),(24,zI (j5.length:Int)),(25,zI (zz:Int))]) (fun(zz:Nat)=>[.b b1 (.cells ⟨[.slice nA jE.length mE,.slice eG j5.length dR,.slice fa 0 fc]⟩ 31 (0,0))]) (fun(zz:Nat)=>zz≤j5.length) (fun(zz:Nat)=>j5.length-zz) 0 (by omega) [0] ?_
 rintro k hI K1 bM rest
 refine zD 5<|zJ 26 ((k:Int) <(j5.length:Int)) (fun h2=>?_) fun h2=>?_
 ·
  refine zD 6 ?_
  obtain⟨x27,Jp⟩:=zG j5 k
  refine iM dR 1 s9 Jp ?_
  obtain⟨l28,aSN,h28⟩:=fN.get Jp
  obtain ave:=hW.ok _ (List.mem_of_getElem? aSN)
  obtain⟨aBs,bdE,bdC,asX,rfl,bdD,aPs,aPr⟩:=h28
  refine jl 0 (s8 _ _ Jp)<|jn fun b6=>jd 10 [0,0]<|zJ 32 ((l28.length:Int)=0) (fun h3=>?_) fun h3=>?_
  ·
   exfalso;omega
  refine jd 10 [0]<|zJ 36 ((l28.length:Int)>3) (fun h4=>?_) fun h4=>?_
  ·
   exfalso;omega
  refine jd 10 [0]<|ek [1,1,1,0,1,0,0,1,1,0,0,1,1,1,1,0,0] [K1] (fun(zz:Nat)=>[(1,zP b1),(23,.slice eG j5.length dR),(24,zI (j5.length:Int)),(25,zI (k:Int)),(38,.slice aBs l28.length asX),(39,zI (l28.length:Int)),(40,zI (zz:Int))]) (fun(zz:Nat)=>[.b b6 (.cells ⟨[.slice aBs l28.length asX]⟩ 81 (0,0)),.b b1 (.cells ⟨[.slice nA jE.length mE,.slice eG j5.length dR,.slice fa 0 fc]⟩ 31 (0,0))]) (fun(zz:Nat)=>zz≤l28.length) (fun(zz:Nat)=>l28.length-zz) 0 (by omega) [0,1] ?_
  rintro i hJ K2 lI rest
  refine zD 5<|zJ 41 ((i:Int) <(l28.length:Int)) (fun h5=>?_) fun h5=>?_
  ·
   refine zD 6 ?_
   obtain⟨x42,Uu⟩:=zG l28 i
   refine iM asX 7 aPs Uu<|jl 0 (aPr _ _ Uu)<|jn fun b8=>jd 3 [0] ?_
   have Yg:=aIa (ave.2 _ (List.mem_of_getElem? Uu))
   refine jd 3 [0]<|jp (vs:=[zI x42.k,zI 1,zI 7]) [] [] (fun aC hs hZ=>Bm)<|zD 2<|js 47 (!(iC x42.k 1 7)) (fun h6=>?_) (fun h6=>?_)
   ·
    try simp only[zB] at h6
    exfalso;simp only[iC,Bool.and_eq_false_iff,decide_eq_false_iff_not] at h6;omega
   try simp only[zB] at h6
   refine zD 3<|ja ((i:Int)+1) (by omega)<|zD 2<|bA lI (i+1) (by omega) (by omega) [1,2] (Sub.refl _)
  refine zD 3<|ja ((k:Int)+1) (by omega)<|zD 2<|bA bM (k+1) (by omega) (by omega) [1] (Sub.refl _)
 refine jd 17 [0,0,0]<|aM 3 fun rZ r8 p8=>jc (vs:=[.agg ⟨[.slice nA jE.length mE]⟩]) [] (Yq yx hO) ?_
 rintro v57 L57 anb
 obtain⟨acH,acw,ag3⟩:=anb.form
 subst ag3
 refine bI p8 [1]<|zD 1<|aM 5 fun sL sR rn=>jn fun b59=>bI rn [1,2]<|jd 11 [2]<|ek [1,1,1,1,1,1,0,1,0,0] [] (fun(zz:Nat)=>[(1,zP b1),(9,zP b59),(61,.slice fa 0 fc),(62,zI 0),(63,zI 0)]) (fun(zz:Nat)=>[.b b59 (.cells ⟨[.slice nA jE.length mE,.slice eG j5.length dR,.slice fa 0 fc,(.slice acH (bK S).length acw)]⟩ 212 (0,0)),.l L57,.b b1 (.cells ⟨[.slice nA jE.length mE,.slice eG j5.length dR,.slice fa 0 fc]⟩ 31 (0,0))]) (fun(zz:Nat)=>True) (fun(zz:Nat)=>zz) 0 trivial [0,1,2] ?_
 rintro z hQ K5 hK5 rest
 refine zD 14<|aH q0 (.tuple ⟨[zP b59,zI 0]⟩) [] [0,1] ((b59,.cells ⟨[.slice nA jE.length mE,.slice eG j5.length dR,.slice fa 0 fc,(.slice acH (bK S).length acw)]⟩ 212 (0,0))::L57) (Sub.refl _) ⟨_,_,rfl,rfl,_,_,_,rfl,rfl,anb⟩
structure abJ(ro:Nat→Option Obj)(bl b b1 b2 b3:Nat):Prop where
 t:ro b1=some (.cells ⟨[zP b]⟩ 207 (0,0))
 y:ro b2=some (.cells ⟨[.func (.yield bl) #[] #[]]⟩ 283 (0,0))
 g:ro b3=some (.cells ⟨[.func (.func 192) ⟨[]⟩ ⟨[zP b1,zP b2,zP b3]⟩]⟩ 283 (0,0))
theorem abJ.up{ro:Nat→Option Obj}(h:abJ ro bl b b1 b2 b3)(hs:Sub ro aK):abJ aK bl b b1 b2 b3:=⟨hs _ _ h.t,hs _ _ h.y,hs _ _ h.g⟩
theorem aHI{t:V1}{S:List (List ah)}{ro:Nat→Option Obj}(IU:JI ro b S ways):dz zT 193 [zP b,.agg ⟨[.slice t.a t.n t.c,.slice t.ea t.en t.ec,(.map (some t.r))]⟩] ro (.bool true):=by
 obtain⟨vS,vT,vH,fa,fc,gb,hS,hT,hHs⟩:=IU
 have yx:=hS
 obtain⟨jE,hs,fY⟩:=hS
 obtain⟨nA,W6,W0,mE,rfl,W5,PK,PJ⟩:=hs
 obtain⟨j5,ht,fN⟩:=id hT
 obtain⟨eG,AN,AK,dR,rfl,AM,s9,s8⟩:=ht
 have Ju:=fY.len
 have Fz:=fN.len
 have SH:∀(i:Nat) (p:eW),([]:List eW)[i]?=some p→cF ⟨ro,[]⟩ 0 (0+i*6) 6 (oV p):=fun _ _ h=>pQ h
 refine bG av [] [] bh<|zD 2<|jn fun b3=>zD 9<|jl (b:=b) (off:=0) (m:=4) (vs:=[.slice nA jE.length mE,.slice eG j5.length dR,.slice fa 0 fc,vH]) 2 ⟨_,_,_,.inl gb,rfl⟩<|zD 4<|ek [1,0,1,0,0] [] (fun(zz:Nat)=>[(3,zP b3),(11,.slice fa 0 fc),(12,zI 0),(13,zI 0)]) (fun(zz:Nat)=>[.b b3 (.cells ⟨[.slice t.a t.n t.c,.slice t.ea t.en t.ec,(.map (some t.r))]⟩ 216 (0,0))]) (fun(zz:Nat)=>True) (fun(zz:Nat)=>zz) 0 trivial [0] ?_
 rintro z hI K1 bM rest
 refine zD 12<|aH q0 (.bool true) [] [] [] (Sub.refl _) ⟨_,_,rfl,rfl,rfl,rfl⟩
theorem aiu{ro:Nat→Option Obj}:eV zT 158 [zP b] ro [] (fun r Y=>∃b1,r= .func (.func 191) ⟨[]⟩ ⟨[zP b1]⟩∧Y=[(b1,.cells ⟨[zP b]⟩ 207 (0,0))]):=by
 refine bG av [] [] bh<|zD 2<|jn fun b1=>zD 8<|aH q0 (.func (.func 191) ⟨[]⟩ ⟨[zP b1]⟩) [] [0] [(b1,.cells ⟨[zP b]⟩ 207 (0,0))] (Sub.refl _) ⟨_,_,rfl,rfl,_,rfl,rfl⟩
theorem aiw{S:List (List ah)}{L:List TrD}{Inv:Nat→Cells→Prop}{t:V1}{x:TrD}{LL:Cells}{ro:Nat→Option Obj}(IU:JI ro b S ways)(hC:abJ ro bl b b1 b2 b3)(hn:t.n=ways.length)(hx:L[k]?=some x) (hR:TrO (bK S) LL t x) (hB:Inv k B) (hy:YOK zT bl ro L.length (an9 (bK S) L) Inv Stop):eV zT 192 [.agg ⟨[.slice t.a t.n t.c,.slice t.ea t.en t.ec,(.map (some t.r))]⟩,zP b1,zP b2,zP b3] ro (LL++B) (fun r Y=>∃c,r= .bool c∧(c=true→Inv (k+1) Y)∧(c=false→Stop Y)):=by
 have anH:=IU
 obtain⟨vS,vT,vH,fa,fc,gb,hS,hT,hHs⟩:=IU
 have yx:=hS
 obtain⟨jE,hs,fY⟩:=hS
 obtain⟨nA,W6,W0,mE,rfl,W5,PK,PJ⟩:=hs
 obtain⟨j5,ht,fN⟩:=id hT
 obtain⟨eG,AN,AK,dR,rfl,AM,s9,s8⟩:=ht
 have Ju:=fY.len
 have Fz:=fN.len
 have SH:∀(i:Nat) (p:eW),([]:List eW)[i]?=some p→cF ⟨ro,[]⟩ 0 (0+i*6) 6 (oV p):=fun _ _ h=>pQ h
 refine bG av [.l LL,.l B] [] bh<|zD 2<|jn fun b4=>jd 13 [0]<|jl (b:=b1) (off:=0) (m:=1) (vs:=[zP b]) 0 ⟨_,_,_,.inl hC.t,rfl⟩<|zD 3<|jl (b:=b) (off:=0) (m:=4) (vs:=[.slice nA jE.length mE,.slice eG j5.length dR,.slice fa 0 fc,vH]) 1 ⟨_,_,_,.inl gb,rfl⟩<|zD 3<|zJ 21 ((t.n:Int)=(j5.length:Int)) (fun h1=>?_) fun h1=>?_
 ·
  refine zD 3<|jl (b:=b1) (off:=0) (m:=1) (vs:=[zP b]) 0 ⟨_,_,_,.inl hC.t,rfl⟩<|jd 1 [0]<|jp (vs:=[zP b,.agg ⟨[.slice t.a t.n t.c,.slice t.ea t.en t.ec,(.map (some t.r))]⟩]) [] [] (fun aC hs hZ=>aHI (t:=t) (anH.up hs))<|zD 2<|jl (b:=b2) (off:=0) (m:=1) (vs:=[(.func (.yield bl) #[] #[])]) 0 ⟨_,_,_,.inl hC.y,rfl⟩<|jd 1 [0]<|jyc [1,2] (hy k [.agg ⟨[.slice t.a t.n t.c,.slice t.ea t.en t.ec,(.map (some t.r))]⟩] LL B ro (List.getElem?_eq_some_iff.1 hx).1 ⟨x,t,hx,rfl,hR⟩ hB (Sub.refl _)) (Sub.refl _) ?_
  intro v29 Y29 aRd
  obtain⟨c29,rfl,aTX,aTK⟩:=yb aRd
  refine zD 4<|aH q0 (.bool c29) [] [0] Y29 (Sub.refl _) ⟨_,_,rfl,rfl,_,rfl,aTX,aTK⟩
 exfalso;omega
theorem aVK{S:List (List ah)}{l:List aF}{Inv:Nat→Cells→Prop}{ea:Option Addr}{r0:Nat}{es0:Array MapEntry}{F0:List (an×Value)}{ro:Nat→Option Obj}(IU:JI ro b S [l])(hO:fw S)(hW:yH [l])(hC:abJ ro bl b b1 b2 b3)(hE:∀aK,Knows aK LE→cZ aK (.slice ea en ec) S)(hE0:tK pF F0 es0 ck0)(hk0:F0.map (·.1)=bK S)(hM0:MV Z F0 id)(hB:Inv 0 B)(hy:YOK zT bl ro (di S [l]).length (an9 (bK S) (di S [l])) Inv Stop):eV zT 192 [.agg ⟨[zS,.slice ea en ec,(.map (some r0))]⟩,zP b1,zP b2,zP b3] ro (LE++(r0,.map es0 ck0)::(Z++B)) (fun r Y=>∃c,r= .bool c∧(c=true→Inv l.length Y)∧(c=false→Stop Y)):=by
 have anH:=IU
 obtain⟨vS,vT,vH,fa,fc,gb,hS,hT,hHs⟩:=IU
 have yx:=hS
 obtain⟨jE,hs,fY⟩:=hS
 obtain⟨w1,w2,rfl⟩:=qo (fY.len.trans hO.two)
 obtain⟨nA,W6,W0,mE,rfl,W5,PK,PJ⟩:=hs
 obtain⟨j5,ht,fN⟩:=id hT
 obtain⟨eG,AN,AK,dR,rfl,AM,s9,s8⟩:=ht
 have Fz:=fN.len
 have SH:∀(i:Nat) (p:eW),([]:List eW)[i]?=some p→cF ⟨ro,[]⟩ 0 (0+i*6) 6 (oV p):=fun _ _ h=>pQ h
 refine bG av [.l LE,.b r0 (.map es0 ck0),.l Z,.l B] [] bh<|zD 2<|jn fun b4=>zD 1<|jf [1,2,3] (LE++((r0,.map es0 ck0)::Z)) (fun yn bB iN=>?_)
 have hE1:=hE _ (Knows.left iN)
 have IV:SA yn r0 (bK S) id es0 ck0 F0:=⟨Knows.right iN _ (.head _),hE0,hk0,hM0 _ (Knows.tail (Knows.right iN))⟩
 refine jd 12 [0]<|jl (b:=b1) (off:=0) (m:=1) (vs:=[zP b]) 0 ⟨_,_,_,.inl (bB _ _ hC.t),rfl⟩<|zD 3<|jl (b:=b) (off:=0) (m:=4) (vs:=[.slice nA 2 mE,.slice eG j5.length dR,.slice fa 0 fc,vH]) 1 ⟨_,_,_,.inl (bB _ _ gb),rfl⟩<|zD 3<|zJ 21 (0=(j5.length:Int)) (fun h4=>?_) fun h4=>?_
 ·
  exfalso;simp at Fz;omega
 refine zD 4 ?_
 have hl8:j5.length=1:=Fz
 refine zD 1<|jl (b:=b1) (off:=0) (m:=1) (vs:=[zP b]) 0 ⟨_,_,_,.inl (bB _ _ hC.t),rfl⟩<|zD 3<|jl (b:=b) (off:=0) (m:=4) (vs:=[.slice nA 2 mE,.slice eG j5.length dR,.slice fa 0 fc,vH]) 1 ⟨_,_,_,.inl (bB _ _ gb),rfl⟩<|zD 1 ?_
 obtain⟨x37,aay⟩:=zG j5 0
 refine iM dR 1 s9 aay<|zD 1 ?_
 obtain⟨l39,aEi,S4⟩:=fN.get aay
 obtain aSG:=hW.ok _ (List.mem_of_getElem? aEi)
 obtain US:l39=l:=Option.some.inj (aEi.symm.trans rfl)
 obtain⟨aPm,bdx,bdv,aBm,rfl,bdw,aPl,aPk⟩:=S4
 refine jl 0 ((s8 _ _ aay).ext (uD bB))<|zD 4<|ek [1,1,1,0,1,0,0] [] (fun(zz:Nat×Cells)=>[(1,zP b1),(3,zP b3),(4,zP b4),(39,.slice aPm l39.length aBm),(40,zI (l39.length:Int)),(41,zI (zz.1:Int))]) (fun(zz:Nat×Cells)=>[.l zz.2,.b b4 (.cells ⟨[zS,.slice ea en ec,(.map (some r0))]⟩ 216 (0,0))]) (fun(zz:Nat×Cells)=>zz.1≤l39.length∧Inv zz.1 zz.2) (fun(zz:Nat×Cells)=>l39.length-zz.1) (⟨0,B⟩) ⟨by dsimp only;omega,hB⟩ [1,0] ?_
 rintro⟨i,B⟩ hI K1 bM rest
 dsimp only at hI
 refine zD 5<|zJ 42 ((i:Int) <(l39.length:Int)) (fun h5=>?_) fun h5=>?_
 ·
  refine zD 7 ?_
  obtain⟨Zf,Jo⟩:=zG l39 i
  refine iM aBm 7 aPl Jo<|jl 0 ((aPk _ _ Jo).ext (uD bB))<|jn fun b8=>jd 4 [0] ?_
  have hco:=aSG.2 _ (List.mem_of_getElem? Jo)
  refine jd 4 [2,0]<|jc (vs:=[.agg ⟨[.slice ea en ec]⟩,.agg ⟨[zI Zf.k,zI Zf.st,zI Zf.ot,zI Zf.fn,zI Zf.fl,zI Zf.tn,zI Zf.tl]⟩]) [] (aVO (c:=Zf) hco (hE1.up (Sub.refl _)) hO) ?_
  rintro _ _ ⟨r9,F9,LM9,Z9,rfl,rfl,hm9,hk9,hM9⟩
  obtain⟨es9,ck9,rfl,hE9⟩:=hm9
  refine jg 0 [.b r9 (.map es9 ck9),.l Z9]<|zD 5<|jf [0,1] ((r9,.map es9 ck9)::Z9) (fun ro8 zf hk7=>?_)
  have hP2:SA ro8 r9 (bK S) (y5 S Zf) es9 ck9 F9:=⟨hk7 _ (.head _),hE9,hk9,hM9 _ (Knows.tail hk7)⟩
  refine zD 11<|jl (b:=b3) (off:=0) (m:=1) (vs:=[.func (.func 192) ⟨[]⟩ ⟨[zP b1,zP b2,zP b3]⟩]) 0 ⟨_,_,_,.inl (zf _ _ (bB _ _ hC.g)),rfl⟩<|jd 4 [2]<|jl (b:=b1) (off:=0) (m:=1) (vs:=[zP b]) 0 ⟨_,_,_,.inl (zf _ _ (bB _ _ hC.t)),rfl⟩<|zD 4<|jl (b:=b) (off:=0) (m:=4) (vs:=[.slice nA 2 mE,.slice eG j5.length dR,.slice fa 0 fc,vH]) 0 ⟨_,_,_,.inl (zf _ _ (bB _ _ gb)),rfl⟩<|jd 4 [2]<|mX [3,5] ⟨fun z2 t3 rn=>?_,fun z5 t6 U5=>?_,trivial⟩
  ·
   refine jc (vs:=[zS]) [] (aHP (bH.nil _ _ _ _ _) (by simp)) ?_
   rintro v58 L58 agz
   obtain⟨Zl,Zk,Nw⟩:=agz.form
   subst Nw
   refine bI rn [1,2,3]<|aM 5 fun ab5 acX hL8=>jn fun b60=>bI hL8 [1,2,3,4]<|aM 6 fun ab4 acW hL9=>jT (sz:=1) (ps:=([]:List Int)) (qs:=[(i:Int)]) (enc:=cq) (w:= .slice (some ⟨b60,0,none⟩) 1 1) [1] [0] [(b60,.cells ⟨([(i:Int)].map cq).flatten⟩ 3 (0,0))] (agz) (fun s _ hZ=>bN [(i:Int)] (hZ _ (.head _)) (by intro p hp;rfl)) (fun p _=>ar rfl) (by simp only[List.length_cons,List.length_nil];omega) (fun v61 L61 Hc=>?_)
   obtain⟨acG,acv,avR⟩:=Hc.form
   subst avR
   refine gY hL9 [[4],[],[],[]]<|aM 15 fun JM JV zq=>jc (vs:=[(.map (some r9)),zI 2]) [] (aiB (hP2.up (Sub.refl _)) (uB hO) (fun x hx=>aeG hco (QU hO (by rw[←hk9];exact List.mem_map_of_mem (f:=(·.1)) hx)))) ?_
   rintro _ L70 ⟨a70,n70,c70,rfl⟩
   refine bI zq [1,2,3,4,5]<|aM 19 fun JL JU Da=>jc (vs:=[(.map (some r0)),(.map (some r9))]) [] (aqG (IV.up zf) (hP2.up (Sub.refl _))) ?_
   rintro _ _ ⟨r74,F74,aW4,Z74,rfl,rfl,avd,avz,aws⟩
   obtain⟨NY,Oa,rfl,awN⟩:=avd
   refine jg 0 [.b r74 (.map NY Oa),.l Z74]<|bI Da [2,3,4,5,6,7]<|zD 1<|aM 21 fun OO Pc C9=>jc (vs:=[.agg ⟨[(.slice acG ((([]:List Int)++[(i:Int)])).length acv),.slice a70 n70 c70,(.map (some r74))]⟩,zP b1,zP b2,zP b3]) [3,0,1,6] ((show eV _ _ _ _ (L61++(r74,.map NY Oa)::(Z74++B)) _ from by have:=aiw (t:=⟨acG,((([]:List Int)++[(i:Int)])).length,acv,a70,n70,c70,r74⟩) (LL:=L61++(r74,.map NY Oa)::Z74) (anH.up (bB.trans zf)) (hC.up (bB.trans zf)) rfl (JO (by rw[←US];exact Jo)) (fun aK hk=>⟨by simpa using Hc.kJ (Knows.left hk),NY,Oa,F74,(Knows.right hk) _ (.head _),awN,avz,fun y hy=>aws aK (Knows.tail (Knows.right hk)) y hy⟩) hI.2 (hy.up (bB.trans zf));rwa[List.append_assoc,List.cons_append] at this)) ?_
   rintro _ Y76 ⟨c76,rfl,awa,av5⟩
   refine gY C9 [[],[]]<|zD 2<|js 77 (!c76) (fun HE=>?_) (fun HE=>?_)
   ·
    try simp only[zB] at HE
    refine zD 6<|aH q0.a.a (.bool false) [] [0] Y76 (bB.trans zf) ⟨_,_,rfl,rfl,_,rfl,nofun,fun _=>av5 (by simp_all)⟩
   try simp only[zB] at HE
   refine zD 3<|ja ((i:Int)+1) (by omega)<|zD 2<|bA bM (⟨i+1,Y76⟩) ⟨by dsimp only;omega,awa (by simp_all)⟩ (by dsimp only;omega) [0,4] zf
  refine jn fun b60=>bI U5 [1,2,3]<|aM 3 fun ao1 apl NI=>jc (vs:=[zS]) [] (aHP (bH.nil _ _ _ _ _) (by simp)) ?_
  rintro v58 L58 agz
  obtain⟨Zl,Zk,Nw⟩:=agz.form
  subst Nw
  refine bI NI [1,2,3,4]<|aM 6 fun azx aAg awG=>jT (sz:=1) (ps:=([]:List Int)) (qs:=[(i:Int)]) (enc:=cq) (w:= .slice (some ⟨b60,0,none⟩) 1 1) [0] [1] [(b60,.cells ⟨([(i:Int)].map cq).flatten⟩ 3 (0,0))] (agz) (fun s _ hZ=>bN [(i:Int)] (hZ _ (.head _)) (by intro p hp;rfl)) (fun p _=>ar rfl) (by simp only[List.length_cons,List.length_nil];omega) (fun v61 L61 Hc=>?_)
  obtain⟨acG,acv,avR⟩:=Hc.form
  subst avR
  refine gY awG [[4],[],[],[]]<|aM 15 fun aXH aYi ahH=>jc (vs:=[(.map (some r9)),zI 2]) [] (aiB (hP2.up (Sub.refl _)) (uB hO) (fun x hx=>aeG hco (QU hO (by rw[←hk9];exact List.mem_map_of_mem (f:=(·.1)) hx)))) ?_
  rintro _ L70 ⟨a70,n70,c70,rfl⟩
  refine bI ahH [1,2,3,4,5]<|aM 19 fun aXG aYh Ro=>jc (vs:=[(.map (some r0)),(.map (some r9))]) [] (aqG (IV.up zf) (hP2.up (Sub.refl _))) ?_
  rintro _ _ ⟨r74,F74,aW4,Z74,rfl,rfl,avd,avz,aws⟩
  obtain⟨NY,Oa,rfl,awN⟩:=avd
  refine jg 0 [.b r74 (.map NY Oa),.l Z74]<|bI Ro [2,3,4,5,6,7]<|zD 1<|aM 21 fun ao0 apk NH=>jc (vs:=[.agg ⟨[(.slice acG ((([]:List Int)++[(i:Int)])).length acv),.slice a70 n70 c70,(.map (some r74))]⟩,zP b1,zP b2,zP b3]) [3,0,1,6] ((show eV _ _ _ _ (L61++(r74,.map NY Oa)::(Z74++B)) _ from by have:=aiw (t:=⟨acG,((([]:List Int)++[(i:Int)])).length,acv,a70,n70,c70,r74⟩) (LL:=L61++(r74,.map NY Oa)::Z74) (anH.up (bB.trans zf)) (hC.up (bB.trans zf)) rfl (JO (by rw[←US];exact Jo)) (fun aK hk=>⟨by simpa using Hc.kJ (Knows.left hk),NY,Oa,F74,(Knows.right hk) _ (.head _),awN,avz,fun y hy=>aws aK (Knows.tail (Knows.right hk)) y hy⟩) hI.2 (hy.up (bB.trans zf));rwa[List.append_assoc,List.cons_append] at this)) ?_
  rintro _ Y76 ⟨c76,rfl,awa,av5⟩
  refine gY NH [[],[]]<|zD 2<|js 77 (!c76) (fun FE=>?_) (fun FE=>?_)
  ·
   try simp only[zB] at FE
   refine zD 6<|aH q0.a.a (.bool false) [] [0] Y76 (bB.trans zf) ⟨_,_,rfl,rfl,_,rfl,nofun,fun _=>av5 (by simp_all)⟩
  try simp only[zB] at FE
  refine zD 3<|ja ((i:Int)+1) (by omega)<|zD 2<|bA bM (⟨i+1,Y76⟩) ⟨by dsimp only;omega,awa (by simp_all)⟩ (by dsimp only;omega) [0,4] zf
 refine zD 7<|aH q0.a (.bool true) [] [0] B bB ⟨_,_,rfl,rfl,_,rfl,(fun _=>by have:=hI.2;rwa[show i=l.length by rw[←US];omega] at this),nofun⟩
theorem aHH{S:List (List ah)}{Inv:Nat→Cells→Prop}{ea:Option Addr}{r0:Nat}{es0:Array MapEntry}{F0:List (an×Value)}{ro:Nat→Option Obj}(IU:JI ro b S ways)(hO:fw S)(hW:yH ways)(hC:abJ ro bl b b1 b2 b3)(hE:∀aK,Knows aK LE→cZ aK (.slice ea en ec) S)(hE0:tK pF F0 es0 ck0)(hk0:F0.map (·.1)=bK S)(hM0:MV Z F0 id)(hB:Inv 0 B)(hy:YOK zT bl ro (di S ways).length (an9 (bK S) (di S ways)) Inv Stop):
 eV zT 192 [.agg ⟨[zS,.slice ea en ec,.map (some r0)]⟩,zP b1,zP b2,zP b3] ro (LE++(r0,.map es0 ck0)::(Z++B)) (fun r Y=>∃c,r= .bool c∧(c=true→Inv (di S ways).length Y)∧(c=false→Stop Y)):=by
 match ways,hW with
 | [],_=>
  have:=aiw (t:=⟨none,0,0,ea,en,ec,r0⟩) (x:=⟨[],id⟩) (k:=0) (LL:=LE++(r0,.map es0 ck0)::Z) IU hC rfl rfl (fun aK hk=>⟨bH.nil _ _ _ _ _,es0,ck0,F0,(Knows.right hk) _ (.head _),hE0,fun h hh=>by rw[hk0];exact hh,hM0 _ (Knows.tail (Knows.right hk))⟩) hB hy
  rwa[List.append_assoc,List.cons_append] at this
 | [l],hW=>
  refine(aVK IU hO hW hC hE hE0 hk0 hM0 hB hy).mono fun _ _ ⟨c,h1,h2,h3⟩=>⟨c,h1,fun h=>?_,h3⟩
  rw[show (di S [l]).length=l.length by simp[di]]
  exact h2 h
 |_::_::_,hW=>exact absurd hW.one (by simp)
theorem aa2{S:List (List ah)}{ro:Nat→Option Obj}(g1:ro b1=some (.cells ⟨[zP b]⟩ 207 (0,0)))(IU:JI ro b S ways)(hO:fw S)(hW:yH ways):ItX zT 191 [] [zP b1] ro [] (di S ways).length (an9 (bK S) (di S ways)) (fun Z=>Z=[]):=by
 intro bl aC Inv Stop hs hy B hB
 replace g1:=hs _ _ g1
 replace IU:=IU.up hs
 have aUx:=IU
 obtain⟨vS,vT,vH,fa,fc,gb,hS,hT,hHs⟩:=IU
 have yx:=hS
 obtain⟨jE,nJ,fY⟩:=hS
 obtain⟨alD,bdg,bdc,alC,rfl,bde,bdf,bdd⟩:=nJ
 obtain⟨j5,ht,fN⟩:=id hT
 obtain⟨eG,AN,AK,dR,rfl,AM,s9,s8⟩:=ht
 have SH:∀(i:Nat) (p:eW),([]:List eW)[i]?=some p→cF ⟨aC,[]⟩ 0 (0+i*6) 6 (oV p):=fun _ _ h=>pQ h
 refine bG av [.l B] [] bh<|zD 2<|jn fun b2=>zD 3<|jn fun b3=>jd 5 [0]<|jf [1,0] ((b2,.cells ⟨[(.func (.yield bl) #[] #[])]⟩ 283 (0,0))::[(b3,.cells ⟨[.func (.func 192) ⟨[]⟩ ⟨[zP b1,zP b2,zP b3]⟩]⟩ 283 (0,0))]) fun yn bB iN=>zD 2<|jl (b:=b3) (off:=0) (m:=1) (vs:=[.func (.func 192) ⟨[]⟩ ⟨[zP b1,zP b2,zP b3]⟩]) 0 ⟨_,_,_,.inl (iN _ (.tail _ (.head _))),rfl⟩<|jl (b:=b1) (off:=0) (m:=1) (vs:=[zP b]) 0 ⟨_,_,_,.inl (bB _ _ g1),rfl⟩<|zD 3<|jl (b:=b) (off:=0) (m:=4) (vs:=[.slice alD jE.length alC,.slice eG j5.length dR,.slice fa 0 fc,vH]) 0 ⟨_,_,_,.inl (bB _ _ gb),rfl⟩<|jl (b:=b1) (off:=0) (m:=1) (vs:=[zP b]) 0 ⟨_,_,_,.inl (bB _ _ g1),rfl⟩<|zD 3<|jl (b:=b) (off:=0) (m:=4) (vs:=[.slice alD jE.length alC,.slice eG j5.length dR,.slice fa 0 fc,vH]) 0 ⟨_,_,_,.inl (bB _ _ gb),rfl⟩<|aM 6 fun B4 Cc yy=>jc (vs:=[.agg ⟨[.slice alD jE.length alC]⟩]) [] (anZ (yx.up bB) hO) ?_
 rintro _ L11 ⟨a11,n11,c11,rfl,aVh⟩
 refine bI yy [1]<|aM 12 fun B3 Cb zp=>jc (vs:=[.agg ⟨[.slice alD jE.length alC]⟩]) [] (Lr (yx.up bB) hO) ?_
 rintro _ _ ⟨r17,F17,bhW,Z17,rfl,rfl,agI,aaN,aUH⟩
 obtain⟨aV1,aWd,rfl,aVg⟩:=agI
 refine jg 0 [.b r17 (.map aV1 aWd),.l Z17]<|bI zp [2,3]<|zD 1<|aM 14 fun rZ r8 p8=>jc (vs:=[.agg ⟨[zS,.slice a11 n11 c11,(.map (some r17))]⟩,zP b1,zP b2,zP b3]) [2,0,1,3] (aHH (aUx.up bB) hO hW ⟨(bB _ _ g1),iN _ (.head _),iN _ (.tail _ (.head _))⟩ aVh aVg aaN aUH hB (YOK.up hy bB)) ?_
 rintro _ Y19 ⟨c19,rfl,aT0,aTN⟩
 refine gY p8 [[],[]]<|zD 1<|aH q0.a (.tuple ⟨[]⟩) [] [0] Y19 bB ⟨_,_,rfl,rfl,[],Y19,rfl,rfl,by cases c19 with|true=>exact .inl (aT0 rfl)|false=>exact .inr (aTN rfl)⟩
theorem FZ{S:List (List ah)}(hW:yH ways):(di S ways).length≤3:=by
 match ways,hW with
 | [],_=>simp[di]
 |l::_,hW=>
  have:=(hW.ok l (by simp)).1.2
  simpa [di] using this
theorem aiA{fa:Option Addr}{S:List (List ah)}{ro:Nat→Option Obj}(hS:cZ ro vS S)(hO:fw S)(hT:nv ro vT ways)(hW:yH ways):FnG zT 122 [.agg ⟨[vS,vT,.slice fa 0 fc]⟩] ro [] (fun r aC Y=>∃b vl ts Lt Z,r= .tuple ⟨[zP b,vl,zI 0]⟩∧JI aC b S ways∧Y=Lt++Z∧az vl 3 216 ajc ts Lt∧ts.length=(di S ways).length∧∀aK,Knows aK Z→dD (TrR (bK S) aK) ts (di S ways)):=by
 have yx:=hS
 obtain⟨jE,hs,fY⟩:=hS
 obtain⟨nA,W6,W0,mE,rfl,W5,PK,PJ⟩:=hs
 obtain⟨j5,ht,fN⟩:=id hT
 obtain⟨eG,AN,AK,dR,rfl,AM,s9,s8⟩:=ht
 have Ju:=fY.len
 have Fz:=fN.len
 have Jq:=hO.two
 have Bd:=hW.one
 have SH:∀(i:Nat) (p:eW),([]:List eW)[i]?=some p→cF ⟨ro,[]⟩ 0 (0+i*6) 6 (oV p):=fun _ _ h=>pQ h
 refine aCF (hm:=av) [] [] bh<|zD 2<|jn fun b1=>jd 7 [0]<|jc (vs:=[.agg ⟨[.slice nA jE.length mE,.slice eG j5.length dR,.slice fa 0 fc]⟩]) [] (axb yx hO hT hW) ?_
 rintro _ _ ⟨S8,azQ,aI1,rfl,rfl,au4⟩
 refine jg 0 [.b S8 (.cells ⟨[.slice nA jE.length mE,.slice eG j5.length dR,.slice fa 0 fc,azQ]⟩ 212 (0,0)),.l aI1]<|zD 5<|jf [0,1] ((S8,.cells ⟨[.slice nA jE.length mE,.slice eG j5.length dR,.slice fa 0 fc,azQ]⟩ 212 (0,0))::aI1) (fun yn bB iN=>?_)
 have IU:JI yn S8 S ways:=⟨_,_,_,_,_,iN _ (.head _),yx.up bB,hT.up bB,au4.kJ (Knows.tail iN)⟩
 refine zD 10 ?_
 have hLn:(di S ways).length≤3:=FZ hW
 refine zD 1<|jn fun b7=>zD 5<|jc (vs:=[zP S8]) [] (aiu) ?_
 rintro _ _ ⟨apT,rfl,rfl⟩
 refine jg 0 [.b apT (.cells ⟨[zP S8]⟩ 207 (0,0))]<|jf [0] [(apT,.cells ⟨[zP S8]⟩ 207 (0,0))] fun ro6 fA OF=>zD 2<|oL<|oL<|jrf [] (aa2 (OF _ (.head _)) (IU.up fA) hO hW) (by rintro _ _ _ _ ⟨_,_,_,rfl,_⟩;rfl) (fun(zz:Value×Cells×(List V1)×Cells)=>[.b b7 (.cells ⟨[zz.1]⟩ 208 (0,0)),.l zz.2.1,.l zz.2.2.2]) (fun kk=>(fun(zz:Value×Cells×(List V1)×Cells)=>az zz.1 3 216 ajc zz.2.2.1 zz.2.1∧zz.2.2.1.length=kk∧(∀aK,Knows aK zz.2.2.2→dD (TrR (bK S) aK) zz.2.2.1 ((di S ways).take kk))∧(di S ways).length≤3)) (fun jump=>(fun(zz:Value×Cells×(List V1)×Cells)=>False)) (⟨zS,[],[],[]⟩) ⟨az.nil _ _ _,rfl,fun _ _=> .nil,hLn⟩ [2,0,1] ?_ ?_ ?_
 ·
  rintro bl7 bd7 kk7 vs7 LL7 ⟨vl,Lt,ts,Z⟩ ro7 hk7 aTi hI iS
  obtain⟨x7,t7,hx7,rfl,hR7⟩:=aTi
  dsimp only at hI
  have bY:=(List.getElem?_eq_some_iff.1 hx7).1
  refine zD 1<|jn fun b8=>jd 2 [0]<|aCJ<|jd 4 [2,0]<|jn fun nD=>jT (sz:=3) (ps:=ts) (qs:=[(⟨t7.a,t7.n,t7.c,t7.ea,t7.en,t7.ec,t7.r⟩:V1)]) (enc:=ajc) (w:= .slice (some ⟨nD,0,none⟩) 1 1) [4] [0] [(nD,.cells ⟨([(⟨t7.a,t7.n,t7.c,t7.ea,t7.en,t7.ec,t7.r⟩:V1)].map ajc).flatten⟩ 216 (0,0))] (hI.1) (fun s _ hZ=>bN [(⟨t7.a,t7.n,t7.c,t7.ea,t7.en,t7.ec,t7.r⟩:V1)] (hZ _ (.head _)) (by intro p hp;rfl)) (fun p _=>ar rfl) (by simp only[List.length_cons,List.length_nil];omega) (fun v23 L23 zh=>?_)
  obtain⟨aM8,aMK,avY⟩:=zh.form
  subst avY
  refine jd 2 [4]<|jyn ZQ (Sub.refl _) ⟨(.slice aM8 ((ts++[(⟨t7.a,t7.n,t7.c,t7.ea,t7.en,t7.ec,t7.r⟩:V1)])).length aMK),L23,(ts++[(⟨t7.a,t7.n,t7.c,t7.ea,t7.en,t7.ec,t7.r⟩:V1)]),LL7++Z⟩ ⟨zh,by simp only[List.length_append,List.length_cons,List.length_nil];omega,fun aK hk=>xW (hI.2.2.1 aK (Knows.right hk)) hx7 (hR7 aK (Knows.left hk)),hI.2.2.2⟩ [3,4,0,6,5]
 ·
  rintro bd7 ⟨vl,Lt,ts,Z⟩ Z7 hI hZ7
  dsimp only at hI
  subst hZ7
  refine jd 9 [2]<|aQI qm0.a.a.m (.tuple ⟨[zP S8,vl,zI 0]⟩) [0] [] [2,3] (Lt++Z) (Sub.refl _) ⟨_,_,_,rfl,rfl,(bB.trans fA),S8,vl,ts,Lt,Z,rfl,IU.up fA,rfl,hI.1,hI.2.1,by have:=hI.2.2.1;rwa[List.take_of_length_le (Nat.le_refl _)] at this⟩
 rintro bd7 ⟨vl,Lt,ts,Z⟩ Z7 jump hS hZ7
 exact hS.elim
def wv(t:V1):Value:= .slice t.a t.n t.c
theorem dD.maps{γ δ:Type}{R:α→β→Prop}{T:γ→δ→Prop}{f:α→γ}{g:β→δ}(h:∀a b,R a b→T (f a) (g b)):∀ {l:List α} {m:List β},dD R l m→dD T (l.map f) (m.map g)
 | [],[],.nil=> .nil
 |_::_,_::_,.cons h1 h2=> .cons (h _ _ h1) (dD.maps h h2)
theorem ZY{y:an}{l:List an}(h:y∈l):bP (pP y.h y.n y.l) l 0≥0:=by
 have key:∀(l:List an) (k:Nat),y∈l→bP (pP y.h y.n y.l) l k≥0:=by
  intro l
  induction l with
  |nil=>intro k h;cases h
  |cons x l ih=>
   intro k h
   simp only[bP]
   cases hx:pP y.h y.n y.l x with
   |true=>simp
   |false=>
    simp only[cond_false]
    rcases List.mem_cons.1 h with rfl|h
    ·simp[pP] at hx
    exact ih _ h
 exact key l 0 h
theorem anX{fa:Option Addr}{S:List (List ah)}{ro:Nat→Option Obj}(hS:cZ ro vS S)(hO:fw S)(hT:nv ro vT ways)(hW:yH ways):eV zT 118 [.agg ⟨[vS,vT,.slice fa 0 fc]⟩] ro [] (fun r Y=>∃a n c,r= .tuple ⟨[.slice a n c,zI 0]⟩∧n=((di S ways).map (·.ways)).length∧∀kK,Knows kK Y→ajW kK (.slice a n c) ((di S ways).map (·.ways))):=by
 have yx:=hS
 obtain⟨jE,hs,fY⟩:=hS
 obtain⟨nA,W6,W0,mE,rfl,W5,PK,PJ⟩:=hs
 obtain⟨j5,ht,fN⟩:=id hT
 obtain⟨eG,AN,AK,dR,rfl,AM,s9,s8⟩:=ht
 have Ju:=fY.len
 have Fz:=fN.len
 have Jq:=hO.two
 have Bd:=hW.one
 have SH:∀(i:Nat) (p:eW),([]:List eW)[i]?=some p→cF ⟨ro,[]⟩ 0 (0+i*6) 6 (oV p):=fun _ _ h=>pQ h
 have hLn:=FZ (S:=S) hW
 refine bG av [] [] bh<|zD 2<|jn fun b1=>jd 6 [0]<|jcG (vs:=[.agg ⟨[.slice nA jE.length mE,.slice eG j5.length dR,.slice fa 0 fc]⟩]) [] (aiA yx hO hT hW) ?_
 rintro _ aC _ bB ⟨iD,vl,ts,Lt,Z,rfl,IU,rfl,hL,htl,hA⟩
 obtain⟨uS,uT,uH,ua,uc,gb,_,_,hh⟩:=IU
 obtain⟨cK,sr,sq,cA,rfl,tN,py,px⟩:=hh
 obtain⟨aNd,aMP,aTB⟩:=hL.form
 subst aTB
 refine jg 0 [.l Lt,.l Z]<|zD 28<|oL<|ek [1,1,1,1,0,1,0,0] [] (fun(zz:Nat×Value×Cells)=>[(2,zS),(3,zI 0),(7,zz.2.1),(19,(.slice aNd ts.length aMP)),(20,zI (ts.length:Int)),(21,zI (zz.1:Int))]) (fun(zz:Nat×Value×Cells)=>[.l zz.2.2,.l Lt,.l Z,.b b1 (.cells ⟨[.slice nA jE.length mE,.slice eG j5.length dR,.slice fa 0 fc]⟩ 31 (0,0))]) (fun(zz:Nat×Value×Cells)=>zz.1≤ts.length∧az zz.2.1 1 22 gT ((ts.take zz.1).map wv) zz.2.2) (fun(zz:Nat×Value×Cells)=>ts.length-zz.1) (⟨0,zS,[]⟩) ⟨by dsimp only;omega,az.nil _ _ _⟩ [0,1,2,3] ?_
 rintro⟨k,vO,LO⟩ hI K1 bM rest
 dsimp only at hI
 refine zD 5<|zJ 22 ((k:Int) <(ts.length:Int)) (fun h2=>?_) fun h2=>?_
 ·
  refine zD 6 ?_
  obtain⟨vx,tv⟩:=zG ts k
  refine QE 3 hL tv fun b23 aUl=>mY 0 [1] Lt (fun s _ hZ=>bU hL aUl hZ tv)<|jn fun b9=>jd 6 [0,0]<|jn fun b28=>jT (sz:=1) (ps:=((ts.take k).map wv)) (qs:=[(.slice vx.a vx.n vx.c:Value)]) (enc:=gT) (w:= .slice (some ⟨b28,0,none⟩) 1 1) [2] [0] [(b28,.cells ⟨([(.slice vx.a vx.n vx.c:Value)].map gT).flatten⟩ 22 (0,0))] (hI.2) (fun s _ hZ=>bN [(.slice vx.a vx.n vx.c:Value)] (hZ _ (.head _)) (by intro p hp;rfl)) (by intro p hp;rw[List.mem_singleton] at hp;subst hp;exact ar rfl) (by simp only[List.length_map,List.length_take,List.length_cons,List.length_nil];omega) (fun v29 L29 Hg=>?_)
  obtain⟨acK,acz,ag4⟩:=Hg.form
  subst ag4
  refine zD 3<|ja ((k:Int)+1) (by omega)<|zD 2<|bA bM (⟨k+1,(.slice acK ((((ts.take k).map wv)++[(.slice vx.a vx.n vx.c:Value)])).length acz),L29⟩) ⟨by dsimp only;omega,by rw[fg tv,List.map_append];exact Hg⟩ (by dsimp only;omega) [0,3,4,5] (Sub.refl _)
 refine zD 3 ?_
 obtain⟨va3,vc3,he3⟩:=hI.2.form
 subst he3
 refine zD 6<|aH q0.a (.tuple ⟨[(.slice va3 (((ts.take k).map wv)).length vc3),zI 0]⟩) [] [0,2] (LO++Z) bB ⟨_,_,rfl,rfl,_,_,_,rfl,by simp only[List.length_map,List.length_take];omega,fun kK hk=>⟨_,hI.2.kJ (Knows.left hk),by rw[List.take_of_length_le (by omega)];exact(hA kK (Knows.right hk)).maps fun _ _ h=>h.1⟩⟩
end Go.L
