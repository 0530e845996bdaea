/- Part 17 of the proof: a program logic, contracts, a theorem on goroutines. -/
import Derived.Test.YtjpghiajlddegaaGreatDoorA16
set_option maxRecDepth 100000
set_option linter.all false
namespace Go.L
open Go Go.Conc Go.Proofs
variable {W:List (List Int)} {Z LM Z2:Cells} {F:Nat→Nat→Bool} {i k s rm:Nat} {l:List Value} {K:aT} {κ α:Type} {n ck c5 c6:Int} {xs:List Int}
def Ay(ways:List (List aQ))(w:List Int):List (List aQ):=List.zipWith (fun l n=>(l.take (n.toNat+1)).drop n.toNat) ways w
theorem alJ{ways:List (List aQ)}{w:List Int}{l:List aQ}(h1:ways[k]?=some l) (h2:w[k]?=some n):(Ay ways w)[k]?=some ((l.take (n.toNat+1)).drop n.toNat):=by
 simp only[Ay,List.getElem?_zipWith,h1,h2]
def lu(K:aT)(qx:List Int→aI→List an)(w:List Int):bX:=⟨fun i j=>match K.before[i]?,K.after[j]? with
 |some x,some y=>decide (cZ (oN y.st y.no 0) (qx w x) 0≥0)
 |_,_=>false⟩
def DI(F:Nat→Nat→Bool)(i j:Nat)(r:bX):Prop:=∀x y,r.c x y=((decide (x <i)||(decide (x=i)&&decide (y <j)))&&F x y)
theorem DI.set{j:Nat}{r:bX}(h:DI F i j r):DI F i (j+1) (iO r i j (F i j)):=fun x y=>by
 simp only[iO]
 split
 ·rename_i hx;obtain⟨rfl,rfl⟩:=hx;simp
 rename_i hx
 rw[h x y]
 congr 2
 by_cases e:x=i
 ·subst e
  have:y≠j:=fun e2=>hx ⟨rfl,e2⟩
  simp only[decide_true,Bool.true_and]
  congr 1
  exact propext (by omega)
 simp[e]
theorem DI.nxt{n:Nat}{r:bX}(hF:∀x y,n≤y→F x y=false)(h:DI F i n r):DI F (i+1) 0 r:=fun x y=>by
 rw[h x y]
 by_cases hy:y <n
 ·congr 1
  simp only[hy,decide_true,Bool.and_true,Nat.not_lt_zero,decide_false,Bool.and_false,Bool.or_false]
  rw[Bool.eq_iff_iff];simp;omega
 rw[hF x y (by omega)];simp
theorem DI.fin{n:Nat}{r:bX}(hF:∀x y,n≤x→F x y=false)(h:DI F n 0 r):r=⟨F⟩:=by
 rcases r with ⟨c⟩
 congr 1
 funext x y
 have:=h x y
 dsimp only at this
 rw[this]
 by_cases hx:x <n
 ·simp[hx]
 rw[hF x y (by omega)];simp
theorem apP{qx:List Int→aI→List an}{w:List Int}(x y:Nat)(h:K.before.length≤x):(lu K qx w).c x y=false:=by simp only[lu,List.getElem?_eq_none h]
theorem apO{qx:List Int→aI→List an}{w:List Int}(x y:Nat)(h:K.after.length≤y):(lu K qx w).c x y=false:=by
 simp only[lu,List.getElem?_eq_none h]
 split
 ·rename_i h1;cases h1
 rfl
structure Ue(K:aT)(W:List (List Int)):Prop where
 n:1≤W.length∧W.length≤2
 len:∀w∈W,w.length=K.ways.length
 rng:∀w∈W,∀(k:Nat) (l:List aQ) (n:Int),K.ways[k]?=some l→w[k]?=some n→0≤n∧n <l.length
def wS(ro:Nat→Option Obj)(l:List Value)(K:aT)(W:List (List Int))(qx:List Int→aI→List an):Prop:=∀w∈W,∀x∈K.before,(qx w x).length≤1000∧∀aE,Sub ro aE→∀v vS vT vU r,l=vS::vT::vU::r→nH aE v (Ay K.ways w)→
 eI zT 64 [.agg ⟨[vS,v,vU]⟩,.agg ⟨[zI x.st,zI x.no,zI 0]⟩] aE [] (fun r Y=>∃a n c,r= .tuple ⟨[.slice a n c,zI 0]⟩∧∀lR,Knows lR Y→bL lR (.slice a n c) 3 cI (qx w x))
theorem arz{qx:List Int→aI→List an}{ro:Nat→Option Obj}(hK:gG ro l K)(hO:lO K)(hV:fU K)(hW:Ue K W)(h76:qm ro l W)(h47:wS ro l K W qx):eI zT 34 [.agg ⟨l⟩] ro [] (fun r Y=>∃f,r= .tuple ⟨[pV f,zI 0]⟩∧∀lR,Sub ro lR→Knows lR Y→pq lR f K (W.map (lu K qx))):=by
 have Wc:=hK
 obtain⟨vS,vT,vc,vh,vr,vb,va,vf,fa,fc,hv,rfl,hS,hT,p6,nA,hr,hb,ha,hf⟩:=hK
 obtain⟨ib,hs,fw⟩:=id hS
 obtain⟨iI,ht,fo⟩:=id hT
 obtain⟨hc,hh,CI⟩:=id p6
 have uK:=hr
 have uC:=hb
 have ha0:=ha
 have hf0:=hf
 obtain⟨mg,RV,RS,kU,rfl,RU,Kv,Ku⟩:=hs
 obtain⟨eY,zh,zf,ee,rfl,zg,rH,rG⟩:=ht
 obtain⟨eE,zk,zi,ep,rfl,Cq,xW,xV⟩:=hc
 obtain⟨dM,uy,ux,dq,rfl,wA,qv,qu⟩:=hh
 obtain⟨kI,Hq,Hp,kH,rfl,M1,EZ,EY⟩:=hr
 obtain⟨mN,QE,QB,mA,rfl,QC,Ob,Oa⟩:=hb
 obtain⟨mi,M5,M3,lS,rfl,M4,KC,KB⟩:=ha
 obtain⟨jP,Bm,Bj,iZ,rfl,HV,w9,wZ⟩:=hf
 have BN:=hO.rules
 have qp:=hO.before.1
 have Nf:=hO.after.1
 have Nd:=hO.facts.1
 have Nc:=hO.ways.1
 have Hy:=fw.len
 have Dr:=fo.len
 have V0:=hO.pO.two
 have ZN:=hO.dI.nh
 have M0:∀(i:Nat) (p:cX),([]:List cX)[i]?=some p→cA ⟨ro,[]⟩ 0 (0+i*6) 6 (mH p):=fun _ _ h=>n9 h
 have hWn:=hW.n
 refine aNr av 62 [] [] bB<|zD 2<|jn fun b1=>jn fun b2=>jn fun b3=>zD 4<|jdf (f:=62) (ca:=[zP b2,zP b3])<|jd 5 [2]<|jn fun Hd=>jd 6 [2,3]<|jc (vs:=[.agg ⟨[.slice mg ib.length kU,.slice eY iI.length ee,.slice fa 0 fc,.slice eE K.cs.length ep,.slice dM hv.length dq,.slice kI K.rules.length kH,.slice mN K.before.length mA,.slice mi K.after.length lS,zI K.gone,zI K.new,zI K.ai,.slice jP K.facts.length iZ]⟩]) [] (ary Wc hO hV ⟨hW.n.1,by have:=hW.n.2;omega⟩ h76) ?_
 rintro _ Y21 ⟨a21,n21,c21,rfl,bcx,akC⟩
 refine zD 2<|jf [0] Y21 (fun AR cy ju=>?_)
 obtain⟨ZE,hWs,an0⟩:=akC _ ju
 obtain⟨qWa,qWb,qWo,qWc,heW,qWk,qWh,qWl⟩:=hWs
 simp only[Value.slice.injEq] at heW
 obtain⟨rfl,rfl,rfl⟩:=heW
 have hlW:=an0.len
 refine zD 2<|oU<|eG [1,1,1,0,1,0,0] [] (fun(zz:Nat×Value×Cells)=>[(1,zP b1),(2,zP b2),(3,zP b3),(21,.slice a21 ZE.length c21),(22,zI (ZE.length:Int)),(23,zI (zz.1:Int))]) (fun(zz:Nat×Value×Cells)=>[.l zz.2.2,.b Hd (.cells ⟨[.slice mg ib.length kU,.slice eY iI.length ee,.slice fa 0 fc,.slice eE K.cs.length ep,.slice dM hv.length dq,.slice kI K.rules.length kH,.slice mN K.before.length mA,.slice mi K.after.length lS,zI K.gone,zI K.new,zI K.ai,.slice jP K.facts.length iZ,zz.2.1]⟩ 116 (0,0)),.b b1 (.cells ⟨[.slice mg ib.length kU,.slice eY iI.length ee,.slice fa 0 fc,.slice eE K.cs.length ep,.slice dM hv.length dq,.slice kI K.rules.length kH,.slice mN K.before.length mA,.slice mi K.after.length lS,zI K.gone,zI K.new,zI K.ai,.slice jP K.facts.length iZ]⟩ 38 (0,0)),.b b2 (.cells ⟨[zP Hd]⟩ 94 (0,0)),.b b3 (.cells ⟨[zI 0]⟩ 42 (0,0))]) (fun(zz:Nat×Value×Cells)=>zz.1≤ZE.length∧aD zz.2.1 16 139 B0 ((W.take zz.1).map (lu K qx)) zz.2.2) (fun(zz:Nat×Value×Cells)=>ZE.length-zz.1) (⟨0,zS,[]⟩) ⟨by dsimp only;omega,aD.nil _ _ _⟩ [0,1,4,3,2] ?_
 rintro⟨k,vR,LR⟩ hI K1 bU rest
 dsimp only at hI
 refine zD 5<|zJ 24 ((k:Int) <(ZE.length:Int)) (fun h4=>?_) fun h4=>?_
 ·
  refine zD 6 ?_
  obtain⟨xH,kZ⟩:=zG ZE k
  refine iE c21 1 qWh kZ ?_
  obtain⟨u9,aA2,YO⟩:=an0.get kZ
  obtain⟨aMl,baJ,baH,ayu,rfl,baI,aMk,aMj⟩:=YO
  refine jl 0 (qWl _ _ kZ)<|zD 3 ?_
  have hwm:=List.mem_of_getElem? aA2
  have hwl:=hW.len _ hwm
  refine jd 8 [2,2]<|jn fun b6=>jd 10 [0]<|oU<|eG [1,1,1,0,1,0,0,1,1,0,0,1,1,0,1,0,0] [K1] (fun(zz:Nat×Value×Cells×(List Value))=>[(1,zP b1),(2,zP b2),(3,zP b3),(6,zP b6),(21,.slice a21 ZE.length c21),(22,zI (ZE.length:Int)),(23,zI (k:Int)),(34,.slice aMl u9.length ayu),(35,zI (u9.length:Int)),(36,zI (zz.1:Int))]) (fun(zz:Nat×Value×Cells×(List Value))=>[.l zz.2.2.1,.b b6 (.cells ⟨[.slice mg ib.length kU,zz.2.1,.slice fa 0 fc]⟩ 29 (0,0)),.l LR,.b Hd (.cells ⟨[.slice mg ib.length kU,.slice eY iI.length ee,.slice fa 0 fc,.slice eE K.cs.length ep,.slice dM hv.length dq,.slice kI K.rules.length kH,.slice mN K.before.length mA,.slice mi K.after.length lS,zI K.gone,zI K.new,zI K.ai,.slice jP K.facts.length iZ,vR]⟩ 116 (0,0)),.b b1 (.cells ⟨[.slice mg ib.length kU,.slice eY iI.length ee,.slice fa 0 fc,.slice eE K.cs.length ep,.slice dM hv.length dq,.slice kI K.rules.length kH,.slice mN K.before.length mA,.slice mi K.after.length lS,zI K.gone,zI K.new,zI K.ai,.slice jP K.facts.length iZ]⟩ 38 (0,0)),.b b2 (.cells ⟨[zP Hd]⟩ 94 (0,0)),.b b3 (.cells ⟨[zI 0]⟩ 42 (0,0))]) (fun(zz:Nat×Value×Cells×(List Value))=>(zz.1≤u9.length∧zz.2.2.2.length=zz.1)∧aD zz.2.1 1 78 gN zz.2.2.2 zz.2.2.1∧du (fun w l=>bL AR w 7 kB l) zz.2.2.2 ((Ay K.ways u9).take zz.1)) (fun(zz:Nat×Value×Cells×(List Value))=>u9.length-zz.1) (⟨0,zS,[],[]⟩) ⟨⟨by dsimp only;omega,rfl⟩,aD.nil _ _ _,(by simp only[List.take_zero];exact du.nil)⟩ [0,1,2,3,4,5,6] ?_
  rintro⟨j,vT,LT,es⟩ hJ K2 lL rest
  dsimp only at hJ
  refine zD 5<|zJ 37 ((j:Int) <(u9.length:Int)) (fun h5=>?_) fun h5=>?_
  ·
   refine zD 7 ?_
   obtain⟨DR,xc⟩:=zG u9 j
   refine iE ayu 1 aMk xc<|jl 0 (aMj _ _ xc)<|jd 10 [1,4] ?_
   obtain⟨x47,SG⟩:=zG iI j
   refine iE ee 1 rH SG<|zD 1 ?_
   obtain⟨l49,asL,h49⟩:=fo.get SG
   obtain hwr:=hW.rng _ hwm _ _ _ asL xc
   obtain bcC:=(hO.ways.2 _ (List.mem_of_getElem? asL)).1.2
   obtain⟨aMc,aMb,aL6,aMa,rfl,aL8,aL9,aL7⟩:=h49
   refine jl 0 ((rG _ _ SG).ext (tM cy))<|zD 2<|ja (DR+1) (by omega)<|jcB (lo:=DR) (hi:=(DR+1)) ((show bL _ _ _ _ _ from ⟨aMc,aMb,aL6,aMa,rfl,aL8,aL9,aL7⟩).up cy) (by omega) (fun v53 vo=>?_)
   obtain⟨IY,ax7,ax3,IX,rfl,ax5,ax6,ax4⟩:=vo
   refine zD 1<|aN 14 fun qZ q6 p7=>jn fun b55=>bD p7 [1,2,3,4,5,6,7]<|aN 15 fun rK rR qz=>jk (sz:=1) (ps:=es) (qs:=[(.slice IY (((((l49).take (DR+1).toNat).drop DR.toNat)).length) IX:Value)]) (enc:=gN) (w:= .slice (some ⟨b55,0,none⟩) 1 1) [1] [0] [(b55,.cells ⟨([(.slice IY (((((l49).take (DR+1).toNat).drop DR.toNat)).length) IX:Value)].map gN).flatten⟩ 78 (0,0))] (hJ.2.1) (fun s _ hZ=>cg [(.slice IY (((((l49).take (DR+1).toNat).drop DR.toNat)).length) IX:Value)] (hZ _ (.head _)) (by intro p hp;rfl)) (by intro p hp;rw[List.mem_singleton] at hp;subst hp;exact aj rfl) (by simp<;>omega) (fun v56 L56 vq=>?_)
   obtain⟨Xf,Xd,aeO⟩:=vq.form
   subst aeO
   refine gX qz [[],[5]]<|zD 1<|aN 17 fun yY y8 Ag=>jd 1 [2]<|dV Ag<|zD 2<|ja ((j:Int)+1) (by omega)<|zD 2<|bO lL (⟨j+1,(.slice Xf ((es++[(.slice IY (((((l49).take (DR+1).toNat).drop DR.toNat)).length) IX:Value)])).length Xd),L56,(es++[(.slice IY (((((l49).take (DR+1).toNat).drop DR.toNat)).length) IX:Value)])⟩) ⟨⟨by dsimp only;omega,by simp only[List.length_append,List.length_cons,List.length_nil];omega⟩,vq,by rw[jq (alJ asL xc)];exact hJ.2.2.snoc (by rw[show DR.toNat+1=(DR+1).toNat by omega];exact⟨IY,ax7,ax3,IX,rfl,ax5,ax6,ax4⟩)⟩ (by dsimp only;omega) [0,2,3,4,5,6,7] (Sub.refl _)
  refine zD 3 ?_
  have hS6:du (fun w l=>bL AR w 7 kB l) es (Ay K.ways u9):=by have:=hJ.2.2;rwa[List.take_of_length_le (by simp only[Ay,List.length_zipWith];omega)] at this
  refine zD 1<|jn fun b9=>jd 10 [5]<|eG [1,1,1,0,1,0,0,1,1,0,0,1,1,1,1,0,1,0,0] [K1] (fun(zz:Nat×bX)=>[(1,zP b1),(2,zP b2),(3,zP b3),(6,zP b6),(9,zP b9),(21,.slice a21 ZE.length c21),(22,zI (ZE.length:Int)),(23,zI (k:Int)),(60,.slice mN K.before.length mA),(61,zI (K.before.length:Int)),(62,zI (zz.1:Int))]) (fun(zz:Nat×bX)=>[.b b9 (.cells ⟨[.bool (zz.2.c 0 0),.bool (zz.2.c 0 1),.bool (zz.2.c 0 2),.bool (zz.2.c 0 3),.bool (zz.2.c 1 0),.bool (zz.2.c 1 1),.bool (zz.2.c 1 2),.bool (zz.2.c 1 3),.bool (zz.2.c 2 0),.bool (zz.2.c 2 1),.bool (zz.2.c 2 2),.bool (zz.2.c 2 3),.bool (zz.2.c 3 0),.bool (zz.2.c 3 1),.bool (zz.2.c 3 2),.bool (zz.2.c 3 3)]⟩ 139 (0,0)),.l LT,.b b6 (.cells ⟨[.slice mg ib.length kU,vT,.slice fa 0 fc]⟩ 29 (0,0)),.l LR,.b Hd (.cells ⟨[.slice mg ib.length kU,.slice eY iI.length ee,.slice fa 0 fc,.slice eE K.cs.length ep,.slice dM hv.length dq,.slice kI K.rules.length kH,.slice mN K.before.length mA,.slice mi K.after.length lS,zI K.gone,zI K.new,zI K.ai,.slice jP K.facts.length iZ,vR]⟩ 116 (0,0)),.b b1 (.cells ⟨[.slice mg ib.length kU,.slice eY iI.length ee,.slice fa 0 fc,.slice eE K.cs.length ep,.slice dM hv.length dq,.slice kI K.rules.length kH,.slice mN K.before.length mA,.slice mi K.after.length lS,zI K.gone,zI K.new,zI K.ai,.slice jP K.facts.length iZ]⟩ 38 (0,0)),.b b2 (.cells ⟨[zP Hd]⟩ 94 (0,0)),.b b3 (.cells ⟨[zI 0]⟩ 42 (0,0))]) (fun(zz:Nat×bX)=>zz.1≤K.before.length∧DI (lu K qx u9).c zz.1 0 zz.2) (fun(zz:Nat×bX)=>K.before.length-zz.1) (⟨0,⟨fun _ _=>false⟩⟩) ⟨by dsimp only;omega,fun x y=>by simp⟩ [0,1,2,3,4,5,6,7] ?_
  rintro⟨i,r⟩ hQ K6 hK6 rest
  dsimp only at hQ
  refine zD 5<|zJ 63 ((i:Int) <(K.before.length:Int)) (fun h9=>?_) fun h9=>?_
  ·
   refine zD 7 ?_
   obtain⟨No,adD⟩:=zG K.before i
   refine iE mA 5 Ob adD<|jl 0 ((Oa _ _ adD).ext (tM cy))<|jn fun Q0=>jd 7 [0,3,0]<|jp (vs:=[.agg ⟨[.string No.name,zI No.st,zI No.no,zI No.head,.bool No.bold]⟩]) [] [] (fun aE hs hZ=>VE)<|aN 3 fun aiy aiU Ti=>ZK (vs:=[.agg ⟨[.slice mg ib.length kU,vT,.slice fa 0 fc]⟩,.agg ⟨[zI No.st,zI No.no,zI 0]⟩]) [] [2] LT (fun aE hs hZ=>(h47 _ hwm _ (List.mem_of_getElem? adD)).2 _ (cy.trans hs) _ _ _ _ _ rfl ⟨_,hJ.2.1.lq hZ,hS6.imp fun _ _ k=>k.up hs⟩) ?_
   rintro _ Y71 ⟨a71,n71,c71,rfl,aOa⟩
   refine bD Ti [1,2,3,4,5,6,7,8,9]<|zD 9<|jp (vs:=[zI 0]) [] [] (fun aE hs hZ=>zw)<|jf [0] Y71 (fun aLQ Yt akS=>?_)
   obtain⟨qPa,qPb,qPo,qPc,heP,qPk,qPh,qPl⟩:=aOa _ akS
   simp only[Value.slice.injEq] at heP
   obtain⟨rfl,rfl,rfl⟩:=heP
   refine jd 9 [6]<|eG [1,1,1,0,1,0,0,1,1,0,0,1,1,1,1,0,1,0,0,1,1,0,0,1,1,1,1,0,0] [K1,K6] (fun(zz:Nat×bX)=>[(1,zP b1),(2,zP b2),(3,zP b3),(6,zP b6),(9,zP b9),(10,zI (i:Int)),(12,.slice a71 ((qx u9 No).length) c71),(21,.slice a21 ZE.length c21),(22,zI (ZE.length:Int)),(23,zI (k:Int)),(60,.slice mN K.before.length mA),(61,zI (K.before.length:Int)),(62,zI (i:Int)),(77,.slice mi K.after.length lS),(78,zI (K.after.length:Int)),(79,zI (zz.1:Int))]) (fun(zz:Nat×bX)=>[.b b9 (.cells ⟨[.bool (zz.2.c 0 0),.bool (zz.2.c 0 1),.bool (zz.2.c 0 2),.bool (zz.2.c 0 3),.bool (zz.2.c 1 0),.bool (zz.2.c 1 1),.bool (zz.2.c 1 2),.bool (zz.2.c 1 3),.bool (zz.2.c 2 0),.bool (zz.2.c 2 1),.bool (zz.2.c 2 2),.bool (zz.2.c 2 3),.bool (zz.2.c 3 0),.bool (zz.2.c 3 1),.bool (zz.2.c 3 2),.bool (zz.2.c 3 3)]⟩ 139 (0,0)),.b Q0 (.cells ⟨[.string No.name,zI No.st,zI No.no,zI No.head,.bool No.bold]⟩ 86 (0,0)),.l LT,.b b6 (.cells ⟨[.slice mg ib.length kU,vT,.slice fa 0 fc]⟩ 29 (0,0)),.l LR,.b Hd (.cells ⟨[.slice mg ib.length kU,.slice eY iI.length ee,.slice fa 0 fc,.slice eE K.cs.length ep,.slice dM hv.length dq,.slice kI K.rules.length kH,.slice mN K.before.length mA,.slice mi K.after.length lS,zI K.gone,zI K.new,zI K.ai,.slice jP K.facts.length iZ,vR]⟩ 116 (0,0)),.b b1 (.cells ⟨[.slice mg ib.length kU,.slice eY iI.length ee,.slice fa 0 fc,.slice eE K.cs.length ep,.slice dM hv.length dq,.slice kI K.rules.length kH,.slice mN K.before.length mA,.slice mi K.after.length lS,zI K.gone,zI K.new,zI K.ai,.slice jP K.facts.length iZ]⟩ 38 (0,0)),.b b2 (.cells ⟨[zP Hd]⟩ 94 (0,0)),.b b3 (.cells ⟨[zI 0]⟩ 42 (0,0))]) (fun(zz:Nat×bX)=>zz.1≤K.after.length∧DI (lu K qx u9).c i zz.1 zz.2) (fun(zz:Nat×bX)=>K.after.length-zz.1) (⟨0,r⟩) ⟨by dsimp only;omega,hQ.2⟩ [1,0,2,3,4,5,6,7,8] ?_
   rintro⟨j,r⟩ hU K8 hK8 rest
   dsimp only at hU
   refine zD 5<|zJ 80 ((j:Int) <(K.after.length:Int)) (fun PI=>?_) fun PI=>?_
   ·
    refine zD 7 ?_
    obtain⟨DO,SE⟩:=zG K.after j
    refine iE lS 5 KC SE<|jl 0 ((KB _ _ SE).ext (tM (cy.trans Yt)))<|jn fun lf=>jd 3 [0] ?_
    have hRW:(lu K qx u9).c i j=decide (cZ (oN DO.st DO.no 0) (qx u9 No) 0≥0):=by simp only[lu,adD,SE]
    refine jd 5 [0]<|Jn (b:=b9) (off:=0) (len:=4) (sz:=4) (i:Int) (by omega)<|jp (vs:=[.agg ⟨[.string DO.name,zI DO.st,zI DO.no,zI DO.head,.bool DO.bold]⟩]) [] [] (fun aE hs hZ=>VE)<|jp (vs:=[.slice a71 ((qx u9 No).length) c71,.agg ⟨[zI DO.st,zI DO.no,zI 0]⟩]) [] [] (fun aE hs hZ=>Jl ((show bL _ _ _ _ _ from ⟨a71,qPb,qPo,c71,rfl,qPk,qPh,qPl⟩).up hs) (h47 _ hwm _ (List.mem_of_getElem? adD)).1)<|Jn (b:=b9) (off:=0+(i:Int).toNat*4) (len:=4) (sz:=1) (j:Int) (by omega)<|aN 8 fun W7 Xi Tg=>jsx 1 b9 (0+(i:Int).toNat*4+(j:Int).toNat*1) [.bool (r.c 0 0),.bool (r.c 0 1),.bool (r.c 0 2),.bool (r.c 0 3),.bool (r.c 1 0),.bool (r.c 1 1),.bool (r.c 1 2),.bool (r.c 1 3),.bool (r.c 2 0),.bool (r.c 2 1),.bool (r.c 2 2),.bool (r.c 2 3),.bool (r.c 3 0),.bool (r.c 3 1),.bool (r.c 3 2),.bool (r.c 3 3)] [.bool (decide (cZ (oN DO.st DO.no 0) (qx u9 No) 0≥0))] 139 (by intro v hv;rw[List.mem_singleton] at hv;subst hv;rfl) (UX (r:=r) (by omega) (by omega)) ?_
    refine jmw 0 [.b b9 (.cells ⟨[.bool ((iO r i j ((lu K qx u9).c i j)).c 0 0),.bool ((iO r i j ((lu K qx u9).c i j)).c 0 1),.bool ((iO r i j ((lu K qx u9).c i j)).c 0 2),.bool ((iO r i j ((lu K qx u9).c i j)).c 0 3),.bool ((iO r i j ((lu K qx u9).c i j)).c 1 0),.bool ((iO r i j ((lu K qx u9).c i j)).c 1 1),.bool ((iO r i j ((lu K qx u9).c i j)).c 1 2),.bool ((iO r i j ((lu K qx u9).c i j)).c 1 3),.bool ((iO r i j ((lu K qx u9).c i j)).c 2 0),.bool ((iO r i j ((lu K qx u9).c i j)).c 2 1),.bool ((iO r i j ((lu K qx u9).c i j)).c 2 2),.bool ((iO r i j ((lu K qx u9).c i j)).c 2 3),.bool ((iO r i j ((lu K qx u9).c i j)).c 3 0),.bool ((iO r i j ((lu K qx u9).c i j)).c 3 1),.bool ((iO r i j ((lu K qx u9).c i j)).c 3 2),.bool ((iO r i j ((lu K qx u9).c i j)).c 3 3)]⟩ 139 (0,0))] (L:=[(b9,.cells ⟨dB [.bool (r.c 0 0),.bool (r.c 0 1),.bool (r.c 0 2),.bool (r.c 0 3),.bool (r.c 1 0),.bool (r.c 1 1),.bool (r.c 1 2),.bool (r.c 1 3),.bool (r.c 2 0),.bool (r.c 2 1),.bool (r.c 2 2),.bool (r.c 2 3),.bool (r.c 3 0),.bool (r.c 3 1),.bool (r.c 3 2),.bool (r.c 3 3)] (0+(i:Int).toNat*4+(j:Int).toNat*1) [.bool (decide (cZ (oN DO.st DO.no 0) (qx u9 No) 0≥0))]⟩ 139 (0,0))]) (by rw[UU (by omega) (by omega),hRW];rfl) ?_
    refine gX Tg []<|zD 2<|ja ((j:Int)+1) (by omega)<|zD 2<|bO hK8 (⟨j+1,(iO r i j ((lu K qx u9).c i j))⟩) ⟨by dsimp only;omega,hU.2.set⟩ (by dsimp only;omega) [0,2,3,4,5,6,7,8,9] (Sub.refl _)
   refine zD 3<|ja ((i:Int)+1) (by omega)<|zD 2<|bO hK6 (⟨i+1,r⟩) ⟨by dsimp only;omega,DI.nxt (fun x y h=>apO x y h) (by have:=hU.2;rwa[show j=K.after.length by omega] at this)⟩ (by dsimp only;omega) [0,2,3,4,5,6,7,8] Yt
  refine jd 9 [6,6,4,0]<|aN 6 fun Ek EG vw=>jn fun aFG=>bD vw [1,2,3,4,5,6,7,8]<|aN 7 fun Iw IB BQ=>jk (sz:=16) (ps:=((W.take k).map (lu K qx))) (qs:=[(r:bX)]) (enc:=B0) (w:= .slice (some ⟨aFG,0,none⟩) 1 1) [4] [0] [(aFG,.cells ⟨([(r:bX)].map B0).flatten⟩ 139 (0,0))] (hI.2) (fun s _ hZ=>cg [(r:bX)] (hZ _ (.head _)) (by intro p hp;rfl)) (fun p _=>aj rfl) (by simp only[List.length_map,List.length_take,List.length_cons,List.length_nil];omega) (fun aZG aUa VY=>?_)
  obtain⟨awU,awN,aBt⟩:=VY.form
  subst aBt
  refine gX BQ [[7],[7]]<|zD 2<|aN 10 fun Nn NI BP=>jd 1 [5]<|gX BP []<|zD 2<|ja ((k:Int)+1) (by omega)<|zD 2<|bO bU (⟨k+1,(.slice awU ((((W.take k).map (lu K qx))++[(r:bX)])).length awN),aUa⟩) ⟨by dsimp only;omega,by rw[jq aA2,List.map_append];have e:=DI.fin (fun x y h=>apP x y h) (by have:=hQ.2;rwa[show i=K.before.length by omega] at this);subst e;exact VY⟩ (by dsimp only;omega) [0,5,6,7,8] (Sub.refl _)
 refine jd 9 [3,3,4]<|jrD (g:=62) (ca:=[zP b2,zP b3]) ⟨rfl,rfl⟩ (.tuple ⟨[zP Hd,zI 0]⟩) [3,4] [1,0] ((Hd,.cells ⟨[.slice mg ib.length kU,.slice eY iI.length ee,.slice fa 0 fc,.slice eE K.cs.length ep,.slice dM hv.length dq,.slice kI K.rules.length kH,.slice mN K.before.length mA,.slice mi K.after.length lS,zI K.gone,zI K.new,zI K.ai,.slice jP K.facts.length iZ,vR]⟩ 116 (0,0))::LR) 9 cy ⟨_,_,rfl,rfl,Hd,rfl,fun lR hs hk=>⟨_,_,_,_,_,_,_,_,_,_,hv,hk _ (.head _),p6.up hs,nA,uK.up hs,uC.up hs,ha0.up hs,hf0.up hs,by have:=hI.2;rw[List.take_of_length_le (by omega)] at this;exact this.lq hk.tail⟩⟩
theorem Qu.v(h:Qu K):fU K where
 rules:=⟨by have:=h.rules.1;omega,fun r hr=>apN (h.rules.2 r hr)⟩
 before:=⟨by have:=h.before.1;omega,fun p hp=>by
  obtain⟨h1,h2,_⟩:=(h.before.2 p hp).1
  exact⟨⟨⟨h1.1.1,by have:=h1.1.2;omega⟩,h1.2⟩,h2⟩⟩
 after:=⟨by have:=h.after.1;omega,fun p hp=>by
  obtain⟨h1,h2,_⟩:=(h.after.2 p hp).1
  exact⟨⟨⟨h1.1.1,by have:=h1.1.2;omega⟩,h1.2⟩,h2⟩⟩
 dI:=h.dI.v
 facts:=⟨by have:=h.facts.1;omega,h.facts.2⟩
theorem qm.up{ro aK:Nat→Option Obj}(h:qm ro l W)(hs:Sub ro aK):qm aK l W:=fun aE h1=>h aE (hs.trans h1)
theorem wS.up{ro aK:Nat→Option Obj}{qx:List Int→aI→List an}(h:wS ro l K W qx)(hs:Sub ro aK):wS aK l K W qx:=fun w hw x hx=>⟨(h w hw x hx).1,fun aE h1=>(h w hw x hx).2 aE (hs.trans h1)⟩
theorem al0{qx:List Int→aI→List an}{ro:Nat→Option Obj}(hK:gG ro l K)(hO:lO K)(hV:fU K)(hW:Ue K W)(h76:qm ro l W)(h47:wS ro l K W qx):mM ro l K (W.map (lu K qx)):=
 fun aE hs=>arz (hK.up hs) hO hV hW (h76.up hs) (h47.up hs)
def qA(a b:Int):Int:=if a <b then-1 else if a>b then 1 else 0
def orL:List Int→Int
 | []=>0
 |x::l=>if x=0 then orL l else x
theorem ab9{l:List Int}{x:Int}(h:l[k]?=some x):orL (l.drop k)=if x=0 then orL (l.drop (k+1)) else x:=by rw[fT h];rfl
theorem ajx{l:List Int}(h:¬k <l.length):orL (l.drop k)=0:=by rw[eP h];rfl
def Za(x y:ah):Int:=orL [qA x.n y.n,qA x.l y.l]
theorem alN{x y:ah}(h:ajr x y):Za x y <0:=by
 rcases h with h| ⟨h1,h2⟩
 ·have e:qA x.n y.n= -1:=if_pos h
  simp[Za,orL,e]
 have e:qA x.n y.n=0:=by simp only[qA];rw[if_neg (by omega),if_neg (by omega)]
 have e2:qA x.l y.l= -1:=if_pos h2
 simp[Za,orL,e,e2]
theorem aEF{a:Int}{ro:Nat→Option Obj}:dL zT 133 [zI a] ro (.bool false):=by
 refine bI av [] [] bB<|zD 12<|aJ q0 (.bool (!decide (a=a))) [] [] [] (Sub.refl _) ⟨_,_,rfl,rfl,by simp,rfl⟩
theorem aur{a b:Int}{ro:Nat→Option Obj}:dL zT 96 [zI a,zI b] ro (zI (qA a b)):=by
 refine bI av [] [] bB<|zD 7<|jp (vs:=[zI a]) [] [] (fun aE hs hZ=>aEF)<|zD 5<|jp (vs:=[zI b]) [] [] (fun aE hs hZ=>aEF)<|zD 23<|zJ 16 (a <b) (fun h1=>?_) fun h1=>?_
 ·
  refine zD 6<|aJ q0 (zI (-1)) [] [] [] (Sub.refl _) ⟨_,_,rfl,rfl,by simp only[qA];first|rw[if_pos (by omega)]|rw[if_neg (by omega),if_pos (by omega)]|rw[if_neg (by omega),if_neg (by omega)],rfl⟩
 refine zD 9<|zJ 19 (a>b) (fun h2=>?_) fun h2=>?_
 ·
  refine zD 6<|aJ q0 (zI 1) [] [] [] (Sub.refl _) ⟨_,_,rfl,rfl,by simp only[qA];first|rw[if_pos (by omega)]|rw[if_neg (by omega),if_pos (by omega)]|rw[if_neg (by omega),if_neg (by omega)],rfl⟩
 refine zD 7<|aJ q0 (zI 0) [] [] [] (Sub.refl _) ⟨_,_,rfl,rfl,by simp only[qA];first|rw[if_pos (by omega)]|rw[if_neg (by omega),if_pos (by omega)]|rw[if_neg (by omega),if_neg (by omega)],rfl⟩
theorem gOr{v:Value}{ro:Nat→Option Obj}(hl:bL ro v 1 db xs)(hn:xs.length≤1000):dL zT 175 [v] ro (zI (orL xs)):=by
 obtain⟨fC,rj,ri,eV,rfl,tj,lB,mz⟩:=hl
 refine bI av [] [] bB<|zD 16<|eG [1,1,0,1,0,0] [] (fun(zz:Nat)=>[(3,zI 0),(6,.slice fC xs.length eV),(7,zI (xs.length:Int)),(8,zI (zz:Int))]) (fun(zz:Nat)=>[]) (fun(zz:Nat)=>zz≤xs.length∧orL xs=orL (xs.drop zz)) (fun(zz:Nat)=>xs.length-zz) 0 ⟨by omega,rfl⟩ [] ?_
 rintro k hI K1 bU rest
 refine zD 5<|zJ 9 ((k:Int) <(xs.length:Int)) (fun h1=>?_) fun h1=>?_
 ·
  refine zD 6 ?_
  obtain⟨x10,rq⟩:=zG xs k
  refine iE eV 1 lB rq<|jl 0 (mz _ _ rq)<|zD 8<|js 14 (!decide (x10=0)) (fun h2=>?_) (fun h2=>?_)
  ·
   replace h2:=of_decide_eq_false (by simpa using h2)
   refine zD 7<|aJ q0 (zI x10) [] [] [] (Sub.refl _) ⟨_,_,rfl,rfl,by rw[hI.2,ab9 rq,if_neg (by simp_all)],rfl⟩
  replace h2:=of_decide_eq_true (by simpa using h2)
  refine zD 3<|ja ((k:Int)+1) (by omega)<|zD 2<|bO bU (k+1) ⟨by omega,by rw[hI.2,ab9 rq,if_pos (by simp_all)]⟩ (by omega) [] (Sub.refl _)
 refine zD 8<|aJ q0 (zI 0) [] [] [] (Sub.refl _) ⟨_,_,rfl,rfl,by rw[hI.2,ajx (by omega)],rfl⟩
theorem aoe{x y:ah}{ro:Nat→Option Obj}:dL zT 176 [.agg ⟨[zI x.n,zI x.l]⟩,.agg ⟨[zI y.n,zI y.l]⟩] ro (zI (Za x y)):=by
 refine bI av [] [] bB<|zD 2<|jn fun b2=>jn fun b3=>jd 12 [1,0,1,0]<|jp (vs:=[zI x.n,zI y.n]) [] [] (fun aE hs hZ=>aur)<|jp (vs:=[zI x.l,zI y.l]) [] [] (fun aE hs hZ=>aur)<|aN 10 fun C1 C7 AT=>jn fun lf=>bD AT [1,2]<|jp (vs:=[.slice (some ⟨lf,0,none⟩) 2 2]) [0] [(lf,.cells ⟨([(qA x.n y.n),(qA x.l y.l)].map db).flatten⟩ 3 (0,0))] (fun aE hs hZ=>gOr (cb [(qA x.n y.n),(qA x.l y.l)] hZ.head (by intro p hp;rfl)) (by first|omega| (simp only[List.length_set,List.length_append,List.length_cons,List.length_nil];omega))) ?_
 refine zD 3<|aJ q0 (zI (orL [(qA x.n y.n),(qA x.l y.l)])) [] [] [] (Sub.refl _) ⟨_,_,rfl,rfl,rfl,rfl⟩
theorem Ai{lo hi:Int}{ro:Nat→Option Obj}:dL zT 162 [zI n,zI lo,zI hi] ro (.bool (iV n lo hi)):=by
 refine bI av [] [] bB<|zD 10<|jj 4 [(6,.bool false),(14,.bool ((decide (lo≤n))&&(decide (n≤hi))))] (fun gJ=>?_) (fun hj=>?_)
 rotate_left
 refine js 10 (decide (lo≤n)) (fun h1=>?_) (fun h1=>?_)
 ·
  have gh:=h1
  replace gh:=of_decide_eq_true gh
  refine zD 4<|jw 14 (.bool ((decide (lo≤n))&&(decide (n≤hi)))) (w:= .bool (decide (n≤hi))) (by rw[h1]<;>rfl) ?_
  exact hj _ (by kernel_rfl) (by kernel_rfl)
 ·
  have gh:=h1
  replace gh:=of_decide_eq_false gh
  refine zD 4<|jw 14 (.bool ((decide (lo≤n))&&(decide (n≤hi)))) (w:= .bool false) (by rw[h1]<;>rfl) ?_
  exact hj _ (by kernel_rfl) (by kernel_rfl)
 refine zD 3<|aJ q0 (.bool ((decide (lo≤n))&&(decide (n≤hi)))) [] [] [] (Sub.refl _) ⟨_,_,rfl,rfl,rfl,rfl⟩
theorem aum{x:ah}{ro:Nat→Option Obj}(hx:AJ x):dL zT 164 [.agg ⟨[zI x.n,zI x.l]⟩] ro (.bool true):=by
 obtain⟨⟨hx1,hx2⟩,hx3,hx4⟩:=hx
 refine bI av [] [] bB<|zD 2<|jn fun b1=>jd 6 [0]<|jp (vs:=[zI x.n,zI 1,zI 40]) [] [] (fun aE hs hZ=>Ai)<|zD 1<|jj 4 [(2,.bool false),(10,.bool ((iV x.n 1 40)&&(iV x.l 0 4)))] (fun gJ=>?_) (fun hj=>?_)
 rotate_left
 refine js 6 (iV x.n 1 40) (fun h1=>?_) (fun h1=>?_)
 ·
  refine jd 2 [0]<|jp (vs:=[zI x.l,zI 0,zI 4]) [] [] (fun aE hs hZ=>Ai)<|zD 1<|jw 10 (.bool ((iV x.n 1 40)&&(iV x.l 0 4))) (w:= .bool (iV x.l 0 4)) (by rw[h1]<;>rfl) ?_
  exact hj _ (by kernel_rfl) (by kernel_rfl)
 ·
  refine zD 4<|jw 10 (.bool ((iV x.n 1 40)&&(iV x.l 0 4))) (w:= .bool false) (by rw[h1]<;>rfl) ?_
  exact hj _ (by kernel_rfl) (by kernel_rfl)
 refine zD 3<|aJ q0 (.bool ((iV x.n 1 40)&&(iV x.l 0 4))) [] [] [] (Sub.refl _) ⟨_,_,rfl,rfl,by simp only[iV,Value.bool.injEq,Bool.and_eq_true,decide_eq_true_eq];omega,rfl⟩
theorem aus{v:Value}{S:List (List ah)}{ro:Nat→Option Obj}(hS:cS ro v S)(hO:e8 S):dL zT 161 [.agg ⟨[v]⟩] ro (zI 0):=by
 obtain⟨ws,ht,dr⟩:=hS
 obtain⟨eY,zh,zf,ee,rfl,zg,rH,rG⟩:=ht
 have hln:=dr.len
 have H6:=hO.two
 refine bI av [] [] bB<|zD 2<|jn fun b1=>jd 10 [0]<|zJ 10 ((ws.length:Int)=0) (fun h1=>?_) fun h1=>?_
 ·
  exfalso;omega
 refine jd 10 [0]<|zJ 14 ((ws.length:Int)>3) (fun h2=>?_) fun h2=>?_
 ·
  exfalso;omega
 refine jd 11 [0]<|eG [1,1,1,0,1,0,0] [] (fun(zz:Nat)=>[(16,.slice eY ws.length ee),(17,zI (ws.length:Int)),(18,zI (zz:Int))]) (fun(zz:Nat)=>[.b b1 (.cells ⟨[.slice eY ws.length ee]⟩ 25 (0,0))]) (fun(zz:Nat)=>zz≤ws.length) (fun(zz:Nat)=>ws.length-zz) 0 (by omega) [0] ?_
 rintro k hI K1 bU rest
 refine zD 5<|zJ 19 ((k:Int) <(ws.length:Int)) (fun h3=>?_) fun h3=>?_
 ·
  refine zD 6 ?_
  obtain⟨x20,Lu⟩:=zG ws k
  refine iE ee 1 rH Lu ?_
  obtain⟨l21,asN,h21⟩:=dr.get Lu
  obtain bcE:=hO.len _ (List.mem_of_getElem? asN)
  obtain aOn:=hO.ok _ (List.mem_of_getElem? asN)
  obtain akC:=hO.asc _ (List.mem_of_getElem? asN)
  obtain⟨ayC,baM,baK,ajo,rfl,baL,ayB,ayA⟩:=h21
  refine jl 0 (rG _ _ Lu)<|zD 9<|zJ 24 ((l21.length:Int)>8) (fun h4=>?_) fun h4=>?_
  ·
   exfalso;omega
  refine zD 9<|eG [1,1,1,0,1,0,0,1,1,0,0,1,1,1,0,0] [K1] (fun(zz:Nat)=>[(4,.slice ayC l21.length ajo),(16,.slice eY ws.length ee),(17,zI (ws.length:Int)),(18,zI (k:Int)),(25,.slice ayC l21.length ajo),(26,zI (l21.length:Int)),(27,zI (zz:Int))]) (fun(zz:Nat)=>[.b b1 (.cells ⟨[.slice eY ws.length ee]⟩ 25 (0,0))]) (fun(zz:Nat)=>zz≤l21.length) (fun(zz:Nat)=>l21.length-zz) 0 (by omega) [0] ?_
  rintro i hJ K2 lL rest
  refine zD 5<|zJ 28 ((i:Int) <(l21.length:Int)) (fun h5=>?_) fun h5=>?_
  ·
   refine zD 7 ?_
   obtain⟨nU,iR⟩:=zG l21 i
   refine iE ajo 2 ayB iR<|jl 0 (ayA _ _ iR)<|jn fun b6=>jd 7 [0,0]<|jp (vs:=[.agg ⟨[zI nU.n,zI nU.l]⟩]) [] [] (fun aE hs hZ=>(aum (x:=nU) (aOn _ (List.mem_of_getElem? iR))))<|zD 9<|js 2 (decide ((i:Int)>0)) (fun h6=>?_) (fun h6=>?_)
   ·
    have h6g:=h6
    replace h6g:=of_decide_eq_true h6g
    refine zD 2<|ja ((i:Int)-1) (by omega) ?_
    obtain⟨x41,arQ⟩:=zG l21 (((i:Int)-1).toNat)
    refine M7 ((i:Int)-1) ajo 2 ayB arQ (by omega)<|jl 0 (ayA _ _ arQ)<|jd 1 [0]<|jp (vs:=[.agg ⟨[zI x41.n,zI x41.l]⟩,.agg ⟨[zI nU.n,zI nU.l]⟩]) [] [] (fun aE hs hZ=>(aoe (x:=x41) (y:=nU)))<|zD 3<|zJ 46 ((Za x41 nU)≥0) (fun h7=>?_) fun h7=>?_
    ·
     exfalso;have:=alN (pN akC (show ((i:Int)-1).toNat <i by omega) arQ iR);simp_all;omega
    refine zD 3<|ja ((i:Int)+1) (by omega)<|zD 2<|bO lL (i+1) (by omega) (by omega) [1] (Sub.refl _)
   have h6g:=h6
   replace h6g:=of_decide_eq_false h6g
   refine zD 13<|ja ((i:Int)+1) (by omega)<|zD 2<|bO lL (i+1) (by omega) (by omega) [1] (Sub.refl _)
  refine zD 3<|ja ((k:Int)+1) (by omega)<|zD 2<|bO bU (k+1) (by omega) (by omega) [0] (Sub.refl _)
 refine zD 7<|aJ q0 (zI 0) [] [] [] (Sub.refl _) ⟨_,_,rfl,rfl,rfl,rfl⟩
abbrev oF(x:an):Value:= .agg ⟨cI x⟩
instance:DecidableEq an:=fun x y=>match x,y with
 | ⟨a,b,c⟩,⟨d,e,f⟩=>if h:a=d∧b=e∧c=f then isTrue (by obtain⟨rfl,rfl,rfl⟩:=h;rfl) else isFalse fun k=>h (by cases k;exact⟨rfl,rfl,rfl⟩)
def mB(s:Int)(x:ah):an:=⟨s,x.n,x.l⟩
def Pa(S:List (List ah)):Nat→List an
 |0=>[]
 |k+1=>Pa S k++(match S[k]? with
  |some l=>l.map (mB k)
  |none=>[])
def bG(S:List (List ah)):List an:=Pa S S.length
theorem ar5{S:List (List ah)}{l:List ah}(h:S[k]?=some l):Pa S (k+1)=Pa S k++l.map (mB k):=by simp only[Pa,h]
theorem D8{S:List (List ah)}{x:an}:∀ {k:Nat},x∈Pa S k↔∃j l p,j <k∧S[j]?=some l∧p∈l∧x=mB j p
 |0=>by simp[Pa]
 |k+1=>by
  simp only[Pa,List.mem_append,D8 (k:=k)]
  constructor
  ·rintro(⟨j,l,p,h1,h2⟩|h)
   ·exact⟨j,l,p,by omega,h2⟩
   split at h
   ·rename_i l hl
    obtain⟨p,hp,rfl⟩:=List.mem_map.1 h
    exact⟨k,l,p,by omega,hl,hp,rfl⟩
   cases h
  rintro⟨j,l,p,h1,h2,h3,rfl⟩
  by_cases hj:j=k
  ·subst hj;rw[h2];exact .inr (List.mem_map_of_mem h3)
  exact .inl ⟨j,l,p,by omega,h2,h3,rfl⟩
theorem F7{S:List (List ah)}{j:Nat}{l:List ah}{p:ah}(h1:S[j]?=some l) (h2:p∈l):mB j p∈bG S:=D8.2 ⟨j,l,p,(List.getElem?_eq_some_iff.1 h1).1,h1,h2,rfl⟩
theorem SL{S:List (List ah)}(hO:e8 S):∀k,(Pa S k).Nodup
 |0=>List.nodup_nil
 |k+1=>by
  simp only[Pa]
  refine List.nodup_append.2 ⟨SL hO k,?_,fun x hx y hy e=>?_⟩
  ·split
   ·rename_i l hl
    refine List.pairwise_map.2 ((hO.asc l (List.mem_of_getElem? hl)).imp fun {a b} h e=>?_)
    simp only[mB,an.mk.injEq] at e
    rcases h with h|h<;>omega
   exact List.nodup_nil
  subst e
  obtain⟨j,l,p,h1,_,_,rfl⟩:=D8.1 hx
  split at hy
  ·obtain⟨q,_,hq⟩:=List.mem_map.1 hy
   simp only[mB,an.mk.injEq] at hq
   omega
  cases hy
theorem Ly{S:List (List ah)}(hO:e8 S):∀k,(Pa S k).length≤4*k
 |0=>by simp[Pa]
 |k+1=>by
  have:=Ly hO k
  simp only[Pa,List.length_append]
  split
  ·rename_i l hl
   have:=hO.len l (List.mem_of_getElem? hl)
   rw[List.length_map];omega
  simp;omega
theorem tK{S:List (List ah)}(hO:e8 S):(bG S).length≤8:=by
 have:=Ly hO S.length
 have:=hO.two
 unfold bG;omega
theorem aEZ(a b:an):ZB zT 10000 144 (oF a) (oF b) (decide (a=b)):=by
 have h:=(tP (mV Tryz.typeInfo144 Tryz.underlying144 rfl rfl rfl rfl rfl rfl) Tryz.stoodInHeld144 (.cons (by decide) (jY mw rfl) (jY mw rfl) (nQ mw _ _) (.cons (by decide) (Fc (mV Tryz.typeInfo70 Tryz.underlying70 rfl rfl rfl rfl rfl rfl) rfl) (Fc (mV Tryz.typeInfo70 Tryz.underlying70 rfl rfl rfl rfl rfl rfl) rfl) (agu _ _ _ _ 9997) .nil)):ZB zT 10000 144 (oF a) (oF b) _)
 have e:(a.h==b.h&&((a.n==b.n&&(a.l==b.l&&true))&&true))=decide (a=b):=by
  rcases a with ⟨x,y,z⟩;rcases b with ⟨u,v,w⟩
  rw[Bool.eq_iff_iff];simp
 rwa[e] at h
theorem aS3(a:an):CkD zT 10000 144 (oF a):=
 Qe (mV Tryz.typeInfo144 Tryz.underlying144 rfl rfl rfl rfl rfl rfl) (.cons (by decide) (jY mw rfl) (GU mw _) (.cons (by decide) (Fc (mV Tryz.typeInfo70 Tryz.underlying70 rfl rfl rfl rfl rfl rfl) rfl) (Qe (dep:=9998) (mV Tryz.typeInfo70 Tryz.underlying70 rfl rfl rfl rfl rfl rfl) (.cons (by decide) (jY mw rfl) (GU mw _) (.cons (by decide) (jY mw rfl) (GU mw _) .nil))) .nil))
theorem CC:Qv zT 144 oF:=ada (mV Tryz.typeInfo144 Tryz.underlying144 rfl rfl rfl rfl rfl rfl) (fun k=>⟨_,rfl⟩) aS3 aEZ (fun k=>by simp[Instr.sameBits])
def MV(Z:Cells)(F:List (an×Value))(g:an→an):Prop:=∀aK,Knows aK Z→∀x∈F,bL aK x.2 3 cI [g x.1]
theorem GB[DecidableEq κ]{k:κ}:∀ {F:List (κ×Value)} {i:Nat},k∈F.map (·.1)→∃j v,rI k F i=some (j,v)
 | [],_,h=>by cases h
 |x::F,i,h=>by
  simp only[rI]
  split
  ·exact⟨_,_,rfl⟩
  rename_i hk
  refine GB ?_
  rcases List.mem_cons.1 h with h|h
  ·exact absurd h hk
  exact h
theorem Vu[DecidableEq κ]{k:κ}{F:List (κ×Value)}(h:k∈F.map (·.1)):∃v,lkM k F=some v∧(k,v)∈F:=by
 obtain⟨j,v,h1⟩:=GB (i:=0) h
 exact⟨v,by simp[lkM,h1],List.mem_of_getElem? (qd h1).2⟩
theorem aaG[DecidableEq κ]{k:κ}{v:Value}{F:List (κ×Value)}(h:k∉F.map (·.1)):mf k v F=F++[(k,v)]:=by
 have:rI k F 0=none:=by
  cases hf:rI k F 0 with
  |none=>rfl
  |some y=>exact absurd (List.mem_map_of_mem (f:=(·.1)) (List.mem_of_getElem? (qd (j:=y.1) (v:=y.2) hf).2)) h
 simp only[mf,this]
theorem Nz[DecidableEq κ]{k:κ}{v:Value}{F:List (κ×Value)}(h:k∈F.map (·.1))(hn:(F.map (·.1)).Nodup):(mf k v F).map (·.1)=F.map (·.1)∧∀x∈mf k v F,x=(k,v)∨(x∈F∧x.1≠k):=by
 obtain⟨j,u,h1⟩:=GB (i:=0) h
 have h2:=(qd h1).2
 rw[Nat.sub_zero] at h2
 obtain⟨hj,QQ⟩:=List.getElem?_eq_some_iff.1 h2
 simp only[mf,h1,DW]
 refine⟨?_,fun x hx=>?_⟩
 ·rw[List.map_set]
  refine List.ext_getElem? fun i=>?_
  rw[List.getElem?_set]
  split
  ·rename_i hi;subst hi;simp[h2,hj,QQ]
  rfl
 obtain⟨i,hi⟩:=List.getElem?_of_mem hx
 rw[List.getElem?_set] at hi
 split at hi
 ·cases hi;exact .inl rfl
 rename_i HA
 refine .inr ⟨List.mem_of_getElem? hi,fun e=>HA ?_⟩
 obtain⟨hi1,S1⟩:=List.getElem?_eq_some_iff.1 hi
 exact(List.getElem_inj (xs:=F.map (·.1)) (h₀:=by simpa using hj) (h₁:=by simpa using hi1) hn).1 (by simp[QQ,S1,e])
theorem MV.set{F:List (an×Value)}{g:an→an}(h:MV Z F g){k y:an}{v:Value}(hk:k∈F.map (·.1))(hn:(F.map (·.1)).Nodup)(hv:∀aK,Knows aK Z2→bL aK v 3 cI [y]):MV (Z++Z2) (mf k v F) (fun x=>if x=k then y else g x):=fun aK hr x hx=>by
 rcases(Nz hk hn).2 x hx with rfl| ⟨h1,h2⟩
 ·simp only[if_true];exact hv aK hr.right
 simp only[h2,if_false];exact h aK hr.left x h1
theorem MV.add{F:List (an×Value)}{g:an→an}(h:MV Z F g){k:an}{v:Value}(hv:∀aK,Knows aK Z2→bL aK v 3 cI [g k]):MV (Z++Z2) (F++[(k,v)]) g:=fun aK hr x hx=>by
 rcases List.mem_append.1 hx with h1|h1
 ·exact h aK hr.left x h1
 rw[List.mem_singleton] at h1;subst h1;exact hv aK hr.right
theorem aER{v:Value}{ro:Nat→Option Obj}(hl:bL ro v 1 db xs)(hn:xs.length≤1000):eI zT 169 [v] ro [] (fun r Y=>aD r 1 3 db xs Y):=by
 obtain⟨fC,rj,ri,eV,rfl,tj,lB,mz⟩:=hl
 refine bI av [] [] bB<|zD 8<|jsn 22 (a:=fC) (l:=xs.length) (c:=eV)<|zD 1<|js 4 (fC.isNone) (fun h1=>?_) (fun h1=>?_)
 ·
  refine zD 6<|aJ q0 (zS) [] [] [] (Sub.refl _) ⟨_,_,rfl,rfl,by rw[qI lB (by assumption)];exact aD.nil _ _ _⟩
 refine zD 4<|jn fun b5=>zD 1<|jk (sz:=1) (ps:=[]) (qs:=xs) (enc:=db) (w:= .slice fC xs.length eV) [0] [] [] (bC (b:=b5) (T:=3)) (fun s he _=>⟨fC,rj,ri,eV,rfl,lB,fun i p hp=>(mz i p hp).ext he⟩) (fun p _=>aj rfl) (by simp<;>omega) (fun v7 L7 iz=>?_)
 rw[List.nil_append] at iz
 obtain⟨Nw,Nu,LI⟩:=iz.form
 subst LI
 refine zD 3<|aJ q0 ((.slice Nw (xs).length Nu)) [] [0] L7 (Sub.refl _) ⟨_,_,rfl,rfl,iz⟩
theorem aSG{v:Value}{xs:List ah}{ro:Nat→Option Obj}(hl:bL ro v 2 cH xs)(hn:xs.length≤1000):eI zT 203 [v] ro [] (fun r Y=>aD r 2 70 cH xs Y):=by
 obtain⟨fC,rj,ri,eV,rfl,tj,lB,mz⟩:=hl
 refine bI av [] [] bB<|zD 8<|jsn 71 (a:=fC) (l:=xs.length) (c:=eV)<|zD 1<|js 4 (fC.isNone) (fun h1=>?_) (fun h1=>?_)
 ·
  refine zD 6<|aJ q0 (zS) [] [] [] (Sub.refl _) ⟨_,_,rfl,rfl,by rw[qI lB (by assumption)];exact aD.nil _ _ _⟩
 refine zD 4<|jn fun b5=>zD 1<|jk (sz:=2) (ps:=[]) (qs:=xs) (enc:=cH) (w:= .slice fC xs.length eV) [0] [] [] (bC (b:=b5) (T:=70)) (fun s he _=>⟨fC,rj,ri,eV,rfl,lB,fun i p hp=>(mz i p hp).ext he⟩) (fun p _=>aj rfl) (by simp<;>omega) (fun v7 L7 iz=>?_)
 rw[List.nil_append] at iz
 obtain⟨Nw,Nu,LI⟩:=iz.form
 subst LI
 refine zD 3<|aJ q0 ((.slice Nw (xs).length Nu)) [] [0] L7 (Sub.refl _) ⟨_,_,rfl,rfl,iz⟩
theorem aSH{v:Value}{xs:List an}{ro:Nat→Option Obj}(hl:bL ro v 3 cI xs)(hn:xs.length≤1000):eI zT 119 [v] ro [] (fun r Y=>aD r 3 144 cI xs Y):=by
 obtain⟨fC,rj,ri,eV,rfl,tj,lB,mz⟩:=hl
 refine bI av [] [] bB<|zD 8<|jsn 140 (a:=fC) (l:=xs.length) (c:=eV)<|zD 1<|js 4 (fC.isNone) (fun h1=>?_) (fun h1=>?_)
 ·
  refine zD 6<|aJ q0 (zS) [] [] [] (Sub.refl _) ⟨_,_,rfl,rfl,by rw[qI lB (by assumption)];exact aD.nil _ _ _⟩
 refine zD 4<|jn fun b5=>zD 1<|jk (sz:=3) (ps:=[]) (qs:=xs) (enc:=cI) (w:= .slice fC xs.length eV) [0] [] [] (bC (b:=b5) (T:=144)) (fun s he _=>⟨fC,rj,ri,eV,rfl,lB,fun i p hp=>(mz i p hp).ext he⟩) (fun p _=>aj rfl) (by simp<;>omega) (fun v7 L7 iz=>?_)
 rw[List.nil_append] at iz
 obtain⟨Nw,Nu,LI⟩:=iz.form
 subst LI
 refine zD 3<|aJ q0 ((.slice Nw (xs).length Nu)) [] [0] L7 (Sub.refl _) ⟨_,_,rfl,rfl,iz⟩
theorem alv{v:Value}{S:List (List ah)}{ro:Nat→Option Obj}(hS:cS ro v S)(hO:e8 S):eI zT 172 [.agg ⟨[v]⟩] ro [] (fun r Y=>∃a n c,r= .agg ⟨[.slice a n c]⟩∧∀aK,Knows aK Y→cS aK (.slice a n c) S):=by
 obtain⟨ws,ht,dr⟩:=hS
 obtain⟨eY,zh,zf,ee,rfl,zg,rH,rG⟩:=ht
 have hln:=dr.len
 have H6:=hO.two
 refine bI av [] [] bB<|zD 2<|jn fun b1=>jn fun b2=>zD 4<|jn fun b3=>jd 11 [0,2]<|oU<|oU<|eG [1,1,0,1,0,0] [] (fun(zz:Nat×Value×Cells×(List Value)×Cells)=>[(2,zP b2),(3,zP b3),(8,.slice eY ws.length ee),(9,zI (ws.length:Int)),(10,zI (zz.1:Int))]) (fun(zz:Nat×Value×Cells×(List Value)×Cells)=>[.b b3 (.cells ⟨[zz.2.1]⟩ 25 (0,0)),.l zz.2.2.1,.l zz.2.2.2.2,.b b2 (.cells ⟨[zS]⟩ 25 (0,0)),.b b1 (.cells ⟨[.slice eY ws.length ee]⟩ 25 (0,0))]) (fun(zz:Nat×Value×Cells×(List Value)×Cells)=>(zz.1≤ws.length∧zz.2.2.2.1.length=zz.1)∧aD zz.2.1 1 71 gN zz.2.2.2.1 zz.2.2.1∧∀aK,Knows aK zz.2.2.2.2→du (fun w l=>bL aK w 2 cH l) zz.2.2.2.1 (S.take zz.1)) (fun(zz:Nat×Value×Cells×(List Value)×Cells)=>ws.length-zz.1) (⟨0,zS,[],[],[]⟩) ⟨⟨by dsimp only;omega,rfl⟩,aD.nil _ _ _,fun _ _=> .nil⟩ [2,1,0,3,4] ?_
 rintro⟨k,vO,LO,es,Z⟩ hI K1 bU rest
 dsimp only at hI
 refine zD 5<|zJ 11 ((k:Int) <(ws.length:Int)) (fun h1=>?_) fun h1=>?_
 ·
  refine zD 6 ?_
  obtain⟨sU,pX⟩:=zG ws k
  refine iE ee 1 rH pX ?_
  obtain⟨l13,aA5,AV⟩:=dr.get pX
  obtain aAU:=hO.len _ (List.mem_of_getElem? aA5)
  obtain⟨ayJ,aMK,aMG,ayI,rfl,aMI,aMJ,aMH⟩:=AV
  refine jl 0 (rG _ _ pX)<|jd 6 [0]<|aN 3 fun AY A5 Ah=>jc (vs:=[.slice ayJ l13.length ayI]) [] (aSG (show bL _ _ _ _ _ from ⟨ayJ,aMK,aMG,ayI,rfl,aMI,aMJ,aMH⟩) (by first|omega| (simp only[List.length_set,List.length_append,List.length_cons,List.length_nil];omega))) ?_
  rintro v17 L17 BJ
  obtain⟨wX,wW,Ic⟩:=BJ.form
  subst Ic
  refine bD Ah [1,2,3,4,5]<|aN 4 fun qZ q6 p7=>jn fun fA=>bD p7 [1,2,3,4,5,6]<|aN 5 fun rK rR qz=>jk (sz:=1) (ps:=es) (qs:=[((.slice wX (l13).length wW):Value)]) (enc:=gN) (w:= .slice (some ⟨fA,0,none⟩) 1 1) [3] [0] [(fA,.cells ⟨([((.slice wX (l13).length wW):Value)].map gN).flatten⟩ 71 (0,0))] (hI.2.1) (fun s _ hZ=>cg [((.slice wX (l13).length wW):Value)] (hZ _ (.head _)) (by intro p hp;rfl)) (by intro p hp;rw[List.mem_singleton] at hp;subst hp;exact aj rfl) (by simp<;>omega) (fun v19 L19 aeg=>?_)
  obtain⟨aKa,aJO,aQk⟩:=aeg.form
  subst aQk
  refine gX qz []<|zD 1<|aN 7 fun yY y8 Ag=>jd 1 [3]<|dV Ag<|zD 2<|ja ((k:Int)+1) (by omega)<|zD 2<|Lh bU (⟨k+1,(.slice aKa ((es++[((.slice wX (l13).length wW):Value)])).length aJO),L19,(es++[((.slice wX (l13).length wW):Value)]),L17++Z⟩) ⟨⟨by dsimp only;omega,by simp only[List.length_append,List.length_cons,List.length_nil];omega⟩,aeg,fun aK hk=>pE (hI.2.2 aK hk.right) aA5 (BJ.lq hk.left)⟩ (by dsimp only;omega) [[3],[0],[2,4],[5],[6]] (Sub.refl _)
 refine jd 5 [0] ?_
 obtain⟨va6,vc6,he6⟩:=hI.2.1.form
 subst he6
 refine jd 3 [3]<|aJ q0 (.agg ⟨[(.slice va6 (es).length vc6)]⟩) [3] [1,2] (LO++Z) (Sub.refl _) ⟨_,_,rfl,rfl,_,_,_,rfl,fun aK hk=>⟨es,hI.2.1.lq hk.left,by have:=hI.2.2 aK hk.right;rwa[List.take_of_length_le (by omega)] at this⟩⟩
theorem Wk{v:Value}{S:List (List ah)}{ro:Nat→Option Obj}(hS:cS ro v S)(hO:e8 S):eI zT 163 [.agg ⟨[v]⟩] ro [] (fun r Y=>aD r 3 144 cI (bG S) Y):=by
 obtain⟨ws,ht,dr⟩:=hS
 obtain⟨eY,zh,zf,ee,rfl,zg,rH,rG⟩:=ht
 have hln:=dr.len
 have H6:=hO.two
 refine bI av [] [] bB<|zD 2<|jn fun b1=>jd 15 [0]<|oU<|eG [1,1,0,1,0,0] [] (fun(zz:Nat×Value×Cells)=>[(2,zS),(3,zz.2.1),(9,.slice eY ws.length ee),(10,zI (ws.length:Int)),(11,zI (zz.1:Int))]) (fun(zz:Nat×Value×Cells)=>[.l zz.2.2,.b b1 (.cells ⟨[.slice eY ws.length ee]⟩ 25 (0,0))]) (fun(zz:Nat×Value×Cells)=>zz.1≤ws.length∧aD zz.2.1 3 144 cI (Pa S zz.1) zz.2.2) (fun(zz:Nat×Value×Cells)=>ws.length-zz.1) (⟨0,zS,[]⟩) ⟨by dsimp only;omega,aD.nil _ _ _⟩ [0,1] ?_
 rintro⟨k,vO,LO⟩ hI K1 bU rest
 dsimp only at hI
 refine zD 5<|zJ 12 ((k:Int) <(ws.length:Int)) (fun h1=>?_) fun h1=>?_
 ·
  refine zD 7 ?_
  obtain⟨fK,eN⟩:=zG ws k
  refine iE ee 1 rH eN ?_
  obtain⟨OZ,YE,Dw⟩:=dr.get eN
  obtain aPw:=hO.len _ (List.mem_of_getElem? YE)
  obtain⟨aqt,aMF,aMD,abU,rfl,aME,aqs,aqr⟩:=Dw
  refine jl 0 (rG _ _ eN)<|zD 10<|eG [1,1,0,1,0,0,1,1,0,0,1,1,0,0] [K1] (fun(zz:Nat×Value×Cells)=>[(2,zS),(3,zz.2.1),(4,zI (k:Int)),(9,.slice eY ws.length ee),(10,zI (ws.length:Int)),(11,zI (k:Int)),(16,.slice aqt OZ.length abU),(17,zI (OZ.length:Int)),(18,zI (zz.1:Int))]) (fun(zz:Nat×Value×Cells)=>[.l zz.2.2,.b b1 (.cells ⟨[.slice eY ws.length ee]⟩ 25 (0,0))]) (fun(zz:Nat×Value×Cells)=>zz.1≤OZ.length∧aD zz.2.1 3 144 cI (Pa S k++(OZ.take zz.1).map (mB k)) zz.2.2) (fun(zz:Nat×Value×Cells)=>OZ.length-zz.1) (⟨0,vO,LO⟩) ⟨by dsimp only;omega,by simpa using hI.2⟩ [0,1] ?_
  rintro⟨i,vO,LO⟩ hJ K2 lL rest
  dsimp only at hJ
  refine zD 5<|zJ 19 ((i:Int) <(OZ.length:Int)) (fun h2=>?_) fun h2=>?_
  ·
   refine zD 6 ?_
   obtain⟨x20,Lu⟩:=zG OZ i
   refine iE abU 2 aqs Lu<|jl 0 (aqr _ _ Lu)<|jn fun b7=>jd 7 [0,0]<|jn fun b26=>jk (sz:=3) (ps:=(Pa S k++(OZ.take i).map (mB k))) (qs:=[(⟨(k:Int),x20.n,x20.l⟩:an)]) (enc:=cI) (w:= .slice (some ⟨b26,0,none⟩) 1 1) [2] [0] [(b26,.cells ⟨([(⟨(k:Int),x20.n,x20.l⟩:an)].map cI).flatten⟩ 144 (0,0))] (hJ.2) (fun s _ hZ=>cg [(⟨(k:Int),x20.n,x20.l⟩:an)] (hZ _ (.head _)) (by intro p hp;rfl)) (fun p _=>aj rfl) (by have:=Ly hO k;simp only[List.length_append,List.length_map,List.length_take,List.length_cons,List.length_nil];omega) (fun v27 L27 aee=>?_)
   obtain⟨aJ7,aJL,aQi⟩:=aee.form
   subst aQi
   refine zD 3<|ja ((i:Int)+1) (by omega)<|zD 2<|bO lL (⟨i+1,(.slice aJ7 (((Pa S k++(OZ.take i).map (mB k))++[(⟨(k:Int),x20.n,x20.l⟩:an)])).length aJL),L27⟩) ⟨by dsimp only;omega,by rw[fu Lu,List.map_append,←List.append_assoc];exact aee⟩ (by dsimp only;omega) [0,3] (Sub.refl _)
  refine zD 3<|ja ((k:Int)+1) (by omega)<|zD 2<|bO bU (⟨k+1,vO,LO⟩) ⟨by dsimp only;omega,by rw[ar5 YE];have:=hJ.2;rwa[List.take_of_length_le (by omega)] at this⟩ (by dsimp only;omega) [0,1] (Sub.refl _)
 refine zD 8<|aJ q0 (vO) [] [0] LO (Sub.refl _) ⟨_,_,rfl,rfl,by have:=hI.2;rwa[show k=S.length by omega] at this⟩
theorem Rg{l:List α}{x:α}(hn:l.Nodup)(h:l[k]?=some x):x∉l.take k:=fun hx=>by
 obtain⟨hk,he⟩:=List.getElem?_eq_some_iff.1 h
 obtain⟨i,hi⟩:=List.getElem?_of_mem hx
 have hik:i <k:=by have:=(List.getElem?_eq_some_iff.1 hi).1;rw[List.length_take] at this;omega
 rw[List.getElem?_take_of_lt hik] at hi
 obtain⟨hi1,S1⟩:=List.getElem?_eq_some_iff.1 hi
 have:=(List.getElem_inj (h₀:=hi1) (h₁:=hk) hn).1 (S1.trans he.symm)
 omega
def xa(n:Int):Bool:= !decide (Int.tmod n 2=0)
def Dz(n:Int):Bool:=decide (Int.tmod n 2=0)
theorem qP{p:α→Bool}{l:List α}{x:α}(h:l[i]?=some x):(l.take (i+1)).filter p=(l.take i).filter p++bif p x then [x] else []:=by
 rw[fu h,List.filter_append]
 cases hp:p x<;>simp[hp]
def qM(l:List ah):List (List ah):=[l.filter fun x=>xa x.n,l.filter fun x=>Dz x.n]
theorem ae3{l h:List ah}{x:ah}(hh:h∈qM l)(hx:x∈h):x∈l:=by
 simp only[qM,List.mem_cons,List.not_mem_nil,or_false] at hh
 rcases hh with rfl|rfl<;>exact(List.mem_filter.1 hx).1
theorem ae4{l h:List ah}(hh:h∈qM l):h.length≤l.length:=by
 simp only[qM,List.mem_cons,List.not_mem_nil,or_false] at hh
 rcases hh with rfl|rfl<;>exact List.length_filter_le _ _
def HS(s:Int)(h:List ah):List (an×an):=(h.zip h.reverse).map fun p=>(mB s p.1,mB s p.2)
def aaQ(s:Int)(l:List ah):List (an×an):=(qM l).flatMap (HS s)
def IG(s:Int)(l:List ah):List (an×an):=l.map fun x=>(mB s x,⟨s,if xa x.n=true then x.n+1 else x.n-1,x.l⟩)
def rh(l:List ah):Int:=match l[l.length-1]? with
 |some y=>y.n+Int.tmod y.n 2
 |none=>0
def Jm(s o:Int)(l:List ah)(r:Int):List (an×an):=l.map fun x=>(mB s x,⟨o,x.n+r,x.l⟩)
def gU(u:List (an×an))(x:an):an:=u.foldl (fun y p=>if x=p.1 then p.2 else y) x
theorem alr(u:List (an×an))(a b:an):gU (u++[(a,b)])=fun x=>if x=a then b else gU u x:=by
 funext x;simp only[gU,List.foldl_append,List.foldl_cons,List.foldl_nil]
theorem ai8{s:Int}{h:List ah}{x y:ah}(hx:h[i]?=some x) (hy:h[(((h.length:Int)-1)-(i:Int)).toNat]?=some y):(HS s h)[i]?=some (mB s x,mB s y):=by
 have hi:=(List.getElem?_eq_some_iff.1 hx).1
 have h2:h.reverse[i]?=some y:=by rw[List.getElem?_reverse hi,←hy];congr 1;omega
 have:=(List.getElem?_zip_eq_some (z:=(x,y))).2 ⟨hx,h2⟩
 simp only[HS,List.getElem?_map,this];rfl
theorem abt(s:Int)(h:List ah):(HS s h).length=h.length:=by simp[HS]
theorem acN{β:Type}{f:α→β}{l:List α}{x:α}(h:l[i]?=some x):(l.map f)[i]?=some (f x):=by rw[List.getElem?_map,h];rfl
theorem alz{β:Type}{f:α→List β}{l:List α}{x:α}(h:l[i]?=some x):(l.take (i+1)).flatMap f=(l.take i).flatMap f++f x:=by rw[fu h,List.flatMap_append,List.flatMap_singleton]
theorem MV.upd{S:List (List ah)}(hO:e8 S){F:List (an×Value)}{u:List (an×an)}{l:List ah}{x:ah}{y:an}{b:Nat}{T:TypeId}(h:MV Z F (gU u))(hk:F.map (·.1)=bG S)(hl:S[s]?=some l) (hx:x∈l):
 MV (Z++[(b,.cells ⟨cI y⟩ T (0,0))]) (mf (mB s x) (.slice (some ⟨b,0,none⟩) 1 1) F) (gU (u++[(mB s x,y)]))∧(mf (mB s x) (.slice (some ⟨b,0,none⟩) 1 1) F).map (·.1)=bG S:=by
 have hm:mB s x∈F.map (·.1):=by rw[hk];exact F7 hl hx
 have hn:(F.map (·.1)).Nodup:=by rw[hk];exact SL hO _
 rw[alr]
 exact⟨h.set hm hn fun aK hk=>cb [y] (hk _ (.head _)) (fun _ _=>rfl),(Nz hm hn).1.trans hk⟩
theorem NT{S:List (List ah)}(hO:e8 S){F:List (an×Value)}{x:an}{b:Nat}{T:TypeId}(h:MV Z F id)(hk:F.map (·.1)=(bG S).take k)(hx:(bG S)[k]?=some x):
 MV (Z++[(b,.cells ⟨cI x⟩ T (0,0))]) (mf x (.slice (some ⟨b,0,none⟩) 1 1) F) id∧(mf x (.slice (some ⟨b,0,none⟩) 1 1) F).map (·.1)=(bG S).take (k+1):=by
 have:x∉F.map (·.1):=by rw[hk];exact Rg (SL hO _) hx
 rw[aaG this]
 exact⟨h.add fun aK hk=>cb [x] (hk _ (.head _)) (fun _ _=>rfl),by rw[List.map_append,hk,fu hx];rfl⟩
theorem JC{v:Value}{S:List (List ah)}{ro:Nat→Option Obj}(hS:cS ro v S)(hO:e8 S):eI zT 173 [.agg ⟨[v]⟩] ro [] (fun r Y=>∃rm F LM Z,r= .map (some rm)∧Y=LM++Z∧jO rm oF F LM∧F.map (·.1)=bG S∧MV Z F id):=by
 have xv:=hS
 obtain⟨ws,ht,dr⟩:=hS
 obtain⟨eY,zh,zf,ee,rfl,zg,rH,rG⟩:=ht
 have hln:=dr.len
 have H6:=hO.two
 have hhl:=tK hO
 refine bI av [] [] bB<|zD 2<|jn fun b1=>zD 4<|jmk oF fun r6 L6 hm6=>jd 6 [1]<|jc (vs:=[.agg ⟨[.slice eY ws.length ee]⟩]) [] (Wk xv hO) ?_
 rintro v8 L8 ho8
 refine D7 ho8<|zD 1<|jf [0] L8 (fun AR cy ju=>?_)
 have hzh:=ho8.lq ju
 obtain⟨aLY,bab,aZ9,axW,rfl,baa,aLX,aLW⟩:=hzh
 refine zD 2<|oU<|eG [1,1,0,1,0,0] [] (fun(zz:Nat×(List (an×Value))×Cells×Cells)=>[(2,(.map none)),(3,(.map (some r6))),(8,.slice aLY ((bG S).length) axW),(9,zI ((bG S).length:Int)),(10,zI (zz.1:Int))]) (fun(zz:Nat×(List (an×Value))×Cells×Cells)=>[.l zz.2.2.1,.l zz.2.2.2,.b b1 (.cells ⟨[.slice eY ws.length ee]⟩ 25 (0,0))]) (fun(zz:Nat×(List (an×Value))×Cells×Cells)=>zz.1≤(bG S).length∧jO r6 oF zz.2.1 zz.2.2.1∧zz.2.1.map (·.1)=(bG S).take zz.1∧MV zz.2.2.2 zz.2.1 id) (fun(zz:Nat×(List (an×Value))×Cells×Cells)=>(bG S).length-zz.1) (⟨0,[],L6,[]⟩) ⟨by dsimp only;omega,hm6,rfl,fun _ _ _ h=>(by cases h)⟩ [1,0,2] ?_
 rintro⟨k,F,LM,Z⟩ hI K1 bU rest
 dsimp only at hI
 refine zD 5<|zJ 11 ((k:Int) <((bG S).length:Int)) (fun h4=>?_) fun h4=>?_
 ·
  refine zD 6 ?_
  obtain⟨sU,pX⟩:=zG ((bG S)) k
  refine iE axW 3 aLX pX<|jl 0 (aLW _ _ pX)<|jn fun b5=>jd 6 [0,0,0]<|jn fun b17=>jmu (kv:=oF) (F:=F) (r:=r6) (K:=144) 2 sU (.slice (some ⟨b17,0,none⟩) 1 1) CC hI.2.1 fun Lm5 hm5=>zD 2<|ja ((k:Int)+1) (by omega)<|zD 2<|Lh bU (⟨k+1,_,Lm5,Z++[(b17,.cells ⟨[zI sU.h,zI sU.n,zI sU.l]⟩ 144 (0,0))]⟩) ⟨by dsimp only;omega,hm5,(NT (T:=144) hO hI.2.2.2 hI.2.2.1 pX).2,(NT (T:=144) hO hI.2.2.2 hI.2.2.1 pX).1⟩ (by dsimp only;omega) [[0],[3,1],[4]] (Sub.refl _)
 refine zD 8<|aJ q0.a ((.map (some r6))) [] [0,1] (LM++Z) cy ⟨_,_,rfl,rfl,_,F,LM,Z,rfl,rfl,hI.2.1,by rw[hI.2.2.1,List.take_of_length_le (by omega)],hI.2.2.2⟩
theorem gAt{h l:Int}{ro:Nat→Option Obj}:dL zT 246 [zI h,zI n,zI l] ro (.agg ⟨[zI h,zI n,zI l]⟩):=by
 refine bI av [] [] bB<|zD 2<|jn fun b6=>jd 11 [0]<|aJ q0 (.agg ⟨[zI h,zI n,zI l]⟩) [0] [] [] (Sub.refl _) ⟨_,_,rfl,rfl,rfl,rfl⟩
theorem aEE{x:ah}{ro:Nat→Option Obj}:dL zT 244 [.agg ⟨[zI x.n,zI x.l]⟩] ro (.bool (xa x.n)):=by
 refine bI av [] [] bB<|zD 2<|jn fun b1=>jd 11 [0]<|aJ q0 (.bool (!decide ((Int.tmod x.n 2)=0))) [] [] [] (Sub.refl _) ⟨_,_,rfl,rfl,rfl,rfl⟩
theorem af2{v:Value}{l:List ah}{ro:Nat→Option Obj}(hl:bL ro v 2 cH l)(hn:l.length≤4):eI zT 243 [v,.func (.func 244) ⟨[]⟩ ⟨[]⟩] ro [] (fun r Y=>aD r 2 70 cH (l.filter fun x=>xa x.n) Y):=by
 obtain⟨fC,rj,ri,eV,rfl,tj,lB,mz⟩:=hl
 refine bI av [] [] bB<|zD 16<|oU<|eG [1,1,0,1,0,0] [] (fun(zz:Nat×Value×Cells)=>[(1,.func (.func 244) ⟨[]⟩ ⟨[]⟩),(4,zS),(5,zz.2.1),(8,.slice fC l.length eV),(9,zI (l.length:Int)),(10,zI (zz.1:Int))]) (fun(zz:Nat×Value×Cells)=>[.l zz.2.2]) (fun(zz:Nat×Value×Cells)=>zz.1≤l.length∧aD zz.2.1 2 70 cH ((l.take zz.1).filter fun x=>xa x.n) zz.2.2) (fun(zz:Nat×Value×Cells)=>l.length-zz.1) (⟨0,zS,[]⟩) ⟨by dsimp only;omega,aD.nil _ _ _⟩ [0] ?_
 rintro⟨k,vO,LO⟩ hI K1 bU rest
 dsimp only at hI
 refine zD 5<|zJ 11 ((k:Int) <(l.length:Int)) (fun h1=>?_) fun h1=>?_
 ·
  refine zD 6 ?_
  obtain⟨sU,pX⟩:=zG l k
  refine iE eV 2 lB pX<|jl 0 (mz _ _ pX)<|jn fun b7=>jd 6 [0,0]<|jp (vs:=[.agg ⟨[zI sU.n,zI sU.l]⟩]) [] [] (fun aE hs hZ=>(aEE (x:=sU)))<|zD 1<|js 16 (xa sU.n) (fun h2=>?_) (fun h2=>?_)
  ·
   refine jd 4 [0]<|jn fun Hd=>jk (sz:=2) (ps:=((l.take k).filter fun x=>xa x.n)) (qs:=[(⟨sU.n,sU.l⟩:ah)]) (enc:=cH) (w:= .slice (some ⟨Hd,0,none⟩) 1 1) [2] [0] [(Hd,.cells ⟨([(⟨sU.n,sU.l⟩:ah)].map cH).flatten⟩ 70 (0,0))] (hI.2) (fun s _ hZ=>cg [(⟨sU.n,sU.l⟩:ah)] (hZ _ (.head _)) (by intro p hp;rfl)) (fun p _=>aj rfl) (by have:=List.length_filter_le (fun x:ah=>xa x.n) (l.take k);rw[List.length_take] at this;simp only[List.length_cons,List.length_nil];omega) (fun v20 L20 F5=>?_)
   obtain⟨ape,ao4,atl⟩:=F5.form
   subst atl
   refine zD 3<|ja ((k:Int)+1) (by omega)<|zD 2<|bO bU (⟨k+1,(.slice ape ((((l.take k).filter fun x=>xa x.n)++[(⟨sU.n,sU.l⟩:ah)])).length ao4),L20⟩) ⟨by dsimp only;omega,by rw[qP pX,show xa sU.n=true from (by assumption)];exact F5⟩ (by dsimp only;omega) [0] (Sub.refl _)
  refine zD 3<|ja ((k:Int)+1) (by omega)<|zD 2<|bO bU (⟨k+1,vO,LO⟩) ⟨by dsimp only;omega,by rw[qP pX,show xa sU.n=false from (by assumption)];simpa using hI.2⟩ (by dsimp only;omega) [1] (Sub.refl _)
 refine zD 8<|aJ q0 (vO) [] [0] LO (Sub.refl _) ⟨_,_,rfl,rfl,by have:=hI.2;rwa[List.take_of_length_le (by omega)] at this⟩
theorem aEL{x:ah}{ro:Nat→Option Obj}:dL zT 245 [.agg ⟨[zI x.n,zI x.l]⟩] ro (.bool (Dz x.n)):=by
 refine bI av [] [] bB<|zD 2<|jn fun b1=>jd 11 [0]<|aJ q0 (.bool (decide ((Int.tmod x.n 2)=0))) [] [] [] (Sub.refl _) ⟨_,_,rfl,rfl,rfl,rfl⟩
theorem af1{v:Value}{l:List ah}{ro:Nat→Option Obj}(hl:bL ro v 2 cH l)(hn:l.length≤4):eI zT 243 [v,.func (.func 245) ⟨[]⟩ ⟨[]⟩] ro [] (fun r Y=>aD r 2 70 cH (l.filter fun x=>Dz x.n) Y):=by
 obtain⟨fC,rj,ri,eV,rfl,tj,lB,mz⟩:=hl
 refine bI av [] [] bB<|zD 16<|oU<|eG [1,1,0,1,0,0] [] (fun(zz:Nat×Value×Cells)=>[(1,.func (.func 245) ⟨[]⟩ ⟨[]⟩),(4,zS),(5,zz.2.1),(8,.slice fC l.length eV),(9,zI (l.length:Int)),(10,zI (zz.1:Int))]) (fun(zz:Nat×Value×Cells)=>[.l zz.2.2]) (fun(zz:Nat×Value×Cells)=>zz.1≤l.length∧aD zz.2.1 2 70 cH ((l.take zz.1).filter fun x=>Dz x.n) zz.2.2) (fun(zz:Nat×Value×Cells)=>l.length-zz.1) (⟨0,zS,[]⟩) ⟨by dsimp only;omega,aD.nil _ _ _⟩ [0] ?_
 rintro⟨k,vO,LO⟩ hI K1 bU rest
 dsimp only at hI
 refine zD 5<|zJ 11 ((k:Int) <(l.length:Int)) (fun h1=>?_) fun h1=>?_
 ·
  refine zD 6 ?_
  obtain⟨sU,pX⟩:=zG l k
  refine iE eV 2 lB pX<|jl 0 (mz _ _ pX)<|jn fun b7=>jd 6 [0,0]<|jp (vs:=[.agg ⟨[zI sU.n,zI sU.l]⟩]) [] [] (fun aE hs hZ=>(aEL (x:=sU)))<|zD 1<|js 16 (Dz sU.n) (fun h2=>?_) (fun h2=>?_)
  ·
   refine jd 4 [0]<|jn fun Hd=>jk (sz:=2) (ps:=((l.take k).filter fun x=>Dz x.n)) (qs:=[(⟨sU.n,sU.l⟩:ah)]) (enc:=cH) (w:= .slice (some ⟨Hd,0,none⟩) 1 1) [2] [0] [(Hd,.cells ⟨([(⟨sU.n,sU.l⟩:ah)].map cH).flatten⟩ 70 (0,0))] (hI.2) (fun s _ hZ=>cg [(⟨sU.n,sU.l⟩:ah)] (hZ _ (.head _)) (by intro p hp;rfl)) (fun p _=>aj rfl) (by have:=List.length_filter_le (fun x:ah=>Dz x.n) (l.take k);rw[List.length_take] at this;simp only[List.length_cons,List.length_nil];omega) (fun v20 L20 F5=>?_)
   obtain⟨ape,ao4,atl⟩:=F5.form
   subst atl
   refine zD 3<|ja ((k:Int)+1) (by omega)<|zD 2<|bO bU (⟨k+1,(.slice ape ((((l.take k).filter fun x=>Dz x.n)++[(⟨sU.n,sU.l⟩:ah)])).length ao4),L20⟩) ⟨by dsimp only;omega,by rw[qP pX,show Dz sU.n=true from (by assumption)];exact F5⟩ (by dsimp only;omega) [0] (Sub.refl _)
  refine zD 3<|ja ((k:Int)+1) (by omega)<|zD 2<|bO bU (⟨k+1,vO,LO⟩) ⟨by dsimp only;omega,by rw[qP pX,show Dz sU.n=false from (by assumption)];simpa using hI.2⟩ (by dsimp only;omega) [1] (Sub.refl _)
 refine zD 8<|aJ q0 (vO) [] [0] LO (Sub.refl _) ⟨_,_,rfl,rfl,by have:=hI.2;rwa[List.take_of_length_le (by omega)] at this⟩
theorem Wi{v:Value}{S:List (List ah)}{l:List ah}{c2 c3 c4:Int}{F:List (an×Value)}{ro:Nat→Option Obj}(hS:cS ro v S)(hO:e8 S)(hl:S[s]?=some l) (hm:jO rm oF F LM) (hk:F.map (·.1)=bG S) (hM:MV Z F id):eI zT 222 [.agg ⟨[v]⟩,.agg ⟨[zI ck,zI (s:Int),zI c2,zI c3,zI c4,zI c5,zI c6]⟩,(.map (some rm))] ro (LM++Z) (fun r Y=>∃F' L' Z',r= zI 0∧Y=L'++Z'∧jO rm oF F' L'∧F'.map (·.1)=bG S∧MV Z' F' (gU (aaQ (s:Int) l))):=by
 obtain⟨ws,ht,dr⟩:=hS
 obtain⟨eY,zh,zf,ee,rfl,zg,rH,rG⟩:=ht
 have hln:=dr.len
 have H6:=hO.two
 have Jr:=(List.getElem?_eq_some_iff.1 hl).1
 have hlm:=List.mem_of_getElem? hl
 have hll:=hO.len _ hlm
 refine bI av [.l LM,.l Z] [] bB<|zD 2<|jn fun b3=>jn fun b4=>zD 4<|Hs [1,0,1] [] (fun(zz:Nat×Value×Value×Cells×Cells)=>[(2,(.map (some rm))),(4,zP b4),(6,zI 0),(25,.slice (some ⟨zz.1,0,none⟩) 2 2),(26,zI 2),(27,zI 0)]) (fun(zz:Nat×Value×Value×Cells×Cells)=>[.b zz.1 (.cells ⟨[zz.2.1,zz.2.2.1]⟩ 71 (0,0)),.l zz.2.2.2.1,.l zz.2.2.2.2,.l LM,.l Z,.b b4 (.cells ⟨[zI ck,zI (s:Int),zI c2,zI c3,zI c4,zI c5,zI c6]⟩ 74 (0,0)),.b b3 (.cells ⟨[.slice eY ws.length ee]⟩ 25 (0,0))]) (fun(zz:Nat×Value×Value×Cells×Cells)=>aD zz.2.1 2 70 cH (l.filter fun x=>xa x.n) zz.2.2.2.1∧aD zz.2.2.1 2 70 cH (l.filter fun x=>Dz x.n) zz.2.2.2.2) ?_ (fun K1 bU=>?_)
 ·
  rintro⟨dW,v1,v2,L1,L2⟩ hC rest
  dsimp only at hC
  refine jf [0,1,2] ((dW,.cells ⟨[v1,v2]⟩ 71 (0,0))::(L1++L2)) (fun AR cy ju=>?_)
  have hhv:=cb (enc:=gN) (T:=71) [v1,v2] (ju _ (.head _)) (fun _ _=>rfl)
  have aBc:du (fun w l=>bL AR w 2 cH l) [v1,v2] (qM l):= .cons (hC.1.lq (Knows.left (Knows.tail ju))) (.cons (hC.2.lq (Knows.right (Knows.tail ju))) .nil)
  have hvl: [v1,v2].length=2:=rfl
  obtain⟨qga,qgb,qgo,qgc,Pv,qgk,qgh,qgl⟩:=hhv
  simp only[Value.slice.injEq] at Pv
  obtain⟨rfl,_,rfl⟩:=Pv
  refine zD 1<|eG [1,0,1,0,0] [] (fun(zz:Nat×(List (an×Value))×Cells×Cells)=>[(2,(.map (some rm))),(4,zP b4),(6,zI 0),(25,.slice (some ⟨dW,0,none⟩) 2 2),(26,zI 2),(27,zI (zz.1:Int))]) (fun(zz:Nat×(List (an×Value))×Cells×Cells)=>[.l zz.2.2.1,.l zz.2.2.2,.b b4 (.cells ⟨[zI ck,zI (s:Int),zI c2,zI c3,zI c4,zI c5,zI c6]⟩ 74 (0,0)),.b b3 (.cells ⟨[.slice eY ws.length ee]⟩ 25 (0,0))]) (fun(zz:Nat×(List (an×Value))×Cells×Cells)=>zz.1≤2∧jO rm oF zz.2.1 zz.2.2.1∧zz.2.1.map (·.1)=bG S∧MV zz.2.2.2 zz.2.1 (gU (((qM l).take zz.1).flatMap (HS (s:Int))))) (fun(zz:Nat×(List (an×Value))×Cells×Cells)=>2-zz.1) (⟨0,F,LM,Z⟩) ⟨by dsimp only;omega,hm,hk,hM⟩ [0,1,2,3] ?_
  rintro⟨k,F,LM,Z⟩ hI K2 lL rest
  dsimp only at hI
  refine zD 5<|zJ 28 ((k:Int) <2) (fun h4=>?_) fun h4=>?_
  ·
   refine zD 6 ?_
   obtain⟨C2,zx⟩:=zG ([v1,v2]) k
   refine iE 2 1 qgh zx ?_
   obtain⟨Su,asM,h30⟩:=aBc.get zx
   obtain aAR:Su.length≤4:=by have:=ae4 (List.mem_of_getElem? asM);omega
   obtain⟨ays,baD,baB,ajl,rfl,baC,ayr,ayq⟩:=h30
   refine jl 0 (qgl _ _ zx)<|zD 9<|eG [1,0,1,0,0,1,1,0,0,1,1,0,0] [K2] (fun(zz:Nat×(List (an×Value))×Cells×Cells)=>[(2,(.map (some rm))),(4,zP b4),(6,zI 0),(8,.slice ays Su.length ajl),(25,.slice (some ⟨dW,0,none⟩) 2 2),(26,zI 2),(27,zI (k:Int)),(31,.slice ays Su.length ajl),(32,zI (Su.length:Int)),(33,zI (zz.1:Int))]) (fun(zz:Nat×(List (an×Value))×Cells×Cells)=>[.l zz.2.2.1,.l zz.2.2.2,.b b4 (.cells ⟨[zI ck,zI (s:Int),zI c2,zI c3,zI c4,zI c5,zI c6]⟩ 74 (0,0)),.b b3 (.cells ⟨[.slice eY ws.length ee]⟩ 25 (0,0))]) (fun(zz:Nat×(List (an×Value))×Cells×Cells)=>zz.1≤Su.length∧jO rm oF zz.2.1 zz.2.2.1∧zz.2.1.map (·.1)=bG S∧MV zz.2.2.2 zz.2.1 (gU (((qM l).take k).flatMap (HS (s:Int))++(HS (s:Int) Su).take zz.1))) (fun(zz:Nat×(List (an×Value))×Cells×Cells)=>Su.length-zz.1) (⟨0,F,LM,Z⟩) ⟨by dsimp only;omega,hI.2.1,hI.2.2.1,by simpa using hI.2.2.2⟩ [0,1,2,3] ?_
   rintro⟨i,F,LM,Z⟩ hJ K3 ZW rest
   dsimp only at hJ
   refine zD 5<|zJ 34 ((i:Int) <(Su.length:Int)) (fun h5=>?_) fun h5=>?_
   ·
    refine zD 7 ?_
    obtain⟨x36,yj⟩:=zG Su i
    refine iE ajl 2 ayr yj<|jl 0 (ayq _ _ yj)<|jn fun rJ=>jd 14 [0,3,0,3]<|ja ((Su.length:Int)-1) (by omega)<|zD 1<|ja (((Su.length:Int)-1)-(i:Int)) (by omega) ?_
    obtain⟨x51,Di⟩:=zG Su (((((Su.length:Int)-1)-(i:Int))).toNat)
    refine M7 (((Su.length:Int)-1)-(i:Int)) ajl 2 ayr Di (by omega)<|jl 0 (ayq _ _ Di)<|zD 1<|aN 16 fun rK rR qz=>jn fun b54=>bD qz [1,2,3,4,5]<|aN 17 fun yY y8 Ag=>jmu (kv:=oF) (F:=F) (r:=rm) (K:=144) 2 (mB (s:Int) x36) (.slice (some ⟨b54,0,none⟩) 1 1) CC hJ.2.1 fun Lm8 hm8=>dV Ag<|zD 2<|ja ((i:Int)+1) (by omega)<|zD 2 ?_
    have hup:=MV.upd (T:=144) (b:=b54) (y:=mB s x51) hO hJ.2.2.2 hJ.2.2.1 hl (ae3 (List.mem_of_getElem? asM) (List.mem_of_getElem? yj))
    exact Lh ZW (⟨i+1,_,Lm8,Z++[(b54,.cells ⟨[zI (s:Int),zI x51.n,zI x51.l]⟩ 144 (0,0))]⟩) ⟨by dsimp only;omega,hm8,hup.2,by rw[fu (ai8 yj Di),←List.append_assoc];exact hup.1⟩ (by dsimp only;omega) [[0],[3,1],[4],[5]] (Sub.refl _)
   refine zD 3<|ja ((k:Int)+1) (by omega)<|zD 2<|bO lL (⟨k+1,F,LM,Z⟩) ⟨by dsimp only;omega,hJ.2.1,hJ.2.2.1,by have:=hJ.2.2.2;rw[List.take_of_length_le (l:=HS (s:Int) Su) (by rw[abt];omega)] at this;rw[alz asM];exact this⟩ (by dsimp only;omega) [0,1,2,3] (Sub.refl _)
  refine zD 7<|aJ q0.a (zI 0) [] [0,1] (LM++Z) cy ⟨_,_,rfl,rfl,F,LM,Z,rfl,rfl,hI.2.1,hI.2.2.1,by have:=hI.2.2.2;rwa[show k=2 by omega] at this⟩
 refine jd 5 [1,0] ?_
 obtain⟨y3,adI⟩:=zG ws s
 refine iE ee 1 rH adI ?_
 obtain⟨l16,aA4,Ii⟩:=dr.get adI
 obtain bcG:=hO.len _ (List.mem_of_getElem? aA4)
 obtain aeS:l16=l:=Option.some.inj (aA4.symm.trans hl)
 obtain⟨ayH,aMC,aMy,ayG,rfl,aMA,aMB,aMz⟩:=Ii
 refine jl 0 (rG _ _ adI)<|jd 4 [1,0] ?_
 obtain⟨rF,tG⟩:=zG ws s
 refine iE ee 1 rH tG ?_
 obtain⟨l23,aA3,AU⟩:=dr.get tG
 obtain bcD:=hO.len _ (List.mem_of_getElem? aA3)
 obtain atk:l23=l:=Option.some.inj (aA3.symm.trans hl)
 obtain⟨ayz,aMq,aMm,ayy,rfl,aMo,aMp,aMn⟩:=AU
 refine jl 0 (rG _ _ tG)<|zD 1<|aN 6 fun Z5 aaW YL=>jc (vs:=[.slice ayH l16.length ayG,.func (.func 244) ⟨[]⟩ ⟨[]⟩]) [] (af2 (show bL _ _ _ _ _ from ⟨ayH,aMC,aMy,ayG,rfl,aMA,aMB,aMz⟩) (by omega)) ?_
 rintro v17 L17 BJ
 obtain⟨wX,wW,akX⟩:=BJ.form
 subst akX
 refine bD YL [1,2,3,4]<|aN 13 fun aiy aiU Ti=>jc (vs:=[.slice ayz l23.length ayy,.func (.func 245) ⟨[]⟩ ⟨[]⟩]) [] (af1 (show bL _ _ _ _ _ from ⟨ayz,aMq,aMm,ayy,rfl,aMo,aMp,aMn⟩) (by omega)) ?_
 rintro v24 L24 aAz
 obtain⟨aaD,aaw,aP0⟩:=aAz.form
 subst aP0
 refine bD Ti [1,2,3,4,5]<|aN 14 fun W8 Xj YK=>jn fun dW=>bD YK [1,2,3,4,5,6]<|zD 2<|bO bU ⟨dW,(.slice wX (l16.filter fun x=>xa x.n).length wW),(.slice aaD (l23.filter fun x=>Dz x.n).length aaw),L17,L24⟩ ⟨by rw[←aeS];exact BJ,by rw[←atk];exact aAz⟩ Nat.zero_lt_one [0,2,1,5,6,3,4] (Sub.refl _)
theorem UK{s:Int}{l:List ah}{x:ah}(h:l[i]?=some x):(IG s l)[i]?=some (mB s x,⟨s,if xa x.n=true then x.n+1 else x.n-1,x.l⟩):=acN h
theorem ako{s o r:Int}{l:List ah}{x:ah}(h:l[i]?=some x):(Jm s o l r)[i]?=some (mB s x,⟨o,x.n+r,x.l⟩):=acN h
theorem raise_at{l:List ah}{x:ah}(h:l[(((l.length:Int)-1)).toNat]?=some x):rh l=x.n+Int.tmod x.n 2:=by
 have:l[l.length-1]?=some x:=by rw[←h];congr 1;omega
 simp only[rh,this]
theorem XI{l:List ah}(h:¬(l.length:Int)>0):rh l=0:=by
 have:l=[]:=List.eq_nil_of_length_eq_zero (by omega)
 subst this;rfl
theorem tm2(h:1≤n∧n≤9):0≤Int.tmod n 2∧Int.tmod n 2≤1:=by
 rw[Int.tmod_eq_emod_of_nonneg (by omega)]
 omega
theorem abG{l:List ah}(h:∀x∈l,AJ x):0≤rh l∧rh l≤10:=by
 unfold rh
 split
 ·rename_i y hy
  have h1:=(h y (List.mem_of_getElem? hy)).1
  have:=tm2 h1
  omega
 omega
theorem PO{v:Value}{S:List (List ah)}{l:List ah}{c2 c3 c4:Int}{F:List (an×Value)}{ro:Nat→Option Obj}(hS:cS ro v S)(hO:e8 S)(hl:S[s]?=some l) (hm:jO rm oF F LM) (hk:F.map (·.1)=bG S) (hM:MV Z F id):eI zT 223 [.agg ⟨[v]⟩,.agg ⟨[zI ck,zI (s:Int),zI c2,zI c3,zI c4,zI c5,zI c6]⟩,(.map (some rm))] ro (LM++Z) (fun r Y=>∃F' L' Z',r= zI 0∧Y=L'++Z'∧jO rm oF F' L'∧F'.map (·.1)=bG S∧MV Z' F' (gU (IG (s:Int) l))):=by
 obtain⟨ws,ht,dr⟩:=hS
 obtain⟨eY,zh,zf,ee,rfl,zg,rH,rG⟩:=ht
 have hln:=dr.len
 have H6:=hO.two
 have Jr:=(List.getElem?_eq_some_iff.1 hl).1
 have hlm:=List.mem_of_getElem? hl
 have hll:=hO.len _ hlm
 refine bI av [.l LM,.l Z] [] bB<|zD 2<|jn fun b3=>jn fun b4=>jd 9 [1,0] ?_
 obtain⟨fK,eN⟩:=zG ws s
 refine iE ee 1 rH eN ?_
 obtain⟨OZ,YE,Dw⟩:=dr.get eN
 obtain aPw:=hO.len _ (List.mem_of_getElem? YE)
 obtain LN:OZ=l:=Option.some.inj (YE.symm.trans hl)
 obtain aOq:=hO.ok _ (List.mem_of_getElem? YE)
 obtain⟨aqt,aMF,aMD,abU,rfl,aME,aqs,aqr⟩:=Dw
 refine jl 0 (rG _ _ eN)<|zD 4<|eG [1,0,1,0,0] [] (fun(zz:Nat×(List (an×Value))×Cells×Cells)=>[(2,(.map (some rm))),(4,zP b4),(6,zI 0),(15,.slice aqt OZ.length abU),(16,zI (OZ.length:Int)),(17,zI (zz.1:Int))]) (fun(zz:Nat×(List (an×Value))×Cells×Cells)=>[.l zz.2.2.1,.l zz.2.2.2,.b b4 (.cells ⟨[zI ck,zI (s:Int),zI c2,zI c3,zI c4,zI c5,zI c6]⟩ 74 (0,0)),.b b3 (.cells ⟨[.slice eY ws.length ee]⟩ 25 (0,0))]) (fun(zz:Nat×(List (an×Value))×Cells×Cells)=>zz.1≤OZ.length∧jO rm oF zz.2.1 zz.2.2.1∧zz.2.1.map (·.1)=bG S∧MV zz.2.2.2 zz.2.1 (gU ((IG (s:Int) l).take zz.1))) (fun(zz:Nat×(List (an×Value))×Cells×Cells)=>OZ.length-zz.1) (⟨0,F,LM,Z⟩) ⟨by dsimp only;omega,hm,hk,hM⟩ [2,3,0,1] ?_
 rintro⟨i,F,LM,Z⟩ hI K1 bU rest
 dsimp only at hI
 refine zD 5<|zJ 18 ((i:Int) <(OZ.length:Int)) (fun h1=>?_) fun h1=>?_
 ·
  refine zD 6 ?_
  obtain⟨DT,xd⟩:=zG OZ i
  refine iE abU 2 aqs xd<|jl 0 (aqr _ _ xd)<|jn fun b8=>jd 3 [0] ?_
  have H7:=aOq _ (List.mem_of_getElem? xd)
  have aOQ:=H7.1.1
  have aOP:=H7.1.2
  refine jd 3 [0]<|ja (DT.n-1) (by omega)<|jd 6 [0]<|jp (vs:=[.agg ⟨[zI DT.n,zI DT.l]⟩]) [] [] (fun aE hs hZ=>(aEE (x:=DT)))<|zD 1<|js 25 (xa DT.n) (fun h2=>?_) (fun h2=>?_)
  ·
   refine jd 4 [0]<|ja (DT.n+1) (by omega)<|jd 13 [3,0,3,0]<|jp (vs:=[zI (s:Int),zI (DT.n+1),zI DT.l]) [] [] (fun aE hs hZ=>gAt)<|aN 11 fun AY A5 Ah=>jn fun dv=>bD Ah [1,2,3,4,5]<|aN 12 fun qZ q6 p7=>jmu (kv:=oF) (F:=F) (r:=rm) (K:=144) 2 (mB (s:Int) DT) (.slice (some ⟨dv,0,none⟩) 1 1) CC hI.2.1 fun Lm5 hm5=>dV p7<|zD 2<|ja ((i:Int)+1) (by omega)<|zD 2 ?_
   have hup:=MV.upd (T:=144) (b:=dv) (y:=⟨s,DT.n+1,DT.l⟩) hO hI.2.2.2 hI.2.2.1 hl (by rw[←LN];exact List.mem_of_getElem? xd)
   exact Lh bU (⟨i+1,_,Lm5,Z++[(dv,.cells ⟨[zI (s:Int),zI (DT.n+1),zI DT.l]⟩ 144 (0,0))]⟩) ⟨by dsimp only;omega,hm5,hup.2,by rw[fu (UK (by rw[←LN];exact xd))];rw[if_pos (by assumption)];exact hup.1⟩ (by dsimp only;omega) [[0],[3,1],[4],[5]] (Sub.refl _)
  refine jd 13 [3,0,3,0]<|jp (vs:=[zI (s:Int),zI (DT.n-1),zI DT.l]) [] [] (fun aE hs hZ=>gAt)<|aN 11 fun rK rR qz=>jn fun dv=>bD qz [1,2,3,4,5]<|aN 12 fun yY y8 Ag=>jmu (kv:=oF) (F:=F) (r:=rm) (K:=144) 2 (mB (s:Int) DT) (.slice (some ⟨dv,0,none⟩) 1 1) CC hI.2.1 fun Lm8 hm8=>dV Ag<|zD 2<|ja ((i:Int)+1) (by omega)<|zD 2 ?_
  have hup:=MV.upd (T:=144) (b:=dv) (y:=⟨s,DT.n-1,DT.l⟩) hO hI.2.2.2 hI.2.2.1 hl (by rw[←LN];exact List.mem_of_getElem? xd)
  exact Lh bU (⟨i+1,_,Lm8,Z++[(dv,.cells ⟨[zI (s:Int),zI (DT.n-1),zI DT.l]⟩ 144 (0,0))]⟩) ⟨by dsimp only;omega,hm8,hup.2,by rw[fu (UK (by rw[←LN];exact xd))];rw[if_neg (by rw[show xa DT.n=false from (by assumption)];decide)];exact hup.1⟩ (by dsimp only;omega) [[0],[3,1],[4],[5]] (Sub.refl _)
 refine zD 7<|aJ q0 (zI 0) [] [0,1] (LM++Z) (Sub.refl _) ⟨_,_,rfl,rfl,F,LM,Z,rfl,rfl,hI.2.1,hI.2.2.1,by have:=hI.2.2.2;rwa[List.take_of_length_le (by simp only[IG,List.length_map];rw[←LN];omega)] at this⟩
theorem alu{v:Value}{S:List (List ah)}{o:Nat}{l lo:List ah}{c3 c4:Int}{F:List (an×Value)}{ro:Nat→Option Obj}(hS:cS ro v S)(hO:e8 S)(hl:S[s]?=some l) (hm:jO rm oF F LM) (hk:F.map (·.1)=bG S) (hM:MV Z F id) (Ab:S[o]?=some lo):eI zT 225 [.agg ⟨[v]⟩,.agg ⟨[zI ck,zI (s:Int),zI (o:Int),zI c3,zI c4,zI c5,zI c6]⟩,(.map (some rm))] ro (LM++Z) (fun r Y=>∃F' L' Z',r= zI 0∧Y=L'++Z'∧jO rm oF F' L'∧F'.map (·.1)=bG S∧MV Z' F' (gU (Jm (s:Int) (o:Int) l (rh lo)))):=by
 obtain⟨ws,ht,dr⟩:=hS
 obtain⟨eY,zh,zf,ee,rfl,zg,rH,rG⟩:=ht
 have hln:=dr.len
 have H6:=hO.two
 have Jr:=(List.getElem?_eq_some_iff.1 hl).1
 have hlm:=List.mem_of_getElem? hl
 have hll:=hO.len _ hlm
 have hso:=(List.getElem?_eq_some_iff.1 Ab).1
 have aAV:=List.mem_of_getElem? Ab
 have hr:=abG (hO.ok _ aAV)
 have bcK:=hO.len _ aAV
 refine bI av [.l LM,.l Z] [] bB<|zD 2<|jn fun b3=>jn fun b4=>jd 8 [1,0] ?_
 obtain⟨Uu,FN⟩:=zG ws s
 refine iE ee 1 rH FN ?_
 obtain⟨l18,asP,Ts⟩:=dr.get FN
 obtain bcF:=hO.len _ (List.mem_of_getElem? asP)
 obtain LJ:l18=l:=Option.some.inj (asP.symm.trans hl)
 obtain jN:=hO.ok _ (List.mem_of_getElem? asP)
 obtain⟨ayF,baP,baN,aqq,rfl,baO,aMx,aMw⟩:=Ts
 refine jl 0 (rG _ _ FN)<|jd 4 [1,0] ?_
 obtain⟨uI,su⟩:=zG ws o
 refine iE ee 1 rH su ?_
 obtain⟨Sv,SZ,ZY⟩:=dr.get su
 obtain aAT:=hO.len _ (List.mem_of_getElem? SZ)
 obtain S6:Sv=lo:=Option.some.inj (SZ.symm.trans Ab)
 obtain az0:=hO.ok _ (List.mem_of_getElem? SZ)
 obtain⟨aqp,ayx,ayv,abT,rfl,ayw,ajn,ajm⟩:=ZY
 refine jl 0 (rG _ _ su)<|zD 10<|ja ((l18.length:Int)+(Sv.length:Int)) (by omega)<|zD 2<|zJ 30 (((l18.length:Int)+(Sv.length:Int))>8) (fun h1=>?_) fun h1=>?_
 ·
  exfalso;omega
 refine zD 18<|Hs [1,1,1,1,1] [] (fun(zz:Int)=>[(2,(.map (some rm))),(4,zP b4),(6,zI 0),(7,.slice ayF l18.length aqq),(9,zI zz)]) (fun(zz:Int)=>[.l LM,.l Z,.b b4 (.cells ⟨[zI ck,zI (s:Int),zI (o:Int),zI c3,zI c4,zI c5,zI c6]⟩ 74 (0,0)),.b b3 (.cells ⟨[.slice eY ws.length ee]⟩ 25 (0,0))]) (fun(zz:Int)=>zz=rh lo) ?_ (fun K1 bU=>?_)
 ·
  rintro q hQ rest
  refine zD 8<|eG [1,1,1,1,1,0,1,0,0] [] (fun(zz:Nat×(List (an×Value))×Cells×Cells)=>[(2,(.map (some rm))),(4,zP b4),(9,zI q),(49,.slice ayF l18.length aqq),(50,zI (l18.length:Int)),(51,zI (zz.1:Int))]) (fun(zz:Nat×(List (an×Value))×Cells×Cells)=>[.l zz.2.2.1,.l zz.2.2.2,.b b4 (.cells ⟨[zI ck,zI (s:Int),zI (o:Int),zI c3,zI c4,zI c5,zI c6]⟩ 74 (0,0)),.b b3 (.cells ⟨[.slice eY ws.length ee]⟩ 25 (0,0))]) (fun(zz:Nat×(List (an×Value))×Cells×Cells)=>zz.1≤l18.length∧jO rm oF zz.2.1 zz.2.2.1∧zz.2.1.map (·.1)=bG S∧MV zz.2.2.2 zz.2.1 (gU ((Jm (s:Int) (o:Int) l (rh lo)).take zz.1))) (fun(zz:Nat×(List (an×Value))×Cells×Cells)=>l18.length-zz.1) (⟨0,F,LM,Z⟩) ⟨by dsimp only;omega,hm,hk,hM⟩ [0,1,2,3] ?_
  rintro⟨i,F,LM,Z⟩ hI K2 lL rest
  dsimp only at hI
  refine zD 5<|zJ 52 ((i:Int) <(l18.length:Int)) (fun h2=>?_) fun h2=>?_
  ·
   refine zD 6 ?_
   obtain⟨x53,adE⟩:=zG l18 i
   refine iE aqq 2 aMx adE<|jl 0 (aMw _ _ adE)<|jn fun jH=>jd 4 [0] ?_
   have H7:=jN _ (List.mem_of_getElem? adE)
   have aOQ:=H7.1.1
   have aOP:=H7.1.2
   refine jd 4 [0]<|ja (x53.n+q) (by omega)<|zD 2<|zJ 59 ((x53.n+q)>40) (fun h3=>?_) fun h3=>?_
   ·
    exfalso;omega
   refine jd 13 [3,0,3,0]<|ja (x53.n+q) (by omega)<|jd 2 [0]<|jp (vs:=[zI (o:Int),zI (x53.n+q),zI x53.l]) [] [] (fun aE hs hZ=>gAt)<|aN 14 fun qZ q6 p7=>jn fun b74=>bD p7 [1,2,3,4,5]<|aN 15 fun rK rR qz=>jmu (kv:=oF) (F:=F) (r:=rm) (K:=144) 2 (mB (s:Int) x53) (.slice (some ⟨b74,0,none⟩) 1 1) CC hI.2.1 fun Lm6 hm6=>dV qz<|zD 2<|ja ((i:Int)+1) (by omega)<|zD 2 ?_
   have hup:=MV.upd (T:=144) (b:=b74) (y:=⟨o,x53.n+q,x53.l⟩) hO hI.2.2.2 hI.2.2.1 hl (by rw[←LJ];exact List.mem_of_getElem? adE)
   exact Lh lL (⟨i+1,_,Lm6,Z++[(b74,.cells ⟨[zI (o:Int),zI (x53.n+q),zI x53.l]⟩ 144 (0,0))]⟩) ⟨by dsimp only;omega,hm6,hup.2,by rw[fu (ako (by rw[←LJ];exact adE))];have e:=hup.1;rw[hQ] at e ⊢;exact e⟩ (by dsimp only;omega) [[0],[3,1],[4],[5]] (Sub.refl _)
  refine zD 7<|aJ q0 (zI 0) [] [0,1] (LM++Z) (Sub.refl _) ⟨_,_,rfl,rfl,F,LM,Z,rfl,rfl,hI.2.1,hI.2.2.1,by have:=hI.2.2.2;rwa[List.take_of_length_le (by simp only[Jm,List.length_map];rw[←LJ];omega)] at this⟩
 refine zJ 34 ((Sv.length:Int)>0) (fun h7=>?_) fun h7=>?_
 ·
  refine zD 4<|ja ((Sv.length:Int)-1) (by omega) ?_
  obtain⟨x38,Lr⟩:=zG Sv ((((Sv.length:Int)-1)).toNat)
  refine M7 ((Sv.length:Int)-1) abT 2 ajn Lr (by omega)<|zD 1<|jl 0 (ajm _ _ Lr)<|zD 2<|ja ((Sv.length:Int)-1) (by omega) ?_
  obtain⟨W9,H4⟩:=zG Sv ((((Sv.length:Int)-1)).toNat)
  refine M7 ((Sv.length:Int)-1) abT 2 ajn H4 (by omega)<|zD 1<|jl 0 (ajm _ _ H4)<|zD 1<|ja (x38.n+(Int.tmod W9.n 2)) (by have h1:=(az0 _ (List.mem_of_getElem? Lr)).1;have h2:=(az0 _ (List.mem_of_getElem? H4)).1;have:=tm2 h2;omega) ?_
  refine zD 2 ?_
  have hra:=raise_at Lr
  rw[S6] at hra
  exact bO bU (x38.n+(Int.tmod W9.n 2)) (by rw[←S6];have e:x38=W9:=Option.some.inj (Lr.symm.trans H4);subst e;exact(raise_at Lr).symm) Nat.zero_lt_one [2,3,0,1] (Sub.refl _)
 refine zD 2<|bO bU 0 (by rw[←S6];exact(XI (by omega)).symm) Nat.zero_lt_one [2,3,0,1] (Sub.refl _)
end Go.L
