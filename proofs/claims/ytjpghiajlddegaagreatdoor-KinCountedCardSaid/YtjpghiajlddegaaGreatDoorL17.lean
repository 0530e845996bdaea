/- Part 17 of the proof: a program logic, contracts, a theorem on goroutines. -/
import Derived.Test.YtjpghiajlddegaaGreatDoorL16
set_option maxRecDepth 100000
set_option linter.all false
namespace Go.L
open Go Go.Conc Go.Proofs
variable {W:List (List Int)} {Z LM Z2:Cells} {F:Nat→Nat→Bool} {i k s rm:Nat} {l:List Value} {K:aZ} {κ α:Type} {n ck c5 c6:Int} {xs:List Int}
def Ao(ways:List (List aL))(w:List Int):List (List aL):=List.zipWith (fun l n=>(l.take (n.toNat+1)).drop n.toNat) ways w
theorem akB{ways:List (List aL)}{w:List Int}{l:List aL}(h1:ways[k]?=some l) (h2:w[k]?=some n):(Ao ways w)[k]?=some ((l.take (n.toNat+1)).drop n.toNat):=by
 simp only[Ao,List.getElem?_zipWith,h1,h2]
def kZ(K:aZ)(qp:List Int→aF→List aj)(w:List Int):bK:=⟨fun i j=>match K.before[i]?,K.after[j]? with
 |some x,some y=>decide (cQ (oF y.st y.no 0) (qp w x) 0≥0)
 |_,_=>false⟩
def Dy(F:Nat→Nat→Bool)(i j:Nat)(r:bK):Prop:=∀x y,r.c x y=((decide (x <i)||(decide (x=i)&&decide (y <j)))&&F x y)
theorem Dy.set{j:Nat}{r:bK}(h:Dy F i j r):Dy F i (j+1) (iA r i j (F i j)):=fun x y=>by
 simp only[iA]
 split
 ·rename_i hx;obtain⟨rfl,rfl⟩:=hx;simp
 rename_i hx
 rw[h x y]
 congr 2
 by_cases e:x=i
 ·subst e
  have:y≠j:=fun e2=>hx ⟨rfl,e2⟩
  simp only[decide_true,Bool.true_and]
  congr 1
  exact propext (by omega)
 simp[e]
theorem Dy.nxt{n:Nat}{r:bK}(hF:∀x y,n≤y→F x y=false)(h:Dy F i n r):Dy F (i+1) 0 r:=fun x y=>by
 rw[h x y]
 by_cases hy:y <n
 ·congr 1
  simp only[hy,decide_true,Bool.and_true,Nat.not_lt_zero,decide_false,Bool.and_false,Bool.or_false]
  rw[Bool.eq_iff_iff];simp;omega
 rw[hF x y (by omega)];simp
theorem Dy.fin{n:Nat}{r:bK}(hF:∀x y,n≤x→F x y=false)(h:Dy F n 0 r):r=⟨F⟩:=by
 rcases r with ⟨c⟩
 congr 1
 funext x y
 have:=h x y
 dsimp only at this
 rw[this]
 by_cases hx:x <n
 ·simp[hx]
 rw[hF x y (by omega)];simp
theorem aoq{qp:List Int→aF→List aj}{w:List Int}(x y:Nat)(h:K.before.length≤x):(kZ K qp w).c x y=false:=by simp only[kZ,List.getElem?_eq_none h]
theorem aop{qp:List Int→aF→List aj}{w:List Int}(x y:Nat)(h:K.after.length≤y):(kZ K qp w).c x y=false:=by
 simp only[kZ,List.getElem?_eq_none h]
 split
 ·rename_i h1;cases h1
 rfl
structure Tj(K:aZ)(W:List (List Int)):Prop where
 n:1≤W.length∧W.length≤2
 len:∀w∈W,w.length=K.ways.length
 rng:∀w∈W,∀(k:Nat) (l:List aL) (n:Int),K.ways[k]?=some l→w[k]?=some n→0≤n∧n <l.length
def wU(ro:Nat→Option Obj)(l:List Value)(K:aZ)(W:List (List Int))(qp:List Int→aF→List aj):Prop:=∀w∈W,∀x∈K.before,(qp w x).length≤1000∧∀aA,Sub ro aA→∀v vS vT vU r,l=vS::vT::vU::r→nu aA v (Ao K.ways w)→
 eo zT 64 [.agg ⟨[vS,v,vU]⟩,.agg ⟨[zI x.st,zI x.no,zI 0]⟩] aA [] (fun r Y=>∃a n c,r= .tuple ⟨[.slice a n c,zI 0]⟩∧∀lB,Knows lB Y→bI lB (.slice a n c) 3 cw (qp w x))
theorem ap2{qp:List Int→aF→List aj}{ro:Nat→Option Obj}(hK:gh ro l K)(hO:n9 K)(hV:fH K)(hW:Tj K W)(h76:qk ro l W)(h47:wU ro l K W qp):eo zT 34 [.agg ⟨l⟩] ro [] (fun r Y=>∃f,r= .tuple ⟨[pV f,zI 0]⟩∧∀lB,Sub ro lB→Knows lB Y→oX lB f K (W.map (kZ K qp))):=by
 have Vu:=hK
 obtain⟨vS,vT,vc,vh,vr,vb,va,vf,fa,fc,hv,rfl,hS,hT,rC,oe,hr,hb,ha,hf⟩:=hK
 obtain⟨iL,hs,fF⟩:=id hS
 obtain⟨jB,ht,fu⟩:=id hT
 obtain⟨hc,hh,F7⟩:=id rC
 have uL:=hr
 have uB:=hb
 have ha0:=ha
 have hf0:=hf
 obtain⟨mB,Uh,Uf,lP,rfl,Ug,Nh,Ng⟩:=hs
 obtain⟨eT,AM,AJ,dY,rfl,AK,sS,sR⟩:=ht
 obtain⟨eC,AO,AN,ek,rfl,C5,yI,yH⟩:=hc
 obtain⟨dJ,uK,uJ,dr,rfl,wZ,qB,qA⟩:=hh
 obtain⟨lR,JX,JW,lQ,rfl,Ni,Is,Ir⟩:=hr
 obtain⟨pF,WV,WT,oZ,rfl,WU,Uj,Ui⟩:=hb
 obtain⟨pd,Um,Uk,oN,rfl,Ul,Q6,Q5⟩:=ha
 obtain⟨nO,Hu,Ht,mf,rfl,Mh,Bb,Ba⟩:=hf
 have Cr:=hO.rules
 have qt:=hO.before.1
 have Ox:=hO.after.1
 have Ow:=hO.facts.1
 have Ov:=hO.ways.1
 have HG:=fF.len
 have D6:=fu.len
 have XL:=hO.r8.two
 have hl9:=hO.eE.nh
 have PQ:∀(i:Nat) (p:ei),([]:List ei)[i]?=some p→cg ⟨ro,[]⟩ 0 (0+i*6) 6 (n5 p):=fun _ _ h=>oG h
 have hWn:=hW.n
 refine aMp au 62 [] [] bn<|zD 2<|jn fun b1=>jn fun b2=>jn fun b3=>zD 4<|jdf (f:=62) (ca:=[zP b2,zP b3])<|jd 5 [2]<|jn fun GS=>jd 6 [2,3]<|jc (vs:=[.agg ⟨[.slice mB iL.length lP,.slice eT jB.length dY,.slice fa 0 fc,.slice eC K.cs.length ek,.slice dJ hv.length dr,.slice lR K.rules.length lQ,.slice pF K.before.length oZ,.slice pd K.after.length oN,zI K.gone,zI K.new,zI K.af,.slice nO K.facts.length mf]⟩]) [] (ap1 Vu hO hV ⟨hW.n.1,by have:=hW.n.2;omega⟩ h76) ?_
 rintro _ Y21 ⟨a21,n21,c21,rfl,bbU,ajz⟩
 refine zD 2<|jf [0] Y21 (fun AI bV iT=>?_)
 obtain⟨YK,hWs,amz⟩:=ajz _ iT
 obtain⟨qWa,qWb,qWo,qWc,heW,qWk,qWh,qWl⟩:=hWs
 simp only[Value.slice.injEq] at heW
 obtain⟨rfl,rfl,rfl⟩:=heW
 have hlW:=amz.len
 refine zD 2<|pQ<|ez [1,1,1,0,1,0,0] [] (fun(zz:Nat×Value×Cells)=>[(1,zP b1),(2,zP b2),(3,zP b3),(21,.slice a21 YK.length c21),(22,zI (YK.length:Int)),(23,zI (zz.1:Int))]) (fun(zz:Nat×Value×Cells)=>[.l zz.2.2,.b GS (.cells ⟨[.slice mB iL.length lP,.slice eT jB.length dY,.slice fa 0 fc,.slice eC K.cs.length ek,.slice dJ hv.length dr,.slice lR K.rules.length lQ,.slice pF K.before.length oZ,.slice pd K.after.length oN,zI K.gone,zI K.new,zI K.af,.slice nO K.facts.length mf,zz.2.1]⟩ 116 (0,0)),.b b1 (.cells ⟨[.slice mB iL.length lP,.slice eT jB.length dY,.slice fa 0 fc,.slice eC K.cs.length ek,.slice dJ hv.length dr,.slice lR K.rules.length lQ,.slice pF K.before.length oZ,.slice pd K.after.length oN,zI K.gone,zI K.new,zI K.af,.slice nO K.facts.length mf]⟩ 38 (0,0)),.b b2 (.cells ⟨[zP GS]⟩ 94 (0,0)),.b b3 (.cells ⟨[zI 0]⟩ 42 (0,0))]) (fun(zz:Nat×Value×Cells)=>zz.1≤YK.length∧az zz.2.1 16 139 BP ((W.take zz.1).map (kZ K qp)) zz.2.2) (fun(zz:Nat×Value×Cells)=>YK.length-zz.1) (⟨0,zS,[]⟩) ⟨by dsimp only;omega,az.nil _ _ _⟩ [0,1,4,3,2] ?_
 rintro⟨k,vR,LR⟩ hI K1 bM rest
 dsimp only at hI
 refine zD 5<|zJ 24 ((k:Int) <(YK.length:Int)) (fun h4=>?_) fun h4=>?_
 ·
  refine zD 6 ?_
  obtain⟨xN,kQ⟩:=zG YK k
  refine ij c21 1 qWh kQ ?_
  obtain⟨ve,azJ,X3⟩:=amz.get kQ
  obtain⟨aLj,aZ4,aZ2,aw9,rfl,aZ3,aLi,aLh⟩:=X3
  refine jl 0 (qWl _ _ kQ)<|zD 3 ?_
  have hwm:=List.mem_of_getElem? azJ
  have hwl:=hW.len _ hwm
  refine jd 8 [2,2]<|jn fun b6=>jd 10 [0]<|pQ<|ez [1,1,1,0,1,0,0,1,1,0,0,1,1,0,1,0,0] [K1] (fun(zz:Nat×Value×Cells×(List Value))=>[(1,zP b1),(2,zP b2),(3,zP b3),(6,zP b6),(21,.slice a21 YK.length c21),(22,zI (YK.length:Int)),(23,zI (k:Int)),(34,.slice aLj ve.length aw9),(35,zI (ve.length:Int)),(36,zI (zz.1:Int))]) (fun(zz:Nat×Value×Cells×(List Value))=>[.l zz.2.2.1,.b b6 (.cells ⟨[.slice mB iL.length lP,zz.2.1,.slice fa 0 fc]⟩ 29 (0,0)),.l LR,.b GS (.cells ⟨[.slice mB iL.length lP,.slice eT jB.length dY,.slice fa 0 fc,.slice eC K.cs.length ek,.slice dJ hv.length dr,.slice lR K.rules.length lQ,.slice pF K.before.length oZ,.slice pd K.after.length oN,zI K.gone,zI K.new,zI K.af,.slice nO K.facts.length mf,vR]⟩ 116 (0,0)),.b b1 (.cells ⟨[.slice mB iL.length lP,.slice eT jB.length dY,.slice fa 0 fc,.slice eC K.cs.length ek,.slice dJ hv.length dr,.slice lR K.rules.length lQ,.slice pF K.before.length oZ,.slice pd K.after.length oN,zI K.gone,zI K.new,zI K.af,.slice nO K.facts.length mf]⟩ 38 (0,0)),.b b2 (.cells ⟨[zP GS]⟩ 94 (0,0)),.b b3 (.cells ⟨[zI 0]⟩ 42 (0,0))]) (fun(zz:Nat×Value×Cells×(List Value))=>(zz.1≤ve.length∧zz.2.2.2.length=zz.1)∧az zz.2.1 1 78 iQ zz.2.2.2 zz.2.2.1∧dD (fun w l=>bI AI w 7 mw l) zz.2.2.2 ((Ao K.ways ve).take zz.1)) (fun(zz:Nat×Value×Cells×(List Value))=>ve.length-zz.1) (⟨0,zS,[],[]⟩) ⟨⟨by dsimp only;omega,rfl⟩,az.nil _ _ _,(by simp only[List.take_zero];exact dD.nil)⟩ [0,1,2,3,4,5,6] ?_
  rintro⟨j,vT,LT,es⟩ hJ K2 mo rest
  dsimp only at hJ
  refine zD 5<|zJ 37 ((j:Int) <(ve.length:Int)) (fun h5=>?_) fun h5=>?_
  ·
   refine zD 7 ?_
   obtain⟨DJ,xj⟩:=zG ve j
   refine ij aw9 1 aLi xj<|jl 0 (aLh _ _ xj)<|jd 10 [1,4] ?_
   obtain⟨Zh,RI⟩:=zG jB j
   refine ij dY 1 sS RI<|zD 1 ?_
   obtain⟨l49,ara,h49⟩:=fu.get RI
   obtain hwr:=hW.rng _ hwm _ _ _ ara xj
   obtain bb0:=(hO.ways.2 _ (List.mem_of_getElem? ara)).1.2
   obtain⟨aK7,aK6,aK1,aK5,rfl,aK3,aK4,aK2⟩:=h49
   refine jl 0 ((sR _ _ RI).ext (tO bV))<|zD 2<|ja (DJ+1) (by omega)<|jcB (lo:=DJ) (hi:=(DJ+1)) ((show bI _ _ _ _ _ from ⟨aK7,aK6,aK1,aK5,rfl,aK3,aK4,aK2⟩).up bV) (by omega) (fun v53 vo=>?_)
   obtain⟨Iq,awI,awE,Ip,rfl,awG,awH,awF⟩:=vo
   refine zD 1<|aN 14 fun sW sZ rD=>jn fun b55=>bC rD [1,2,3,4,5,6,7]<|aN 15 fun uv uw sB=>ku (sz:=1) (ps:=es) (qs:=[(.slice Iq (((((l49).take (DJ+1).toNat).drop DJ.toNat)).length) Ip:Value)]) (enc:=iQ) (w:= .slice (some ⟨b55,0,none⟩) 1 1) [1] [0] [(b55,.cells ⟨([(.slice Iq (((((l49).take (DJ+1).toNat).drop DJ.toNat)).length) Ip:Value)].map iQ).flatten⟩ 78 (0,0))] (hJ.2.1) (fun s _ hZ=>bX [(.slice Iq (((((l49).take (DJ+1).toNat).drop DJ.toNat)).length) Ip:Value)] (hZ _ (.head _)) (by intro p hp;rfl)) (by intro p hp;rw[List.mem_singleton] at hp;subst hp;exact an rfl) (by simp<;>omega) (fun v56 L56 vq=>?_)
   obtain⟨Wj,Wi,adH⟩:=vq.form
   subst adH
   refine iS sB [[],[5]]<|zD 1<|aN 17 fun CL CX Dp=>jd 1 [2]<|eO Dp<|zD 2<|ja ((j:Int)+1) (by omega)<|zD 2<|bO mo (⟨j+1,(.slice Wj ((es++[(.slice Iq (((((l49).take (DJ+1).toNat).drop DJ.toNat)).length) Ip:Value)])).length Wi),L56,(es++[(.slice Iq (((((l49).take (DJ+1).toNat).drop DJ.toNat)).length) Ip:Value)])⟩) ⟨⟨by dsimp only;omega,by simp only[List.length_append,List.length_cons,List.length_nil];omega⟩,vq,by rw[gA (akB ara xj)];exact hJ.2.2.snoc (by rw[show DJ.toNat+1=(DJ+1).toNat by omega];exact⟨Iq,awI,awE,Ip,rfl,awG,awH,awF⟩)⟩ (by dsimp only;omega) [0,2,3,4,5,6,7] (Sub.refl _)
  refine zD 3 ?_
  have hS6:dD (fun w l=>bI AI w 7 mw l) es (Ao K.ways ve):=by have:=hJ.2.2;rwa[List.take_of_length_le (by simp only[Ao,List.length_zipWith];omega)] at this
  refine zD 1<|jn fun b9=>jd 10 [5]<|ez [1,1,1,0,1,0,0,1,1,0,0,1,1,1,1,0,1,0,0] [K1] (fun(zz:Nat×bK)=>[(1,zP b1),(2,zP b2),(3,zP b3),(6,zP b6),(9,zP b9),(21,.slice a21 YK.length c21),(22,zI (YK.length:Int)),(23,zI (k:Int)),(60,.slice pF K.before.length oZ),(61,zI (K.before.length:Int)),(62,zI (zz.1:Int))]) (fun(zz:Nat×bK)=>[.b b9 (.cells ⟨[.bool (zz.2.c 0 0),.bool (zz.2.c 0 1),.bool (zz.2.c 0 2),.bool (zz.2.c 0 3),.bool (zz.2.c 1 0),.bool (zz.2.c 1 1),.bool (zz.2.c 1 2),.bool (zz.2.c 1 3),.bool (zz.2.c 2 0),.bool (zz.2.c 2 1),.bool (zz.2.c 2 2),.bool (zz.2.c 2 3),.bool (zz.2.c 3 0),.bool (zz.2.c 3 1),.bool (zz.2.c 3 2),.bool (zz.2.c 3 3)]⟩ 139 (0,0)),.l LT,.b b6 (.cells ⟨[.slice mB iL.length lP,vT,.slice fa 0 fc]⟩ 29 (0,0)),.l LR,.b GS (.cells ⟨[.slice mB iL.length lP,.slice eT jB.length dY,.slice fa 0 fc,.slice eC K.cs.length ek,.slice dJ hv.length dr,.slice lR K.rules.length lQ,.slice pF K.before.length oZ,.slice pd K.after.length oN,zI K.gone,zI K.new,zI K.af,.slice nO K.facts.length mf,vR]⟩ 116 (0,0)),.b b1 (.cells ⟨[.slice mB iL.length lP,.slice eT jB.length dY,.slice fa 0 fc,.slice eC K.cs.length ek,.slice dJ hv.length dr,.slice lR K.rules.length lQ,.slice pF K.before.length oZ,.slice pd K.after.length oN,zI K.gone,zI K.new,zI K.af,.slice nO K.facts.length mf]⟩ 38 (0,0)),.b b2 (.cells ⟨[zP GS]⟩ 94 (0,0)),.b b3 (.cells ⟨[zI 0]⟩ 42 (0,0))]) (fun(zz:Nat×bK)=>zz.1≤K.before.length∧Dy (kZ K qp ve).c zz.1 0 zz.2) (fun(zz:Nat×bK)=>K.before.length-zz.1) (⟨0,⟨fun _ _=>false⟩⟩) ⟨by dsimp only;omega,fun x y=>by simp⟩ [0,1,2,3,4,5,6,7] ?_
  rintro⟨i,r⟩ hQ K6 hK6 rest
  dsimp only at hQ
  refine zD 5<|zJ 63 ((i:Int) <(K.before.length:Int)) (fun h9=>?_) fun h9=>?_
  ·
   refine zD 7 ?_
   obtain⟨Mv,acr⟩:=zG K.before i
   refine ij oZ 5 Uj acr<|jl 0 ((Ui _ _ acr).ext (tO bV))<|jn fun Mq=>jd 7 [0,3,0]<|jp (vs:=[.agg ⟨[.string Mv.name,zI Mv.st,zI Mv.no,zI Mv.head,.bool Mv.bold]⟩]) [] [] (fun aA hs hZ=>UY)<|aN 3 fun ahp ahO Sw=>YQ (vs:=[.agg ⟨[.slice mB iL.length lP,vT,.slice fa 0 fc]⟩,.agg ⟨[zI Mv.st,zI Mv.no,zI 0]⟩]) [] [2] LT (fun aA hs hZ=>(h47 _ hwm _ (List.mem_of_getElem? acr)).2 _ (bV.trans hs) _ _ _ _ _ rfl ⟨_,hJ.2.1.ma hZ,hS6.imp fun _ _ k=>k.up hs⟩) ?_
   rintro _ Y71 ⟨a71,n71,c71,rfl,aM7⟩
   refine bC Sw [1,2,3,4,5,6,7,8,9]<|zD 9<|jp (vs:=[zI 0]) [] [] (fun aA hs hZ=>zn)<|jf [0] Y71 (fun aZn ayR aOC=>?_)
   obtain⟨qPa,qPb,qPo,qPc,heP,qPk,qPh,qPl⟩:=aM7 _ aOC
   simp only[Value.slice.injEq] at heP
   obtain⟨rfl,rfl,rfl⟩:=heP
   refine jd 9 [6]<|ez [1,1,1,0,1,0,0,1,1,0,0,1,1,1,1,0,1,0,0,1,1,0,0,1,1,1,1,0,0] [K1,K6] (fun(zz:Nat×bK)=>[(1,zP b1),(2,zP b2),(3,zP b3),(6,zP b6),(9,zP b9),(10,zI (i:Int)),(12,.slice a71 ((qp ve Mv).length) c71),(21,.slice a21 YK.length c21),(22,zI (YK.length:Int)),(23,zI (k:Int)),(60,.slice pF K.before.length oZ),(61,zI (K.before.length:Int)),(62,zI (i:Int)),(77,.slice pd K.after.length oN),(78,zI (K.after.length:Int)),(79,zI (zz.1:Int))]) (fun(zz:Nat×bK)=>[.b b9 (.cells ⟨[.bool (zz.2.c 0 0),.bool (zz.2.c 0 1),.bool (zz.2.c 0 2),.bool (zz.2.c 0 3),.bool (zz.2.c 1 0),.bool (zz.2.c 1 1),.bool (zz.2.c 1 2),.bool (zz.2.c 1 3),.bool (zz.2.c 2 0),.bool (zz.2.c 2 1),.bool (zz.2.c 2 2),.bool (zz.2.c 2 3),.bool (zz.2.c 3 0),.bool (zz.2.c 3 1),.bool (zz.2.c 3 2),.bool (zz.2.c 3 3)]⟩ 139 (0,0)),.b Mq (.cells ⟨[.string Mv.name,zI Mv.st,zI Mv.no,zI Mv.head,.bool Mv.bold]⟩ 86 (0,0)),.l LT,.b b6 (.cells ⟨[.slice mB iL.length lP,vT,.slice fa 0 fc]⟩ 29 (0,0)),.l LR,.b GS (.cells ⟨[.slice mB iL.length lP,.slice eT jB.length dY,.slice fa 0 fc,.slice eC K.cs.length ek,.slice dJ hv.length dr,.slice lR K.rules.length lQ,.slice pF K.before.length oZ,.slice pd K.after.length oN,zI K.gone,zI K.new,zI K.af,.slice nO K.facts.length mf,vR]⟩ 116 (0,0)),.b b1 (.cells ⟨[.slice mB iL.length lP,.slice eT jB.length dY,.slice fa 0 fc,.slice eC K.cs.length ek,.slice dJ hv.length dr,.slice lR K.rules.length lQ,.slice pF K.before.length oZ,.slice pd K.after.length oN,zI K.gone,zI K.new,zI K.af,.slice nO K.facts.length mf]⟩ 38 (0,0)),.b b2 (.cells ⟨[zP GS]⟩ 94 (0,0)),.b b3 (.cells ⟨[zI 0]⟩ 42 (0,0))]) (fun(zz:Nat×bK)=>zz.1≤K.after.length∧Dy (kZ K qp ve).c i zz.1 zz.2) (fun(zz:Nat×bK)=>K.after.length-zz.1) (⟨0,r⟩) ⟨by dsimp only;omega,hQ.2⟩ [1,0,2,3,4,5,6,7,8] ?_
   rintro⟨j,r⟩ hU K8 hK8 rest
   dsimp only at hU
   refine zD 5<|zJ 80 ((j:Int) <(K.after.length:Int)) (fun OS=>?_) fun OS=>?_
   ·
    refine zD 7 ?_
    obtain⟨DI,RF⟩:=zG K.after j
    refine ij oN 5 Q6 RF<|jl 0 ((Q5 _ _ RF).ext (tO (bV.trans ayR)))<|jn fun lM=>jd 3 [0] ?_
    have hRW:(kZ K qp ve).c i j=decide (cQ (oF DI.st DI.no 0) (qp ve Mv) 0≥0):=by simp only[kZ,acr,RF]
    refine jd 5 [0]<|IS (b:=b9) (off:=0) (len:=4) (sz:=4) (i:Int) (by omega)<|jp (vs:=[.agg ⟨[.string DI.name,zI DI.st,zI DI.no,zI DI.head,.bool DI.bold]⟩]) [] [] (fun aA hs hZ=>UY)<|jp (vs:=[.slice a71 ((qp ve Mv).length) c71,.agg ⟨[zI DI.st,zI DI.no,zI 0]⟩]) [] [] (fun aA hs hZ=>IP ((show bI _ _ _ _ _ from ⟨a71,qPb,qPo,c71,rfl,qPk,qPh,qPl⟩).up hs) (h47 _ hwm _ (List.mem_of_getElem? acr)).1)<|IS (b:=b9) (off:=0+(i:Int).toNat*4) (len:=4) (sz:=1) (j:Int) (by omega)<|aN 8 fun Y6 ZN XU=>jsx 1 b9 (0+(i:Int).toNat*4+(j:Int).toNat*1) [.bool (r.c 0 0),.bool (r.c 0 1),.bool (r.c 0 2),.bool (r.c 0 3),.bool (r.c 1 0),.bool (r.c 1 1),.bool (r.c 1 2),.bool (r.c 1 3),.bool (r.c 2 0),.bool (r.c 2 1),.bool (r.c 2 2),.bool (r.c 2 3),.bool (r.c 3 0),.bool (r.c 3 1),.bool (r.c 3 2),.bool (r.c 3 3)] [.bool (decide (cQ (oF DI.st DI.no 0) (qp ve Mv) 0≥0))] 139 (by intro v hv;rw[List.mem_singleton] at hv;subst hv;rfl) (T7 (r:=r) (by omega) (by omega)) ?_
    refine jmw 0 [.b b9 (.cells ⟨[.bool ((iA r i j ((kZ K qp ve).c i j)).c 0 0),.bool ((iA r i j ((kZ K qp ve).c i j)).c 0 1),.bool ((iA r i j ((kZ K qp ve).c i j)).c 0 2),.bool ((iA r i j ((kZ K qp ve).c i j)).c 0 3),.bool ((iA r i j ((kZ K qp ve).c i j)).c 1 0),.bool ((iA r i j ((kZ K qp ve).c i j)).c 1 1),.bool ((iA r i j ((kZ K qp ve).c i j)).c 1 2),.bool ((iA r i j ((kZ K qp ve).c i j)).c 1 3),.bool ((iA r i j ((kZ K qp ve).c i j)).c 2 0),.bool ((iA r i j ((kZ K qp ve).c i j)).c 2 1),.bool ((iA r i j ((kZ K qp ve).c i j)).c 2 2),.bool ((iA r i j ((kZ K qp ve).c i j)).c 2 3),.bool ((iA r i j ((kZ K qp ve).c i j)).c 3 0),.bool ((iA r i j ((kZ K qp ve).c i j)).c 3 1),.bool ((iA r i j ((kZ K qp ve).c i j)).c 3 2),.bool ((iA r i j ((kZ K qp ve).c i j)).c 3 3)]⟩ 139 (0,0))] (L:=[(b9,.cells ⟨de [.bool (r.c 0 0),.bool (r.c 0 1),.bool (r.c 0 2),.bool (r.c 0 3),.bool (r.c 1 0),.bool (r.c 1 1),.bool (r.c 1 2),.bool (r.c 1 3),.bool (r.c 2 0),.bool (r.c 2 1),.bool (r.c 2 2),.bool (r.c 2 3),.bool (r.c 3 0),.bool (r.c 3 1),.bool (r.c 3 2),.bool (r.c 3 3)] (0+(i:Int).toNat*4+(j:Int).toNat*1) [.bool (decide (cQ (oF DI.st DI.no 0) (qp ve Mv) 0≥0))]⟩ 139 (0,0))]) (by rw[T5 (by omega) (by omega),hRW];rfl) ?_
    refine iS XU []<|zD 2<|ja ((j:Int)+1) (by omega)<|zD 2<|bO hK8 (⟨j+1,(iA r i j ((kZ K qp ve).c i j))⟩) ⟨by dsimp only;omega,hU.2.set⟩ (by dsimp only;omega) [0,2,3,4,5,6,7,8,9] (Sub.refl _)
   refine zD 3<|ja ((i:Int)+1) (by omega)<|zD 2<|bO hK6 (⟨i+1,r⟩) ⟨by dsimp only;omega,Dy.nxt (fun x y h=>aop x y h) (by have:=hU.2;rwa[show j=K.after.length by omega] at this)⟩ (by dsimp only;omega) [0,2,3,4,5,6,7,8] ayR
  refine jd 9 [6,6,4,0]<|aN 6 fun HY H4 yt=>jn fun aEv=>bC yt [1,2,3,4,5,6,7,8]<|aN 7 fun Mu ML F6=>ku (sz:=16) (ps:=((W.take k).map (kZ K qp))) (qs:=[(r:bK)]) (enc:=BP) (w:= .slice (some ⟨aEv,0,none⟩) 1 1) [4] [0] [(aEv,.cells ⟨([(r:bK)].map BP).flatten⟩ 139 (0,0))] (hI.2) (fun s _ hZ=>bX [(r:bK)] (hZ _ (.head _)) (by intro p hp;rfl)) (fun p _=>an rfl) (by simp only[List.length_map,List.length_take,List.length_cons,List.length_nil];omega) (fun aY1 aTi Vi=>?_)
  obtain⟨avx,avq,aAa⟩:=Vi.form
  subst aAa
  refine iS F6 [[7],[7]]<|zD 2<|aN 10 fun Tx TN F5=>jd 1 [5]<|iS F5 []<|zD 2<|ja ((k:Int)+1) (by omega)<|zD 2<|bO bM (⟨k+1,(.slice avx ((((W.take k).map (kZ K qp))++[(r:bK)])).length avq),aTi⟩) ⟨by dsimp only;omega,by rw[gA azJ,List.map_append];have e:=Dy.fin (fun x y h=>aoq x y h) (by have:=hQ.2;rwa[show i=K.before.length by omega] at this);subst e;exact Vi⟩ (by dsimp only;omega) [0,5,6,7,8] (Sub.refl _)
 refine jd 9 [3,3,4]<|jrD (g:=62) (ca:=[zP b2,zP b3]) ⟨rfl,rfl⟩ (.tuple ⟨[zP GS,zI 0]⟩) [3,4] [1,0] ((GS,.cells ⟨[.slice mB iL.length lP,.slice eT jB.length dY,.slice fa 0 fc,.slice eC K.cs.length ek,.slice dJ hv.length dr,.slice lR K.rules.length lQ,.slice pF K.before.length oZ,.slice pd K.after.length oN,zI K.gone,zI K.new,zI K.af,.slice nO K.facts.length mf,vR]⟩ 116 (0,0))::LR) 9 bV ⟨_,_,rfl,rfl,GS,rfl,fun lB hs hk=>⟨_,_,_,_,_,_,_,_,_,_,hv,hk _ (.head _),rC.up hs,oe,uL.up hs,uB.up hs,ha0.up hs,hf0.up hs,by have:=hI.2;rw[List.take_of_length_le (by omega)] at this;exact this.ma hk.tail⟩⟩
theorem PI.v(h:PI K):fH K where
 rules:=⟨by have:=h.rules.1;omega,fun r hr=>aoo (h.rules.2 r hr)⟩
 before:=⟨by have:=h.before.1;omega,fun p hp=>by
  obtain⟨h1,h2,_⟩:=(h.before.2 p hp).1
  exact⟨⟨⟨h1.1.1,by have:=h1.1.2;omega⟩,h1.2⟩,h2⟩⟩
 after:=⟨by have:=h.after.1;omega,fun p hp=>by
  obtain⟨h1,h2,_⟩:=(h.after.2 p hp).1
  exact⟨⟨⟨h1.1.1,by have:=h1.1.2;omega⟩,h1.2⟩,h2⟩⟩
 eE:=h.eE.v
 facts:=⟨by have:=h.facts.1;omega,h.facts.2⟩
theorem qk.up{ro aK:Nat→Option Obj}(h:qk ro l W)(hs:Sub ro aK):qk aK l W:=fun aA h1=>h aA (hs.trans h1)
theorem wU.up{ro aK:Nat→Option Obj}{qp:List Int→aF→List aj}(h:wU ro l K W qp)(hs:Sub ro aK):wU aK l K W qp:=fun w hw x hx=>⟨(h w hw x hx).1,fun aA h1=>(h w hw x hx).2 aA (hs.trans h1)⟩
theorem akR{qp:List Int→aF→List aj}{ro:Nat→Option Obj}(hK:gh ro l K)(hO:n9 K)(hV:fH K)(hW:Tj K W)(h76:qk ro l W)(h47:wU ro l K W qp):iK ro l K (W.map (kZ K qp)):=
 fun aA hs=>ap2 (hK.up hs) hO hV hW (h76.up hs) (h47.up hs)
def qv(a b:Int):Int:=if a <b then-1 else if a>b then 1 else 0
def orL:List Int→Int
 | []=>0
 |x::l=>if x=0 then orL l else x
theorem aaX{l:List Int}{x:Int}(h:l[k]?=some x):orL (l.drop k)=if x=0 then orL (l.drop (k+1)) else x:=by rw[fN h];rfl
theorem ais{l:List Int}(h:¬k <l.length):orL (l.drop k)=0:=by rw[eF h];rfl
def Yg(x y:ah):Int:=orL [qv x.n y.n,qv x.l y.l]
theorem akF{x y:ah}(h:aim x y):Yg x y <0:=by
 rcases h with h| ⟨h1,h2⟩
 ·have e:qv x.n y.n= -1:=if_pos h
  simp[Yg,orL,e]
 have e:qv x.n y.n=0:=by simp only[qv];rw[if_neg (by omega),if_neg (by omega)]
 have e2:qv x.l y.l= -1:=if_pos h2
 simp[Yg,orL,e,e2]
theorem aDs{a:Int}{ro:Nat→Option Obj}:dz zT 133 [zI a] ro (.bool false):=by
 refine bA au [] [] bn<|zD 12<|aE q0 (.bool (!decide (a=a))) [] [] [] (Sub.refl _) ⟨_,_,rfl,rfl,by simp,rfl⟩
theorem asW{a b:Int}{ro:Nat→Option Obj}:dz zT 96 [zI a,zI b] ro (zI (qv a b)):=by
 refine bA au [] [] bn<|zD 7<|jp (vs:=[zI a]) [] [] (fun aA hs hZ=>aDs)<|zD 5<|jp (vs:=[zI b]) [] [] (fun aA hs hZ=>aDs)<|zD 23<|zJ 16 (a <b) (fun h1=>?_) fun h1=>?_
 ·
  refine zD 6<|aE q0 (zI (-1)) [] [] [] (Sub.refl _) ⟨_,_,rfl,rfl,by simp only[qv];first|rw[if_pos (by omega)]|rw[if_neg (by omega),if_pos (by omega)]|rw[if_neg (by omega),if_neg (by omega)],rfl⟩
 refine zD 9<|zJ 19 (a>b) (fun h2=>?_) fun h2=>?_
 ·
  refine zD 6<|aE q0 (zI 1) [] [] [] (Sub.refl _) ⟨_,_,rfl,rfl,by simp only[qv];first|rw[if_pos (by omega)]|rw[if_neg (by omega),if_pos (by omega)]|rw[if_neg (by omega),if_neg (by omega)],rfl⟩
 refine zD 7<|aE q0 (zI 0) [] [] [] (Sub.refl _) ⟨_,_,rfl,rfl,by simp only[qv];first|rw[if_pos (by omega)]|rw[if_neg (by omega),if_pos (by omega)]|rw[if_neg (by omega),if_neg (by omega)],rfl⟩
theorem gOr{v:Value}{ro:Nat→Option Obj}(hl:bI ro v 1 cJ xs)(hn:xs.length≤1000):dz zT 175 [v] ro (zI (orL xs)):=by
 obtain⟨fp,rh,q9,eJ,rfl,tq,k8,me⟩:=hl
 refine bA au [] [] bn<|zD 16<|ez [1,1,0,1,0,0] [] (fun(zz:Nat)=>[(3,zI 0),(6,.slice fp xs.length eJ),(7,zI (xs.length:Int)),(8,zI (zz:Int))]) (fun(zz:Nat)=>[]) (fun(zz:Nat)=>zz≤xs.length∧orL xs=orL (xs.drop zz)) (fun(zz:Nat)=>xs.length-zz) 0 ⟨by omega,rfl⟩ [] ?_
 rintro k hI K1 bM rest
 refine zD 5<|zJ 9 ((k:Int) <(xs.length:Int)) (fun h1=>?_) fun h1=>?_
 ·
  refine zD 6 ?_
  obtain⟨x10,rn⟩:=zG xs k
  refine ij eJ 1 k8 rn<|jl 0 (me _ _ rn)<|zD 8<|js 14 (!decide (x10=0)) (fun h2=>?_) (fun h2=>?_)
  ·
   replace h2:=of_decide_eq_false (by simpa using h2)
   refine zD 7<|aE q0 (zI x10) [] [] [] (Sub.refl _) ⟨_,_,rfl,rfl,by rw[hI.2,aaX rn,if_neg (by simp_all)],rfl⟩
  replace h2:=of_decide_eq_true (by simpa using h2)
  refine zD 3<|ja ((k:Int)+1) (by omega)<|zD 2<|bO bM (k+1) ⟨by omega,by rw[hI.2,aaX rn,if_pos (by simp_all)]⟩ (by omega) [] (Sub.refl _)
 refine zD 8<|aE q0 (zI 0) [] [] [] (Sub.refl _) ⟨_,_,rfl,rfl,by rw[hI.2,ais (by omega)],rfl⟩
theorem amP{x y:ah}{ro:Nat→Option Obj}:dz zT 176 [.agg ⟨[zI x.n,zI x.l]⟩,.agg ⟨[zI y.n,zI y.l]⟩] ro (zI (Yg x y)):=by
 refine bA au [] [] bn<|zD 2<|jn fun b2=>jn fun b3=>jd 12 [1,0,1,0]<|jp (vs:=[zI x.n,zI y.n]) [] [] (fun aA hs hZ=>asW)<|jp (vs:=[zI x.l,zI y.l]) [] [] (fun aA hs hZ=>asW)<|aN 10 fun CN CZ AQ=>jn fun lM=>bC AQ [1,2]<|jp (vs:=[.slice (some ⟨lM,0,none⟩) 2 2]) [0] [(lM,.cells ⟨([(qv x.n y.n),(qv x.l y.l)].map cJ).flatten⟩ 3 (0,0))] (fun aA hs hZ=>gOr (bS [(qv x.n y.n),(qv x.l y.l)] hZ.head (by intro p hp;rfl)) (by first|omega| (simp only[List.length_set,List.length_append,List.length_cons,List.length_nil];omega))) ?_
 refine zD 3<|aE q0 (zI (orL [(qv x.n y.n),(qv x.l y.l)])) [] [] [] (Sub.refl _) ⟨_,_,rfl,rfl,rfl,rfl⟩
theorem z0{lo hi:Int}{ro:Nat→Option Obj}:dz zT 162 [zI n,zI lo,zI hi] ro (.bool (iH n lo hi)):=by
 refine bA au [] [] bn<|zD 10<|jj 4 [(6,.bool false),(14,.bool ((decide (lo≤n))&&(decide (n≤hi))))] (fun gD=>?_) (fun hj=>?_)
 rotate_left
 refine js 10 (decide (lo≤n)) (fun h1=>?_) (fun h1=>?_)
 ·
  have fS:=h1
  replace fS:=of_decide_eq_true fS
  refine zD 4<|jw 14 (.bool ((decide (lo≤n))&&(decide (n≤hi)))) (w:= .bool (decide (n≤hi))) (by rw[h1]<;>rfl) ?_
  exact hj _ (by kernel_rfl) (by kernel_rfl)
 ·
  have fS:=h1
  replace fS:=of_decide_eq_false fS
  refine zD 4<|jw 14 (.bool ((decide (lo≤n))&&(decide (n≤hi)))) (w:= .bool false) (by rw[h1]<;>rfl) ?_
  exact hj _ (by kernel_rfl) (by kernel_rfl)
 refine zD 3<|aE q0 (.bool ((decide (lo≤n))&&(decide (n≤hi)))) [] [] [] (Sub.refl _) ⟨_,_,rfl,rfl,rfl,rfl⟩
theorem asR{x:ah}{ro:Nat→Option Obj}(hx:AA x):dz zT 164 [.agg ⟨[zI x.n,zI x.l]⟩] ro (.bool true):=by
 obtain⟨⟨hx1,hx2⟩,hx3,hx4⟩:=hx
 refine bA au [] [] bn<|zD 2<|jn fun b1=>jd 6 [0]<|jp (vs:=[zI x.n,zI 1,zI 40]) [] [] (fun aA hs hZ=>z0)<|zD 1<|jj 4 [(2,.bool false),(10,.bool ((iH x.n 1 40)&&(iH x.l 0 4)))] (fun gD=>?_) (fun hj=>?_)
 rotate_left
 refine js 6 (iH x.n 1 40) (fun h1=>?_) (fun h1=>?_)
 ·
  refine jd 2 [0]<|jp (vs:=[zI x.l,zI 0,zI 4]) [] [] (fun aA hs hZ=>z0)<|zD 1<|jw 10 (.bool ((iH x.n 1 40)&&(iH x.l 0 4))) (w:= .bool (iH x.l 0 4)) (by rw[h1]<;>rfl) ?_
  exact hj _ (by kernel_rfl) (by kernel_rfl)
 ·
  refine zD 4<|jw 10 (.bool ((iH x.n 1 40)&&(iH x.l 0 4))) (w:= .bool false) (by rw[h1]<;>rfl) ?_
  exact hj _ (by kernel_rfl) (by kernel_rfl)
 refine zD 3<|aE q0 (.bool ((iH x.n 1 40)&&(iH x.l 0 4))) [] [] [] (Sub.refl _) ⟨_,_,rfl,rfl,by simp only[iH,Value.bool.injEq,Bool.and_eq_true,decide_eq_true_eq];omega,rfl⟩
theorem asX{v:Value}{S:List (List ah)}{ro:Nat→Option Obj}(hS:cL ro v S)(hO:eP S):dz zT 161 [.agg ⟨[v]⟩] ro (zI 0):=by
 obtain⟨ws,ht,cX⟩:=hS
 obtain⟨eT,AM,AJ,dY,rfl,AK,sS,sR⟩:=ht
 have hln:=cX.len
 have HC:=hO.two
 refine bA au [] [] bn<|zD 2<|jn fun b1=>jd 10 [0]<|zJ 10 ((ws.length:Int)=0) (fun h1=>?_) fun h1=>?_
 ·
  exfalso;omega
 refine jd 10 [0]<|zJ 14 ((ws.length:Int)>3) (fun h2=>?_) fun h2=>?_
 ·
  exfalso;omega
 refine jd 11 [0]<|ez [1,1,1,0,1,0,0] [] (fun(zz:Nat)=>[(16,.slice eT ws.length dY),(17,zI (ws.length:Int)),(18,zI (zz:Int))]) (fun(zz:Nat)=>[.b b1 (.cells ⟨[.slice eT ws.length dY]⟩ 25 (0,0))]) (fun(zz:Nat)=>zz≤ws.length) (fun(zz:Nat)=>ws.length-zz) 0 (by omega) [0] ?_
 rintro k hI K1 bM rest
 refine zD 5<|zJ 19 ((k:Int) <(ws.length:Int)) (fun h3=>?_) fun h3=>?_
 ·
  refine zD 6 ?_
  obtain⟨x20,KG⟩:=zG ws k
  refine ij dY 1 sS KG ?_
  obtain⟨l21,arc,h21⟩:=cX.get KG
  obtain bb5:=hO.len _ (List.mem_of_getElem? arc)
  obtain aNj:=hO.ok _ (List.mem_of_getElem? arc)
  obtain ajz:=hO.asc _ (List.mem_of_getElem? arc)
  obtain⟨axh,aZ7,aZ5,aij,rfl,aZ6,axg,axf⟩:=h21
  refine jl 0 (sR _ _ KG)<|zD 9<|zJ 24 ((l21.length:Int)>8) (fun h4=>?_) fun h4=>?_
  ·
   exfalso;omega
  refine zD 9<|ez [1,1,1,0,1,0,0,1,1,0,0,1,1,1,0,0] [K1] (fun(zz:Nat)=>[(4,.slice axh l21.length aij),(16,.slice eT ws.length dY),(17,zI (ws.length:Int)),(18,zI (k:Int)),(25,.slice axh l21.length aij),(26,zI (l21.length:Int)),(27,zI (zz:Int))]) (fun(zz:Nat)=>[.b b1 (.cells ⟨[.slice eT ws.length dY]⟩ 25 (0,0))]) (fun(zz:Nat)=>zz≤l21.length) (fun(zz:Nat)=>l21.length-zz) 0 (by omega) [0] ?_
  rintro i hJ K2 mo rest
  refine zD 5<|zJ 28 ((i:Int) <(l21.length:Int)) (fun h5=>?_) fun h5=>?_
  ·
   refine zD 7 ?_
   obtain⟨od,jQ⟩:=zG l21 i
   refine ij aij 2 axg jQ<|jl 0 (axf _ _ jQ)<|jn fun b6=>jd 7 [0,0]<|jp (vs:=[.agg ⟨[zI od.n,zI od.l]⟩]) [] [] (fun aA hs hZ=>(asR (x:=od) (aNj _ (List.mem_of_getElem? jQ))))<|zD 9<|js 2 (decide ((i:Int)>0)) (fun h6=>?_) (fun h6=>?_)
   ·
    have OQ:=h6
    replace OQ:=of_decide_eq_true OQ
    refine zD 2<|ja ((i:Int)-1) (by omega) ?_
    obtain⟨x41,aqg⟩:=zG l21 (((i:Int)-1).toNat)
    refine Mj ((i:Int)-1) aij 2 axg aqg (by omega)<|jl 0 (axf _ _ aqg)<|jd 1 [0]<|jp (vs:=[.agg ⟨[zI x41.n,zI x41.l]⟩,.agg ⟨[zI od.n,zI od.l]⟩]) [] [] (fun aA hs hZ=>(amP (x:=x41) (y:=od)))<|zD 3<|zJ 46 ((Yg x41 od)≥0) (fun h7=>?_) fun h7=>?_
    ·
     exfalso;have:=akF (pG ajz (show ((i:Int)-1).toNat <i by omega) aqg jQ);simp_all;omega
    refine zD 3<|ja ((i:Int)+1) (by omega)<|zD 2<|bO mo (i+1) (by omega) (by omega) [1] (Sub.refl _)
   have OQ:=h6
   replace OQ:=of_decide_eq_false OQ
   refine zD 13<|ja ((i:Int)+1) (by omega)<|zD 2<|bO mo (i+1) (by omega) (by omega) [1] (Sub.refl _)
  refine zD 3<|ja ((k:Int)+1) (by omega)<|zD 2<|bO bM (k+1) (by omega) (by omega) [0] (Sub.refl _)
 refine zD 7<|aE q0 (zI 0) [] [] [] (Sub.refl _) ⟨_,_,rfl,rfl,rfl,rfl⟩
abbrev ox(x:aj):Value:= .agg ⟨cw x⟩
instance:DecidableEq aj:=fun x y=>match x,y with
 | ⟨a,b,c⟩,⟨d,e,f⟩=>if h:a=d∧b=e∧c=f then isTrue (by obtain⟨rfl,rfl,rfl⟩:=h;rfl) else isFalse fun k=>h (by cases k;exact⟨rfl,rfl,rfl⟩)
def mg(s:Int)(x:ah):aj:=⟨s,x.n,x.l⟩
def Ob(S:List (List ah)):Nat→List aj
 |0=>[]
 |k+1=>Ob S k++(match S[k]? with
  |some l=>l.map (mg k)
  |none=>[])
def bx(S:List (List ah)):List aj:=Ob S S.length
theorem aqw{S:List (List ah)}{l:List ah}(h:S[k]?=some l):Ob S (k+1)=Ob S k++l.map (mg k):=by simp only[Ob,h]
theorem DY{S:List (List ah)}{x:aj}:∀ {k:Nat},x∈Ob S k↔∃j l p,j <k∧S[j]?=some l∧p∈l∧x=mg j p
 |0=>by simp[Ob]
 |k+1=>by
  simp only[Ob,List.mem_append,DY (k:=k)]
  constructor
  ·rintro(⟨j,l,p,h1,h2⟩|h)
   ·exact⟨j,l,p,by omega,h2⟩
   split at h
   ·rename_i l hl
    obtain⟨p,hp,rfl⟩:=List.mem_map.1 h
    exact⟨k,l,p,by omega,hl,hp,rfl⟩
   cases h
  rintro⟨j,l,p,h1,h2,h3,rfl⟩
  by_cases hj:j=k
  ·subst hj;rw[h2];exact .inr (List.mem_map_of_mem h3)
  exact .inl ⟨j,l,p,by omega,h2,h3,rfl⟩
theorem FP{S:List (List ah)}{j:Nat}{l:List ah}{p:ah}(h1:S[j]?=some l) (h2:p∈l):mg j p∈bx S:=DY.2 ⟨j,l,p,(List.getElem?_eq_some_iff.1 h1).1,h1,h2,rfl⟩
theorem RN{S:List (List ah)}(hO:eP S):∀k,(Ob S k).Nodup
 |0=>List.nodup_nil
 |k+1=>by
  simp only[Ob]
  refine List.nodup_append.2 ⟨RN hO k,?_,fun x hx y hy e=>?_⟩
  ·split
   ·rename_i l hl
    refine List.pairwise_map.2 ((hO.asc l (List.mem_of_getElem? hl)).imp fun {a b} h e=>?_)
    simp only[mg,aj.mk.injEq] at e
    rcases h with h|h<;>omega
   exact List.nodup_nil
  subst e
  obtain⟨j,l,p,h1,_,_,rfl⟩:=DY.1 hx
  split at hy
  ·obtain⟨q,_,hq⟩:=List.mem_map.1 hy
   simp only[mg,aj.mk.injEq] at hq
   omega
  cases hy
theorem KJ{S:List (List ah)}(hO:eP S):∀k,(Ob S k).length≤4*k
 |0=>by simp[Ob]
 |k+1=>by
  have:=KJ hO k
  simp only[Ob,List.length_append]
  split
  ·rename_i l hl
   have:=hO.len l (List.mem_of_getElem? hl)
   rw[List.length_map];omega
  simp;omega
theorem tM{S:List (List ah)}(hO:eP S):(bx S).length≤8:=by
 have:=KJ hO S.length
 have:=hO.two
 unfold bx;omega
theorem aDM(a b:aj):YH zT 10000 144 (ox a) (ox b) (decide (a=b)):=by
 have h:=(tR (mI Tryz.typeInfo144 Tryz.underlying144 rfl rfl rfl rfl rfl rfl) Tryz.stoodInHeld144 (.cons (by decide) (jO lY rfl) (jO lY rfl) (nF lY _ _) (.cons (by decide) (E1 (mI Tryz.typeInfo70 Tryz.underlying70 rfl rfl rfl rfl rfl rfl) rfl) (E1 (mI Tryz.typeInfo70 Tryz.underlying70 rfl rfl rfl rfl rfl rfl) rfl) (afi _ _ _ _ 9997) .nil)):YH zT 10000 144 (ox a) (ox b) _)
 have e:(a.h==b.h&&((a.n==b.n&&(a.l==b.l&&true))&&true))=decide (a=b):=by
  rcases a with ⟨x,y,z⟩;rcases b with ⟨u,v,w⟩
  rw[Bool.eq_iff_iff];simp
 rwa[e] at h
theorem aR8(a:aj):CkD zT 10000 144 (ox a):=
 Ps (mI Tryz.typeInfo144 Tryz.underlying144 rfl rfl rfl rfl rfl rfl) (.cons (by decide) (jO lY rfl) (Gy lY _) (.cons (by decide) (E1 (mI Tryz.typeInfo70 Tryz.underlying70 rfl rfl rfl rfl rfl rfl) rfl) (Ps (dep:=9998) (mI Tryz.typeInfo70 Tryz.underlying70 rfl rfl rfl rfl rfl rfl) (.cons (by decide) (jO lY rfl) (Gy lY _) (.cons (by decide) (jO lY rfl) (Gy lY _) .nil))) .nil))
theorem Cp:PJ zT 144 ox:=abX (mI Tryz.typeInfo144 Tryz.underlying144 rfl rfl rfl rfl rfl rfl) (fun k=>⟨_,rfl⟩) aR8 aDM (fun k=>by simp[Instr.sameBits])
def MV(Z:Cells)(F:List (aj×Value))(g:aj→aj):Prop:=∀aK,Knows aK Z→∀x∈F,bI aK x.2 3 cw [g x.1]
theorem Gi[DecidableEq κ]{k:κ}:∀ {F:List (κ×Value)} {i:Nat},k∈F.map (·.1)→∃j v,rH k F i=some (j,v)
 | [],_,h=>by cases h
 |x::F,i,h=>by
  simp only[rH]
  split
  ·exact⟨_,_,rfl⟩
  rename_i hk
  refine Gi ?_
  rcases List.mem_cons.1 h with h|h
  ·exact absurd h hk
  exact h
theorem UN[DecidableEq κ]{k:κ}{F:List (κ×Value)}(h:k∈F.map (·.1)):∃v,lkM k F=some v∧(k,v)∈F:=by
 obtain⟨j,v,h1⟩:=Gi (i:=0) h
 exact⟨v,by simp[lkM,h1],List.mem_of_getElem? (p7 h1).2⟩
theorem ZH[DecidableEq κ]{k:κ}{v:Value}{F:List (κ×Value)}(h:k∉F.map (·.1)):lO k v F=F++[(k,v)]:=by
 have:rH k F 0=none:=by
  cases hf:rH k F 0 with
  |none=>rfl
  |some y=>exact absurd (List.mem_map_of_mem (f:=(·.1)) (List.mem_of_getElem? (p7 (j:=y.1) (v:=y.2) hf).2)) h
 simp only[lO,this]
theorem ME[DecidableEq κ]{k:κ}{v:Value}{F:List (κ×Value)}(h:k∈F.map (·.1))(hn:(F.map (·.1)).Nodup):(lO k v F).map (·.1)=F.map (·.1)∧∀x∈lO k v F,x=(k,v)∨(x∈F∧x.1≠k):=by
 obtain⟨j,u,h1⟩:=Gi (i:=0) h
 have h2:=(p7 h1).2
 rw[Nat.sub_zero] at h2
 obtain⟨hj,P6⟩:=List.getElem?_eq_some_iff.1 h2
 simp only[lO,h1,DN]
 refine⟨?_,fun x hx=>?_⟩
 ·rw[List.map_set]
  refine List.ext_getElem? fun i=>?_
  rw[List.getElem?_set]
  split
  ·rename_i hi;subst hi;simp[h2,hj,P6]
  rfl
 obtain⟨i,hi⟩:=List.getElem?_of_mem hx
 rw[List.getElem?_set] at hi
 split at hi
 ·cases hi;exact .inl rfl
 rename_i G9
 refine .inr ⟨List.mem_of_getElem? hi,fun e=>G9 ?_⟩
 obtain⟨hi1,Sc⟩:=List.getElem?_eq_some_iff.1 hi
 exact(List.getElem_inj (xs:=F.map (·.1)) (h₀:=by simpa using hj) (h₁:=by simpa using hi1) hn).1 (by simp[P6,Sc,e])
theorem MV.set{F:List (aj×Value)}{g:aj→aj}(h:MV Z F g){k y:aj}{v:Value}(hk:k∈F.map (·.1))(hn:(F.map (·.1)).Nodup)(hv:∀aK,Knows aK Z2→bI aK v 3 cw [y]):MV (Z++Z2) (lO k v F) (fun x=>if x=k then y else g x):=fun aK hr x hx=>by
 rcases(ME hk hn).2 x hx with rfl| ⟨h1,h2⟩
 ·simp only[if_true];exact hv aK hr.right
 simp only[h2,if_false];exact h aK hr.left x h1
theorem MV.add{F:List (aj×Value)}{g:aj→aj}(h:MV Z F g){k:aj}{v:Value}(hv:∀aK,Knows aK Z2→bI aK v 3 cw [g k]):MV (Z++Z2) (F++[(k,v)]) g:=fun aK hr x hx=>by
 rcases List.mem_append.1 hx with h1|h1
 ·exact h aK hr.left x h1
 rw[List.mem_singleton] at h1;subst h1;exact hv aK hr.right
theorem aDE{v:Value}{ro:Nat→Option Obj}(hl:bI ro v 1 cJ xs)(hn:xs.length≤1000):eo zT 169 [v] ro [] (fun r Y=>az r 1 3 cJ xs Y):=by
 obtain⟨fp,rh,q9,eJ,rfl,tq,k8,me⟩:=hl
 refine bA au [] [] bn<|zD 8<|jsn 22 (a:=fp) (l:=xs.length) (c:=eJ)<|zD 1<|js 4 (fp.isNone) (fun h1=>?_) (fun h1=>?_)
 ·
  refine zD 6<|aE q0 (zS) [] [] [] (Sub.refl _) ⟨_,_,rfl,rfl,by rw[qI k8 (by assumption)];exact az.nil _ _ _⟩
 refine zD 4<|jn fun b5=>zD 1<|ku (sz:=1) (ps:=[]) (qs:=xs) (enc:=cJ) (w:= .slice fp xs.length eJ) [0] [] [] (cD (b:=b5) (T:=3)) (fun s he _=>⟨fp,rh,q9,eJ,rfl,k8,fun i p hp=>(me i p hp).ext he⟩) (fun p _=>an rfl) (by simp<;>omega) (fun v7 L7 ia=>?_)
 rw[List.nil_append] at ia
 obtain⟨Qo,Qk,OF⟩:=ia.form
 subst OF
 refine zD 3<|aE q0 ((.slice Qo (xs).length Qk)) [] [0] L7 (Sub.refl _) ⟨_,_,rfl,rfl,ia⟩
theorem aRL{v:Value}{xs:List ah}{ro:Nat→Option Obj}(hl:bI ro v 2 cI xs)(hn:xs.length≤1000):eo zT 203 [v] ro [] (fun r Y=>az r 2 70 cI xs Y):=by
 obtain⟨fp,rh,q9,eJ,rfl,tq,k8,me⟩:=hl
 refine bA au [] [] bn<|zD 8<|jsn 71 (a:=fp) (l:=xs.length) (c:=eJ)<|zD 1<|js 4 (fp.isNone) (fun h1=>?_) (fun h1=>?_)
 ·
  refine zD 6<|aE q0 (zS) [] [] [] (Sub.refl _) ⟨_,_,rfl,rfl,by rw[qI k8 (by assumption)];exact az.nil _ _ _⟩
 refine zD 4<|jn fun b5=>zD 1<|ku (sz:=2) (ps:=[]) (qs:=xs) (enc:=cI) (w:= .slice fp xs.length eJ) [0] [] [] (cD (b:=b5) (T:=70)) (fun s he _=>⟨fp,rh,q9,eJ,rfl,k8,fun i p hp=>(me i p hp).ext he⟩) (fun p _=>an rfl) (by simp<;>omega) (fun v7 L7 ia=>?_)
 rw[List.nil_append] at ia
 obtain⟨Qo,Qk,OF⟩:=ia.form
 subst OF
 refine zD 3<|aE q0 ((.slice Qo (xs).length Qk)) [] [0] L7 (Sub.refl _) ⟨_,_,rfl,rfl,ia⟩
theorem aRM{v:Value}{xs:List aj}{ro:Nat→Option Obj}(hl:bI ro v 3 cw xs)(hn:xs.length≤1000):eo zT 119 [v] ro [] (fun r Y=>az r 3 144 cw xs Y):=by
 obtain⟨fp,rh,q9,eJ,rfl,tq,k8,me⟩:=hl
 refine bA au [] [] bn<|zD 8<|jsn 140 (a:=fp) (l:=xs.length) (c:=eJ)<|zD 1<|js 4 (fp.isNone) (fun h1=>?_) (fun h1=>?_)
 ·
  refine zD 6<|aE q0 (zS) [] [] [] (Sub.refl _) ⟨_,_,rfl,rfl,by rw[qI k8 (by assumption)];exact az.nil _ _ _⟩
 refine zD 4<|jn fun b5=>zD 1<|ku (sz:=3) (ps:=[]) (qs:=xs) (enc:=cw) (w:= .slice fp xs.length eJ) [0] [] [] (cD (b:=b5) (T:=144)) (fun s he _=>⟨fp,rh,q9,eJ,rfl,k8,fun i p hp=>(me i p hp).ext he⟩) (fun p _=>an rfl) (by simp<;>omega) (fun v7 L7 ia=>?_)
 rw[List.nil_append] at ia
 obtain⟨Qo,Qk,OF⟩:=ia.form
 subst OF
 refine zD 3<|aE q0 ((.slice Qo (xs).length Qk)) [] [0] L7 (Sub.refl _) ⟨_,_,rfl,rfl,ia⟩
theorem ako{v:Value}{S:List (List ah)}{ro:Nat→Option Obj}(hS:cL ro v S)(hO:eP S):eo zT 172 [.agg ⟨[v]⟩] ro [] (fun r Y=>∃a n c,r= .agg ⟨[.slice a n c]⟩∧∀aK,Knows aK Y→cL aK (.slice a n c) S):=by
 obtain⟨ws,ht,cX⟩:=hS
 obtain⟨eT,AM,AJ,dY,rfl,AK,sS,sR⟩:=ht
 have hln:=cX.len
 have HC:=hO.two
 refine bA au [] [] bn<|zD 2<|jn fun b1=>jn fun b2=>zD 4<|jn fun b3=>jd 11 [0,2]<|pQ<|pQ<|ez [1,1,0,1,0,0] [] (fun(zz:Nat×Value×Cells×(List Value)×Cells)=>[(2,zP b2),(3,zP b3),(8,.slice eT ws.length dY),(9,zI (ws.length:Int)),(10,zI (zz.1:Int))]) (fun(zz:Nat×Value×Cells×(List Value)×Cells)=>[.b b3 (.cells ⟨[zz.2.1]⟩ 25 (0,0)),.l zz.2.2.1,.l zz.2.2.2.2,.b b2 (.cells ⟨[zS]⟩ 25 (0,0)),.b b1 (.cells ⟨[.slice eT ws.length dY]⟩ 25 (0,0))]) (fun(zz:Nat×Value×Cells×(List Value)×Cells)=>(zz.1≤ws.length∧zz.2.2.2.1.length=zz.1)∧az zz.2.1 1 71 iQ zz.2.2.2.1 zz.2.2.1∧∀aK,Knows aK zz.2.2.2.2→dD (fun w l=>bI aK w 2 cI l) zz.2.2.2.1 (S.take zz.1)) (fun(zz:Nat×Value×Cells×(List Value)×Cells)=>ws.length-zz.1) (⟨0,zS,[],[],[]⟩) ⟨⟨by dsimp only;omega,rfl⟩,az.nil _ _ _,fun _ _=> .nil⟩ [2,1,0,3,4] ?_
 rintro⟨k,vO,LO,es,Z⟩ hI K1 bM rest
 dsimp only at hI
 refine zD 5<|zJ 11 ((k:Int) <(ws.length:Int)) (fun h1=>?_) fun h1=>?_
 ·
  refine zD 6 ?_
  obtain⟨sQ,pU⟩:=zG ws k
  refine ij dY 1 sS pU ?_
  obtain⟨l13,azM,xD⟩:=cX.get pU
  obtain azz:=hO.len _ (List.mem_of_getElem? azM)
  obtain⟨axo,aLI,aLE,axn,rfl,aLG,aLH,aLF⟩:=xD
  refine jl 0 (sR _ _ pU)<|jd 6 [0]<|aN 3 fun CM CY BG=>jc (vs:=[.slice axo l13.length axn]) [] (aRL (show bI _ _ _ _ _ from ⟨axo,aLI,aLE,axn,rfl,aLG,aLH,aLF⟩) (by first|omega| (simp only[List.length_set,List.length_append,List.length_cons,List.length_nil];omega))) ?_
  rintro v17 L17 BB
  obtain⟨yX,yV,OG⟩:=BB.form
  subst OG
  refine bC BG [1,2,3,4,5]<|aN 4 fun sW sZ rD=>jn fun fg=>bC rD [1,2,3,4,5,6]<|aN 5 fun uv uw sB=>ku (sz:=1) (ps:=es) (qs:=[((.slice yX (l13).length yV):Value)]) (enc:=iQ) (w:= .slice (some ⟨fg,0,none⟩) 1 1) [3] [0] [(fg,.cells ⟨([((.slice yX (l13).length yV):Value)].map iQ).flatten⟩ 71 (0,0))] (hI.2.1) (fun s _ hZ=>bX [((.slice yX (l13).length yV):Value)] (hZ _ (.head _)) (by intro p hp;rfl)) (by intro p hp;rw[List.mem_singleton] at hp;subst hp;exact an rfl) (by simp<;>omega) (fun v19 L19 ac6=>?_)
  obtain⟨aI4,aIG,aPf⟩:=ac6.form
  subst aPf
  refine iS sB []<|zD 1<|aN 7 fun CL CX Dp=>jd 1 [3]<|eO Dp<|zD 2<|ja ((k:Int)+1) (by omega)<|zD 2<|N3 bM (⟨k+1,(.slice aI4 ((es++[((.slice yX (l13).length yV):Value)])).length aIG),L19,(es++[((.slice yX (l13).length yV):Value)]),L17++Z⟩) ⟨⟨by dsimp only;omega,by simp only[List.length_append,List.length_cons,List.length_nil];omega⟩,ac6,fun aK hk=>wT (hI.2.2 aK hk.right) azM (BB.ma hk.left)⟩ (by dsimp only;omega) [[3],[0],[2,4],[5],[6]] (Sub.refl _)
 refine jd 5 [0] ?_
 obtain⟨va6,vc6,he6⟩:=hI.2.1.form
 subst he6
 refine jd 3 [3]<|aE q0 (.agg ⟨[(.slice va6 (es).length vc6)]⟩) [3] [1,2] (LO++Z) (Sub.refl _) ⟨_,_,rfl,rfl,_,_,_,rfl,fun aK hk=>⟨es,hI.2.1.ma hk.left,by have:=hI.2.2 aK hk.right;rwa[List.take_of_length_le (by omega)] at this⟩⟩
theorem Vz{v:Value}{S:List (List ah)}{ro:Nat→Option Obj}(hS:cL ro v S)(hO:eP S):eo zT 163 [.agg ⟨[v]⟩] ro [] (fun r Y=>az r 3 144 cw (bx S) Y):=by
 obtain⟨ws,ht,cX⟩:=hS
 obtain⟨eT,AM,AJ,dY,rfl,AK,sS,sR⟩:=ht
 have hln:=cX.len
 have HC:=hO.two
 refine bA au [] [] bn<|zD 2<|jn fun b1=>jd 15 [0]<|pQ<|ez [1,1,0,1,0,0] [] (fun(zz:Nat×Value×Cells)=>[(2,zS),(3,zz.2.1),(9,.slice eT ws.length dY),(10,zI (ws.length:Int)),(11,zI (zz.1:Int))]) (fun(zz:Nat×Value×Cells)=>[.l zz.2.2,.b b1 (.cells ⟨[.slice eT ws.length dY]⟩ 25 (0,0))]) (fun(zz:Nat×Value×Cells)=>zz.1≤ws.length∧az zz.2.1 3 144 cw (Ob S zz.1) zz.2.2) (fun(zz:Nat×Value×Cells)=>ws.length-zz.1) (⟨0,zS,[]⟩) ⟨by dsimp only;omega,az.nil _ _ _⟩ [0,1] ?_
 rintro⟨k,vO,LO⟩ hI K1 bM rest
 dsimp only at hI
 refine zD 5<|zJ 12 ((k:Int) <(ws.length:Int)) (fun h1=>?_) fun h1=>?_
 ·
  refine zD 7 ?_
  obtain⟨fC,eA⟩:=zG ws k
  refine ij dY 1 sS eA ?_
  obtain⟨NY,XN,Ga⟩:=cX.get eA
  obtain aOp:=hO.len _ (List.mem_of_getElem? XN)
  obtain⟨aoW,aLD,aLB,aaJ,rfl,aLC,aoV,aoU⟩:=Ga
  refine jl 0 (sR _ _ eA)<|zD 10<|ez [1,1,0,1,0,0,1,1,0,0,1,1,0,0] [K1] (fun(zz:Nat×Value×Cells)=>[(2,zS),(3,zz.2.1),(4,zI (k:Int)),(9,.slice eT ws.length dY),(10,zI (ws.length:Int)),(11,zI (k:Int)),(16,.slice aoW NY.length aaJ),(17,zI (NY.length:Int)),(18,zI (zz.1:Int))]) (fun(zz:Nat×Value×Cells)=>[.l zz.2.2,.b b1 (.cells ⟨[.slice eT ws.length dY]⟩ 25 (0,0))]) (fun(zz:Nat×Value×Cells)=>zz.1≤NY.length∧az zz.2.1 3 144 cw (Ob S k++(NY.take zz.1).map (mg k)) zz.2.2) (fun(zz:Nat×Value×Cells)=>NY.length-zz.1) (⟨0,vO,LO⟩) ⟨by dsimp only;omega,by simpa using hI.2⟩ [0,1] ?_
  rintro⟨i,vO,LO⟩ hJ K2 mo rest
  dsimp only at hJ
  refine zD 5<|zJ 19 ((i:Int) <(NY.length:Int)) (fun h2=>?_) fun h2=>?_
  ·
   refine zD 6 ?_
   obtain⟨x20,KG⟩:=zG NY i
   refine ij aaJ 2 aoV KG<|jl 0 (aoU _ _ KG)<|jn fun b7=>jd 7 [0,0]<|jn fun b26=>ku (sz:=3) (ps:=(Ob S k++(NY.take i).map (mg k))) (qs:=[(⟨(k:Int),x20.n,x20.l⟩:aj)]) (enc:=cw) (w:= .slice (some ⟨b26,0,none⟩) 1 1) [2] [0] [(b26,.cells ⟨([(⟨(k:Int),x20.n,x20.l⟩:aj)].map cw).flatten⟩ 144 (0,0))] (hJ.2) (fun s _ hZ=>bX [(⟨(k:Int),x20.n,x20.l⟩:aj)] (hZ _ (.head _)) (by intro p hp;rfl)) (fun p _=>an rfl) (by have:=KJ hO k;simp only[List.length_append,List.length_map,List.length_take,List.length_cons,List.length_nil];omega) (fun v27 L27 ac4=>?_)
   obtain⟨aI0,aIC,aPc⟩:=ac4.form
   subst aPc
   refine zD 3<|ja ((i:Int)+1) (by omega)<|zD 2<|bO mo (⟨i+1,(.slice aI0 (((Ob S k++(NY.take i).map (mg k))++[(⟨(k:Int),x20.n,x20.l⟩:aj)])).length aIC),L27⟩) ⟨by dsimp only;omega,by rw[eY KG,List.map_append,←List.append_assoc];exact ac4⟩ (by dsimp only;omega) [0,3] (Sub.refl _)
  refine zD 3<|ja ((k:Int)+1) (by omega)<|zD 2<|bO bM (⟨k+1,vO,LO⟩) ⟨by dsimp only;omega,by rw[aqw XN];have:=hJ.2;rwa[List.take_of_length_le (by omega)] at this⟩ (by dsimp only;omega) [0,1] (Sub.refl _)
 refine zD 8<|aE q0 (vO) [] [0] LO (Sub.refl _) ⟨_,_,rfl,rfl,by have:=hI.2;rwa[show k=S.length by omega] at this⟩
theorem Qr{l:List α}{x:α}(hn:l.Nodup)(h:l[k]?=some x):x∉l.take k:=fun hx=>by
 obtain⟨hk,he⟩:=List.getElem?_eq_some_iff.1 h
 obtain⟨i,hi⟩:=List.getElem?_of_mem hx
 have hik:i <k:=by have:=(List.getElem?_eq_some_iff.1 hi).1;rw[List.length_take] at this;omega
 rw[List.getElem?_take_of_lt hik] at hi
 obtain⟨hi1,Sc⟩:=List.getElem?_eq_some_iff.1 hi
 have:=(List.getElem_inj (h₀:=hi1) (h₁:=hk) hn).1 (Sc.trans he.symm)
 omega
def w9(n:Int):Bool:= !decide (Int.tmod n 2=0)
def Ds(n:Int):Bool:=decide (Int.tmod n 2=0)
theorem qP{p:α→Bool}{l:List α}{x:α}(h:l[i]?=some x):(l.take (i+1)).filter p=(l.take i).filter p++bif p x then [x] else []:=by
 rw[eY h,List.filter_append]
 cases hp:p x<;>simp[hp]
def qM(l:List ah):List (List ah):=[l.filter fun x=>w9 x.n,l.filter fun x=>Ds x.n]
theorem adY{l h:List ah}{x:ah}(hh:h∈qM l)(hx:x∈h):x∈l:=by
 simp only[qM,List.mem_cons,List.not_mem_nil,or_false] at hh
 rcases hh with rfl|rfl<;>exact(List.mem_filter.1 hx).1
theorem adZ{l h:List ah}(hh:h∈qM l):h.length≤l.length:=by
 simp only[qM,List.mem_cons,List.not_mem_nil,or_false] at hh
 rcases hh with rfl|rfl<;>exact List.length_filter_le _ _
def Hq(s:Int)(h:List ah):List (aj×aj):=(h.zip h.reverse).map fun p=>(mg s p.1,mg s p.2)
def ZI(s:Int)(l:List ah):List (aj×aj):=(qM l).flatMap (Hq s)
def H9(s:Int)(l:List ah):List (aj×aj):=l.map fun x=>(mg s x,⟨s,if w9 x.n=true then x.n+1 else x.n-1,x.l⟩)
def q8(l:List ah):Int:=match l[l.length-1]? with
 |some y=>y.n+Int.tmod y.n 2
 |none=>0
def IQ(s o:Int)(l:List ah)(r:Int):List (aj×aj):=l.map fun x=>(mg s x,⟨o,x.n+r,x.l⟩)
def gU(u:List (aj×aj))(x:aj):aj:=u.foldl (fun y p=>if x=p.1 then p.2 else y) x
theorem akl(u:List (aj×aj))(a b:aj):gU (u++[(a,b)])=fun x=>if x=a then b else gU u x:=by
 funext x;simp only[gU,List.foldl_append,List.foldl_cons,List.foldl_nil]
theorem ah2{s:Int}{h:List ah}{x y:ah}(hx:h[i]?=some x) (hy:h[(((h.length:Int)-1)-(i:Int)).toNat]?=some y):(Hq s h)[i]?=some (mg s x,mg s y):=by
 have hi:=(List.getElem?_eq_some_iff.1 hx).1
 have h2:h.reverse[i]?=some y:=by rw[List.getElem?_reverse hi,←hy];congr 1;omega
 have:=(List.getElem?_zip_eq_some (z:=(x,y))).2 ⟨hx,h2⟩
 simp only[Hq,List.getElem?_map,this];rfl
theorem aap(s:Int)(h:List ah):(Hq s h).length=h.length:=by simp[Hq]
theorem abz{β:Type}{f:α→β}{l:List α}{x:α}(h:l[i]?=some x):(l.map f)[i]?=some (f x):=by rw[List.getElem?_map,h];rfl
theorem aks{β:Type}{f:α→List β}{l:List α}{x:α}(h:l[i]?=some x):(l.take (i+1)).flatMap f=(l.take i).flatMap f++f x:=by rw[eY h,List.flatMap_append,List.flatMap_singleton]
theorem MV.upd{S:List (List ah)}(hO:eP S){F:List (aj×Value)}{u:List (aj×aj)}{l:List ah}{x:ah}{y:aj}{b:Nat}{T:TypeId}(h:MV Z F (gU u))(hk:F.map (·.1)=bx S)(hl:S[s]?=some l) (hx:x∈l):
 MV (Z++[(b,.cells ⟨cw y⟩ T (0,0))]) (lO (mg s x) (.slice (some ⟨b,0,none⟩) 1 1) F) (gU (u++[(mg s x,y)]))∧(lO (mg s x) (.slice (some ⟨b,0,none⟩) 1 1) F).map (·.1)=bx S:=by
 have hm:mg s x∈F.map (·.1):=by rw[hk];exact FP hl hx
 have hn:(F.map (·.1)).Nodup:=by rw[hk];exact RN hO _
 rw[akl]
 exact⟨h.set hm hn fun aK hk=>bS [y] (hk _ (.head _)) (fun _ _=>rfl),(ME hm hn).1.trans hk⟩
theorem MY{S:List (List ah)}(hO:eP S){F:List (aj×Value)}{x:aj}{b:Nat}{T:TypeId}(h:MV Z F id)(hk:F.map (·.1)=(bx S).take k)(hx:(bx S)[k]?=some x):
 MV (Z++[(b,.cells ⟨cw x⟩ T (0,0))]) (lO x (.slice (some ⟨b,0,none⟩) 1 1) F) id∧(lO x (.slice (some ⟨b,0,none⟩) 1 1) F).map (·.1)=(bx S).take (k+1):=by
 have:x∉F.map (·.1):=by rw[hk];exact Qr (RN hO _) hx
 rw[ZH this]
 exact⟨h.add fun aK hk=>bS [x] (hk _ (.head _)) (fun _ _=>rfl),by rw[List.map_append,hk,eY hx];rfl⟩
theorem I9{v:Value}{S:List (List ah)}{ro:Nat→Option Obj}(hS:cL ro v S)(hO:eP S):eo zT 173 [.agg ⟨[v]⟩] ro [] (fun r Y=>∃rm F LM Z,r= .map (some rm)∧Y=LM++Z∧jH rm ox F LM∧F.map (·.1)=bx S∧MV Z F id):=by
 have xB:=hS
 obtain⟨ws,ht,cX⟩:=hS
 obtain⟨eT,AM,AJ,dY,rfl,AK,sS,sR⟩:=ht
 have hln:=cX.len
 have HC:=hO.two
 have hhl:=tM hO
 refine bA au [] [] bn<|zD 2<|jn fun b1=>zD 4<|jmk ox fun r6 L6 hm6=>jd 6 [1]<|jc (vs:=[.agg ⟨[.slice eT ws.length dY]⟩]) [] (Vz xB hO) ?_
 rintro v8 L8 ho8
 refine DX ho8<|zD 1<|jf [0] L8 (fun AI bV iT=>?_)
 have hzh:=ho8.ma iT
 obtain⟨aKQ,aZx,aZv,awx,rfl,aZw,aKP,aKO⟩:=hzh
 refine zD 2<|pQ<|ez [1,1,0,1,0,0] [] (fun(zz:Nat×(List (aj×Value))×Cells×Cells)=>[(2,(.map none)),(3,(.map (some r6))),(8,.slice aKQ ((bx S).length) awx),(9,zI ((bx S).length:Int)),(10,zI (zz.1:Int))]) (fun(zz:Nat×(List (aj×Value))×Cells×Cells)=>[.l zz.2.2.1,.l zz.2.2.2,.b b1 (.cells ⟨[.slice eT ws.length dY]⟩ 25 (0,0))]) (fun(zz:Nat×(List (aj×Value))×Cells×Cells)=>zz.1≤(bx S).length∧jH r6 ox zz.2.1 zz.2.2.1∧zz.2.1.map (·.1)=(bx S).take zz.1∧MV zz.2.2.2 zz.2.1 id) (fun(zz:Nat×(List (aj×Value))×Cells×Cells)=>(bx S).length-zz.1) (⟨0,[],L6,[]⟩) ⟨by dsimp only;omega,hm6,rfl,fun _ _ _ h=>(by cases h)⟩ [1,0,2] ?_
 rintro⟨k,F,LM,Z⟩ hI K1 bM rest
 dsimp only at hI
 refine zD 5<|zJ 11 ((k:Int) <((bx S).length:Int)) (fun h4=>?_) fun h4=>?_
 ·
  refine zD 6 ?_
  obtain⟨sQ,pU⟩:=zG ((bx S)) k
  refine ij awx 3 aKP pU<|jl 0 (aKO _ _ pU)<|jn fun b5=>jd 6 [0,0,0]<|jn fun b17=>jmu (kv:=ox) (F:=F) (r:=r6) (K:=144) 2 sQ (.slice (some ⟨b17,0,none⟩) 1 1) Cp hI.2.1 fun Lm5 hm5=>zD 2<|ja ((k:Int)+1) (by omega)<|zD 2<|N3 bM (⟨k+1,_,Lm5,Z++[(b17,.cells ⟨[zI sQ.h,zI sQ.n,zI sQ.l]⟩ 144 (0,0))]⟩) ⟨by dsimp only;omega,hm5,(MY (T:=144) hO hI.2.2.2 hI.2.2.1 pU).2,(MY (T:=144) hO hI.2.2.2 hI.2.2.1 pU).1⟩ (by dsimp only;omega) [[0],[3,1],[4]] (Sub.refl _)
 refine zD 8<|aE q0.a ((.map (some r6))) [] [0,1] (LM++Z) bV ⟨_,_,rfl,rfl,_,F,LM,Z,rfl,rfl,hI.2.1,by rw[hI.2.2.1,List.take_of_length_le (by omega)],hI.2.2.2⟩
theorem gAt{h l:Int}{ro:Nat→Option Obj}:dz zT 246 [zI h,zI n,zI l] ro (.agg ⟨[zI h,zI n,zI l]⟩):=by
 refine bA au [] [] bn<|zD 2<|jn fun b6=>jd 11 [0]<|aE q0 (.agg ⟨[zI h,zI n,zI l]⟩) [0] [] [] (Sub.refl _) ⟨_,_,rfl,rfl,rfl,rfl⟩
theorem aDr{x:ah}{ro:Nat→Option Obj}:dz zT 244 [.agg ⟨[zI x.n,zI x.l]⟩] ro (.bool (w9 x.n)):=by
 refine bA au [] [] bn<|zD 2<|jn fun b1=>jd 11 [0]<|aE q0 (.bool (!decide ((Int.tmod x.n 2)=0))) [] [] [] (Sub.refl _) ⟨_,_,rfl,rfl,rfl,rfl⟩
theorem aeS{v:Value}{l:List ah}{ro:Nat→Option Obj}(hl:bI ro v 2 cI l)(hn:l.length≤4):eo zT 243 [v,.func (.func 244) ⟨[]⟩ ⟨[]⟩] ro [] (fun r Y=>az r 2 70 cI (l.filter fun x=>w9 x.n) Y):=by
 obtain⟨fp,rh,q9,eJ,rfl,tq,k8,me⟩:=hl
 refine bA au [] [] bn<|zD 16<|pQ<|ez [1,1,0,1,0,0] [] (fun(zz:Nat×Value×Cells)=>[(1,.func (.func 244) ⟨[]⟩ ⟨[]⟩),(4,zS),(5,zz.2.1),(8,.slice fp l.length eJ),(9,zI (l.length:Int)),(10,zI (zz.1:Int))]) (fun(zz:Nat×Value×Cells)=>[.l zz.2.2]) (fun(zz:Nat×Value×Cells)=>zz.1≤l.length∧az zz.2.1 2 70 cI ((l.take zz.1).filter fun x=>w9 x.n) zz.2.2) (fun(zz:Nat×Value×Cells)=>l.length-zz.1) (⟨0,zS,[]⟩) ⟨by dsimp only;omega,az.nil _ _ _⟩ [0] ?_
 rintro⟨k,vO,LO⟩ hI K1 bM rest
 dsimp only at hI
 refine zD 5<|zJ 11 ((k:Int) <(l.length:Int)) (fun h1=>?_) fun h1=>?_
 ·
  refine zD 6 ?_
  obtain⟨sQ,pU⟩:=zG l k
  refine ij eJ 2 k8 pU<|jl 0 (me _ _ pU)<|jn fun b7=>jd 6 [0,0]<|jp (vs:=[.agg ⟨[zI sQ.n,zI sQ.l]⟩]) [] [] (fun aA hs hZ=>(aDr (x:=sQ)))<|zD 1<|js 16 (w9 sQ.n) (fun h2=>?_) (fun h2=>?_)
  ·
   refine jd 4 [0]<|jn fun GS=>ku (sz:=2) (ps:=((l.take k).filter fun x=>w9 x.n)) (qs:=[(⟨sQ.n,sQ.l⟩:ah)]) (enc:=cI) (w:= .slice (some ⟨GS,0,none⟩) 1 1) [2] [0] [(GS,.cells ⟨([(⟨sQ.n,sQ.l⟩:ah)].map cI).flatten⟩ 70 (0,0))] (hI.2) (fun s _ hZ=>bX [(⟨sQ.n,sQ.l⟩:ah)] (hZ _ (.head _)) (by intro p hp;rfl)) (fun p _=>an rfl) (by have:=List.length_filter_le (fun x:ah=>w9 x.n) (l.take k);rw[List.length_take] at this;simp only[List.length_cons,List.length_nil];omega) (fun v20 L20 FO=>?_)
   obtain⟨anU,anK,arO⟩:=FO.form
   subst arO
   refine zD 3<|ja ((k:Int)+1) (by omega)<|zD 2<|bO bM (⟨k+1,(.slice anU ((((l.take k).filter fun x=>w9 x.n)++[(⟨sQ.n,sQ.l⟩:ah)])).length anK),L20⟩) ⟨by dsimp only;omega,by rw[qP pU,show w9 sQ.n=true from (by assumption)];exact FO⟩ (by dsimp only;omega) [0] (Sub.refl _)
  refine zD 3<|ja ((k:Int)+1) (by omega)<|zD 2<|bO bM (⟨k+1,vO,LO⟩) ⟨by dsimp only;omega,by rw[qP pU,show w9 sQ.n=false from (by assumption)];simpa using hI.2⟩ (by dsimp only;omega) [1] (Sub.refl _)
 refine zD 8<|aE q0 (vO) [] [0] LO (Sub.refl _) ⟨_,_,rfl,rfl,by have:=hI.2;rwa[List.take_of_length_le (by omega)] at this⟩
theorem aDy{x:ah}{ro:Nat→Option Obj}:dz zT 245 [.agg ⟨[zI x.n,zI x.l]⟩] ro (.bool (Ds x.n)):=by
 refine bA au [] [] bn<|zD 2<|jn fun b1=>jd 11 [0]<|aE q0 (.bool (decide ((Int.tmod x.n 2)=0))) [] [] [] (Sub.refl _) ⟨_,_,rfl,rfl,rfl,rfl⟩
theorem aeR{v:Value}{l:List ah}{ro:Nat→Option Obj}(hl:bI ro v 2 cI l)(hn:l.length≤4):eo zT 243 [v,.func (.func 245) ⟨[]⟩ ⟨[]⟩] ro [] (fun r Y=>az r 2 70 cI (l.filter fun x=>Ds x.n) Y):=by
 obtain⟨fp,rh,q9,eJ,rfl,tq,k8,me⟩:=hl
 refine bA au [] [] bn<|zD 16<|pQ<|ez [1,1,0,1,0,0] [] (fun(zz:Nat×Value×Cells)=>[(1,.func (.func 245) ⟨[]⟩ ⟨[]⟩),(4,zS),(5,zz.2.1),(8,.slice fp l.length eJ),(9,zI (l.length:Int)),(10,zI (zz.1:Int))]) (fun(zz:Nat×Value×Cells)=>[.l zz.2.2]) (fun(zz:Nat×Value×Cells)=>zz.1≤l.length∧az zz.2.1 2 70 cI ((l.take zz.1).filter fun x=>Ds x.n) zz.2.2) (fun(zz:Nat×Value×Cells)=>l.length-zz.1) (⟨0,zS,[]⟩) ⟨by dsimp only;omega,az.nil _ _ _⟩ [0] ?_
 rintro⟨k,vO,LO⟩ hI K1 bM rest
 dsimp only at hI
 refine zD 5<|zJ 11 ((k:Int) <(l.length:Int)) (fun h1=>?_) fun h1=>?_
 ·
  refine zD 6 ?_
  obtain⟨sQ,pU⟩:=zG l k
  refine ij eJ 2 k8 pU<|jl 0 (me _ _ pU)<|jn fun b7=>jd 6 [0,0]<|jp (vs:=[.agg ⟨[zI sQ.n,zI sQ.l]⟩]) [] [] (fun aA hs hZ=>(aDy (x:=sQ)))<|zD 1<|js 16 (Ds sQ.n) (fun h2=>?_) (fun h2=>?_)
  ·
   refine jd 4 [0]<|jn fun GS=>ku (sz:=2) (ps:=((l.take k).filter fun x=>Ds x.n)) (qs:=[(⟨sQ.n,sQ.l⟩:ah)]) (enc:=cI) (w:= .slice (some ⟨GS,0,none⟩) 1 1) [2] [0] [(GS,.cells ⟨([(⟨sQ.n,sQ.l⟩:ah)].map cI).flatten⟩ 70 (0,0))] (hI.2) (fun s _ hZ=>bX [(⟨sQ.n,sQ.l⟩:ah)] (hZ _ (.head _)) (by intro p hp;rfl)) (fun p _=>an rfl) (by have:=List.length_filter_le (fun x:ah=>Ds x.n) (l.take k);rw[List.length_take] at this;simp only[List.length_cons,List.length_nil];omega) (fun v20 L20 FO=>?_)
   obtain⟨anU,anK,arO⟩:=FO.form
   subst arO
   refine zD 3<|ja ((k:Int)+1) (by omega)<|zD 2<|bO bM (⟨k+1,(.slice anU ((((l.take k).filter fun x=>Ds x.n)++[(⟨sQ.n,sQ.l⟩:ah)])).length anK),L20⟩) ⟨by dsimp only;omega,by rw[qP pU,show Ds sQ.n=true from (by assumption)];exact FO⟩ (by dsimp only;omega) [0] (Sub.refl _)
  refine zD 3<|ja ((k:Int)+1) (by omega)<|zD 2<|bO bM (⟨k+1,vO,LO⟩) ⟨by dsimp only;omega,by rw[qP pU,show Ds sQ.n=false from (by assumption)];simpa using hI.2⟩ (by dsimp only;omega) [1] (Sub.refl _)
 refine zD 8<|aE q0 (vO) [] [0] LO (Sub.refl _) ⟨_,_,rfl,rfl,by have:=hI.2;rwa[List.take_of_length_le (by omega)] at this⟩
theorem Vx{v:Value}{S:List (List ah)}{l:List ah}{c2 c3 c4:Int}{F:List (aj×Value)}{ro:Nat→Option Obj}(hS:cL ro v S)(hO:eP S)(hl:S[s]?=some l) (hm:jH rm ox F LM) (hk:F.map (·.1)=bx S) (hM:MV Z F id):eo zT 222 [.agg ⟨[v]⟩,.agg ⟨[zI ck,zI (s:Int),zI c2,zI c3,zI c4,zI c5,zI c6]⟩,(.map (some rm))] ro (LM++Z) (fun r Y=>∃F' L' Z',r= zI 0∧Y=L'++Z'∧jH rm ox F' L'∧F'.map (·.1)=bx S∧MV Z' F' (gU (ZI (s:Int) l))):=by
 obtain⟨ws,ht,cX⟩:=hS
 obtain⟨eT,AM,AJ,dY,rfl,AK,sS,sR⟩:=ht
 have hln:=cX.len
 have HC:=hO.two
 have IX:=(List.getElem?_eq_some_iff.1 hl).1
 have hlm:=List.mem_of_getElem? hl
 have hll:=hO.len _ hlm
 refine bA au [.l LM,.l Z] [] bn<|zD 2<|jn fun b3=>jn fun b4=>zD 4<|IT [1,0,1] [] (fun(zz:Nat×Value×Value×Cells×Cells)=>[(2,(.map (some rm))),(4,zP b4),(6,zI 0),(25,.slice (some ⟨zz.1,0,none⟩) 2 2),(26,zI 2),(27,zI 0)]) (fun(zz:Nat×Value×Value×Cells×Cells)=>[.b zz.1 (.cells ⟨[zz.2.1,zz.2.2.1]⟩ 71 (0,0)),.l zz.2.2.2.1,.l zz.2.2.2.2,.l LM,.l Z,.b b4 (.cells ⟨[zI ck,zI (s:Int),zI c2,zI c3,zI c4,zI c5,zI c6]⟩ 74 (0,0)),.b b3 (.cells ⟨[.slice eT ws.length dY]⟩ 25 (0,0))]) (fun(zz:Nat×Value×Value×Cells×Cells)=>az zz.2.1 2 70 cI (l.filter fun x=>w9 x.n) zz.2.2.2.1∧az zz.2.2.1 2 70 cI (l.filter fun x=>Ds x.n) zz.2.2.2.2) ?_ (fun K1 bM=>?_)
 ·
  rintro⟨dL,v1,v2,L1,L2⟩ hC rest
  dsimp only at hC
  refine jf [0,1,2] ((dL,.cells ⟨[v1,v2]⟩ 71 (0,0))::(L1++L2)) (fun AI bV iT=>?_)
  have hhv:=bS (enc:=iQ) (T:=71) [v1,v2] (iT _ (.head _)) (fun _ _=>rfl)
  have azT:dD (fun w l=>bI AI w 2 cI l) [v1,v2] (qM l):= .cons (hC.1.ma (Knows.left (Knows.tail iT))) (.cons (hC.2.ma (Knows.right (Knows.tail iT))) .nil)
  have hvl: [v1,v2].length=2:=rfl
  obtain⟨qga,qgb,qgo,qgc,OB,qgk,qgh,qgl⟩:=hhv
  simp only[Value.slice.injEq] at OB
  obtain⟨rfl,_,rfl⟩:=OB
  refine zD 1<|ez [1,0,1,0,0] [] (fun(zz:Nat×(List (aj×Value))×Cells×Cells)=>[(2,(.map (some rm))),(4,zP b4),(6,zI 0),(25,.slice (some ⟨dL,0,none⟩) 2 2),(26,zI 2),(27,zI (zz.1:Int))]) (fun(zz:Nat×(List (aj×Value))×Cells×Cells)=>[.l zz.2.2.1,.l zz.2.2.2,.b b4 (.cells ⟨[zI ck,zI (s:Int),zI c2,zI c3,zI c4,zI c5,zI c6]⟩ 74 (0,0)),.b b3 (.cells ⟨[.slice eT ws.length dY]⟩ 25 (0,0))]) (fun(zz:Nat×(List (aj×Value))×Cells×Cells)=>zz.1≤2∧jH rm ox zz.2.1 zz.2.2.1∧zz.2.1.map (·.1)=bx S∧MV zz.2.2.2 zz.2.1 (gU (((qM l).take zz.1).flatMap (Hq (s:Int))))) (fun(zz:Nat×(List (aj×Value))×Cells×Cells)=>2-zz.1) (⟨0,F,LM,Z⟩) ⟨by dsimp only;omega,hm,hk,hM⟩ [0,1,2,3] ?_
  rintro⟨k,F,LM,Z⟩ hI K2 mo rest
  dsimp only at hI
  refine zD 5<|zJ 28 ((k:Int) <2) (fun h4=>?_) fun h4=>?_
  ·
   refine zD 6 ?_
   obtain⟨CQ,zp⟩:=zG ([v1,v2]) k
   refine ij 2 1 qgh zp ?_
   obtain⟨Rv,arb,h30⟩:=azT.get zp
   obtain azw:Rv.length≤4:=by have:=adZ (List.mem_of_getElem? arb);omega
   obtain⟨aw7,aZY,aZW,aif,rfl,aZX,aw6,aw5⟩:=h30
   refine jl 0 (qgl _ _ zp)<|zD 9<|ez [1,0,1,0,0,1,1,0,0,1,1,0,0] [K2] (fun(zz:Nat×(List (aj×Value))×Cells×Cells)=>[(2,(.map (some rm))),(4,zP b4),(6,zI 0),(8,.slice aw7 Rv.length aif),(25,.slice (some ⟨dL,0,none⟩) 2 2),(26,zI 2),(27,zI (k:Int)),(31,.slice aw7 Rv.length aif),(32,zI (Rv.length:Int)),(33,zI (zz.1:Int))]) (fun(zz:Nat×(List (aj×Value))×Cells×Cells)=>[.l zz.2.2.1,.l zz.2.2.2,.b b4 (.cells ⟨[zI ck,zI (s:Int),zI c2,zI c3,zI c4,zI c5,zI c6]⟩ 74 (0,0)),.b b3 (.cells ⟨[.slice eT ws.length dY]⟩ 25 (0,0))]) (fun(zz:Nat×(List (aj×Value))×Cells×Cells)=>zz.1≤Rv.length∧jH rm ox zz.2.1 zz.2.2.1∧zz.2.1.map (·.1)=bx S∧MV zz.2.2.2 zz.2.1 (gU (((qM l).take k).flatMap (Hq (s:Int))++(Hq (s:Int) Rv).take zz.1))) (fun(zz:Nat×(List (aj×Value))×Cells×Cells)=>Rv.length-zz.1) (⟨0,F,LM,Z⟩) ⟨by dsimp only;omega,hI.2.1,hI.2.2.1,by simpa using hI.2.2.2⟩ [0,1,2,3] ?_
   rintro⟨i,F,LM,Z⟩ hJ K3 YZ rest
   dsimp only at hJ
   refine zD 5<|zJ 34 ((i:Int) <(Rv.length:Int)) (fun h5=>?_) fun h5=>?_
   ·
    refine zD 7 ?_
    obtain⟨x36,yg⟩:=zG Rv i
    refine ij aif 2 aw6 yg<|jl 0 (aw5 _ _ yg)<|jn fun rI=>jd 14 [0,3,0,3]<|ja ((Rv.length:Int)-1) (by omega)<|zD 1<|ja (((Rv.length:Int)-1)-(i:Int)) (by omega) ?_
    obtain⟨x51,Dc⟩:=zG Rv (((((Rv.length:Int)-1)-(i:Int))).toNat)
    refine Mj (((Rv.length:Int)-1)-(i:Int)) aif 2 aw6 Dc (by omega)<|jl 0 (aw5 _ _ Dc)<|zD 1<|aN 16 fun uv uw sB=>jn fun b54=>bC sB [1,2,3,4,5]<|aN 17 fun CL CX Dp=>jmu (kv:=ox) (F:=F) (r:=rm) (K:=144) 2 (mg (s:Int) x36) (.slice (some ⟨b54,0,none⟩) 1 1) Cp hJ.2.1 fun Lm8 hm8=>eO Dp<|zD 2<|ja ((i:Int)+1) (by omega)<|zD 2 ?_
    have hup:=MV.upd (T:=144) (b:=b54) (y:=mg s x51) hO hJ.2.2.2 hJ.2.2.1 hl (adY (List.mem_of_getElem? arb) (List.mem_of_getElem? yg))
    exact N3 YZ (⟨i+1,_,Lm8,Z++[(b54,.cells ⟨[zI (s:Int),zI x51.n,zI x51.l]⟩ 144 (0,0))]⟩) ⟨by dsimp only;omega,hm8,hup.2,by rw[eY (ah2 yg Dc),←List.append_assoc];exact hup.1⟩ (by dsimp only;omega) [[0],[3,1],[4],[5]] (Sub.refl _)
   refine zD 3<|ja ((k:Int)+1) (by omega)<|zD 2<|bO mo (⟨k+1,F,LM,Z⟩) ⟨by dsimp only;omega,hJ.2.1,hJ.2.2.1,by have:=hJ.2.2.2;rw[List.take_of_length_le (l:=Hq (s:Int) Rv) (by rw[aap];omega)] at this;rw[aks arb];exact this⟩ (by dsimp only;omega) [0,1,2,3] (Sub.refl _)
  refine zD 7<|aE q0.a (zI 0) [] [0,1] (LM++Z) bV ⟨_,_,rfl,rfl,F,LM,Z,rfl,rfl,hI.2.1,hI.2.2.1,by have:=hI.2.2.2;rwa[show k=2 by omega] at this⟩
 refine jd 5 [1,0] ?_
 obtain⟨yS,acx⟩:=zG ws s
 refine ij dY 1 sS acx ?_
 obtain⟨l16,azL,SE⟩:=cX.get acx
 obtain bb7:=hO.len _ (List.mem_of_getElem? azL)
 obtain arP:l16=l:=Option.some.inj (azL.symm.trans hl)
 obtain⟨axm,aLA,aLw,axl,rfl,aLy,aLz,aLx⟩:=SE
 refine jl 0 (sR _ _ acx)<|jd 4 [1,0] ?_
 obtain⟨rG,tI⟩:=zG ws s
 refine ij dY 1 sS tI ?_
 obtain⟨l23,azK,Eb⟩:=cX.get tI
 obtain bb4:=hO.len _ (List.mem_of_getElem? azK)
 obtain arN:l23=l:=Option.some.inj (azK.symm.trans hl)
 obtain⟨axe,aLo,aLk,axd,rfl,aLm,aLn,aLl⟩:=Eb
 refine jl 0 (sR _ _ tI)<|zD 1<|aN 6 fun ahq ahP hL6=>jc (vs:=[.slice axm l16.length axl,.func (.func 244) ⟨[]⟩ ⟨[]⟩]) [] (aeS (show bI _ _ _ _ _ from ⟨axm,aLA,aLw,axl,rfl,aLy,aLz,aLx⟩) (by omega)) ?_
 rintro v17 L17 BB
 obtain⟨yX,yV,ajS⟩:=BB.form
 subst ajS
 refine bC hL6 [1,2,3,4]<|aN 13 fun ahp ahO Sw=>jc (vs:=[.slice axe l23.length axd,.func (.func 245) ⟨[]⟩ ⟨[]⟩]) [] (aeR (show bI _ _ _ _ _ from ⟨axe,aLo,aLk,axd,rfl,aLm,aLn,aLl⟩) (by omega)) ?_
 rintro v24 L24 aze
 obtain⟨anT,anJ,aOT⟩:=aze.form
 subst aOT
 refine bC Sw [1,2,3,4,5]<|aN 14 fun Za ZO hL8=>jn fun dL=>bC hL8 [1,2,3,4,5,6]<|zD 2<|bO bM ⟨dL,(.slice yX (l16.filter fun x=>w9 x.n).length yV),(.slice anT (l23.filter fun x=>Ds x.n).length anJ),L17,L24⟩ ⟨by rw[←arP];exact BB,by rw[←arN];exact aze⟩ Nat.zero_lt_one [0,2,1,5,6,3,4] (Sub.refl _)
theorem TV{s:Int}{l:List ah}{x:ah}(h:l[i]?=some x):(H9 s l)[i]?=some (mg s x,⟨s,if w9 x.n=true then x.n+1 else x.n-1,x.l⟩):=abz h
theorem ajm{s o r:Int}{l:List ah}{x:ah}(h:l[i]?=some x):(IQ s o l r)[i]?=some (mg s x,⟨o,x.n+r,x.l⟩):=abz h
theorem raise_at{l:List ah}{x:ah}(h:l[(((l.length:Int)-1)).toNat]?=some x):q8 l=x.n+Int.tmod x.n 2:=by
 have:l[l.length-1]?=some x:=by rw[←h];congr 1;omega
 simp only[q8,this]
theorem WN{l:List ah}(h:¬(l.length:Int)>0):q8 l=0:=by
 have:l=[]:=List.eq_nil_of_length_eq_zero (by omega)
 subst this;rfl
theorem tm2(h:1≤n∧n≤9):0≤Int.tmod n 2∧Int.tmod n 2≤1:=by
 rw[Int.tmod_eq_emod_of_nonneg (by omega)]
 omega
theorem aaC{l:List ah}(h:∀x∈l,AA x):0≤q8 l∧q8 l≤10:=by
 unfold q8
 split
 ·rename_i y hy
  have h1:=(h y (List.mem_of_getElem? hy)).1
  have:=tm2 h1
  omega
 omega
theorem OZ{v:Value}{S:List (List ah)}{l:List ah}{c2 c3 c4:Int}{F:List (aj×Value)}{ro:Nat→Option Obj}(hS:cL ro v S)(hO:eP S)(hl:S[s]?=some l) (hm:jH rm ox F LM) (hk:F.map (·.1)=bx S) (hM:MV Z F id):eo zT 223 [.agg ⟨[v]⟩,.agg ⟨[zI ck,zI (s:Int),zI c2,zI c3,zI c4,zI c5,zI c6]⟩,(.map (some rm))] ro (LM++Z) (fun r Y=>∃F' L' Z',r= zI 0∧Y=L'++Z'∧jH rm ox F' L'∧F'.map (·.1)=bx S∧MV Z' F' (gU (H9 (s:Int) l))):=by
 obtain⟨ws,ht,cX⟩:=hS
 obtain⟨eT,AM,AJ,dY,rfl,AK,sS,sR⟩:=ht
 have hln:=cX.len
 have HC:=hO.two
 have IX:=(List.getElem?_eq_some_iff.1 hl).1
 have hlm:=List.mem_of_getElem? hl
 have hll:=hO.len _ hlm
 refine bA au [.l LM,.l Z] [] bn<|zD 2<|jn fun b3=>jn fun b4=>jd 9 [1,0] ?_
 obtain⟨fC,eA⟩:=zG ws s
 refine ij dY 1 sS eA ?_
 obtain⟨NY,XN,Ga⟩:=cX.get eA
 obtain aOp:=hO.len _ (List.mem_of_getElem? XN)
 obtain Si:NY=l:=Option.some.inj (XN.symm.trans hl)
 obtain aNm:=hO.ok _ (List.mem_of_getElem? XN)
 obtain⟨aoW,aLD,aLB,aaJ,rfl,aLC,aoV,aoU⟩:=Ga
 refine jl 0 (sR _ _ eA)<|zD 4<|ez [1,0,1,0,0] [] (fun(zz:Nat×(List (aj×Value))×Cells×Cells)=>[(2,(.map (some rm))),(4,zP b4),(6,zI 0),(15,.slice aoW NY.length aaJ),(16,zI (NY.length:Int)),(17,zI (zz.1:Int))]) (fun(zz:Nat×(List (aj×Value))×Cells×Cells)=>[.l zz.2.2.1,.l zz.2.2.2,.b b4 (.cells ⟨[zI ck,zI (s:Int),zI c2,zI c3,zI c4,zI c5,zI c6]⟩ 74 (0,0)),.b b3 (.cells ⟨[.slice eT ws.length dY]⟩ 25 (0,0))]) (fun(zz:Nat×(List (aj×Value))×Cells×Cells)=>zz.1≤NY.length∧jH rm ox zz.2.1 zz.2.2.1∧zz.2.1.map (·.1)=bx S∧MV zz.2.2.2 zz.2.1 (gU ((H9 (s:Int) l).take zz.1))) (fun(zz:Nat×(List (aj×Value))×Cells×Cells)=>NY.length-zz.1) (⟨0,F,LM,Z⟩) ⟨by dsimp only;omega,hm,hk,hM⟩ [2,3,0,1] ?_
 rintro⟨i,F,LM,Z⟩ hI K1 bM rest
 dsimp only at hI
 refine zD 5<|zJ 18 ((i:Int) <(NY.length:Int)) (fun h1=>?_) fun h1=>?_
 ·
  refine zD 6 ?_
  obtain⟨DK,xk⟩:=zG NY i
  refine ij aaJ 2 aoV xk<|jl 0 (aoU _ _ xk)<|jn fun b8=>jd 3 [0] ?_
  have HD:=aNm _ (List.mem_of_getElem? xk)
  have aNL:=HD.1.1
  have aNK:=HD.1.2
  refine jd 3 [0]<|ja (DK.n-1) (by omega)<|jd 6 [0]<|jp (vs:=[.agg ⟨[zI DK.n,zI DK.l]⟩]) [] [] (fun aA hs hZ=>(aDr (x:=DK)))<|zD 1<|js 25 (w9 DK.n) (fun h2=>?_) (fun h2=>?_)
  ·
   refine jd 4 [0]<|ja (DK.n+1) (by omega)<|jd 13 [3,0,3,0]<|jp (vs:=[zI (s:Int),zI (DK.n+1),zI DK.l]) [] [] (fun aA hs hZ=>gAt)<|aN 11 fun CM CY BG=>jn fun c8=>bC BG [1,2,3,4,5]<|aN 12 fun sW sZ rD=>jmu (kv:=ox) (F:=F) (r:=rm) (K:=144) 2 (mg (s:Int) DK) (.slice (some ⟨c8,0,none⟩) 1 1) Cp hI.2.1 fun Lm5 hm5=>eO rD<|zD 2<|ja ((i:Int)+1) (by omega)<|zD 2 ?_
   have hup:=MV.upd (T:=144) (b:=c8) (y:=⟨s,DK.n+1,DK.l⟩) hO hI.2.2.2 hI.2.2.1 hl (by rw[←Si];exact List.mem_of_getElem? xk)
   exact N3 bM (⟨i+1,_,Lm5,Z++[(c8,.cells ⟨[zI (s:Int),zI (DK.n+1),zI DK.l]⟩ 144 (0,0))]⟩) ⟨by dsimp only;omega,hm5,hup.2,by rw[eY (TV (by rw[←Si];exact xk))];rw[if_pos (by assumption)];exact hup.1⟩ (by dsimp only;omega) [[0],[3,1],[4],[5]] (Sub.refl _)
  refine jd 13 [3,0,3,0]<|jp (vs:=[zI (s:Int),zI (DK.n-1),zI DK.l]) [] [] (fun aA hs hZ=>gAt)<|aN 11 fun uv uw sB=>jn fun c8=>bC sB [1,2,3,4,5]<|aN 12 fun CL CX Dp=>jmu (kv:=ox) (F:=F) (r:=rm) (K:=144) 2 (mg (s:Int) DK) (.slice (some ⟨c8,0,none⟩) 1 1) Cp hI.2.1 fun Lm8 hm8=>eO Dp<|zD 2<|ja ((i:Int)+1) (by omega)<|zD 2 ?_
  have hup:=MV.upd (T:=144) (b:=c8) (y:=⟨s,DK.n-1,DK.l⟩) hO hI.2.2.2 hI.2.2.1 hl (by rw[←Si];exact List.mem_of_getElem? xk)
  exact N3 bM (⟨i+1,_,Lm8,Z++[(c8,.cells ⟨[zI (s:Int),zI (DK.n-1),zI DK.l]⟩ 144 (0,0))]⟩) ⟨by dsimp only;omega,hm8,hup.2,by rw[eY (TV (by rw[←Si];exact xk))];rw[if_neg (by rw[show w9 DK.n=false from (by assumption)];decide)];exact hup.1⟩ (by dsimp only;omega) [[0],[3,1],[4],[5]] (Sub.refl _)
 refine zD 7<|aE q0 (zI 0) [] [0,1] (LM++Z) (Sub.refl _) ⟨_,_,rfl,rfl,F,LM,Z,rfl,rfl,hI.2.1,hI.2.2.1,by have:=hI.2.2.2;rwa[List.take_of_length_le (by simp only[H9,List.length_map];rw[←Si];omega)] at this⟩
theorem akn{v:Value}{S:List (List ah)}{o:Nat}{l lo:List ah}{c3 c4:Int}{F:List (aj×Value)}{ro:Nat→Option Obj}(hS:cL ro v S)(hO:eP S)(hl:S[s]?=some l) (hm:jH rm ox F LM) (hk:F.map (·.1)=bx S) (hM:MV Z F id) (zv:S[o]?=some lo):eo zT 225 [.agg ⟨[v]⟩,.agg ⟨[zI ck,zI (s:Int),zI (o:Int),zI c3,zI c4,zI c5,zI c6]⟩,(.map (some rm))] ro (LM++Z) (fun r Y=>∃F' L' Z',r= zI 0∧Y=L'++Z'∧jH rm ox F' L'∧F'.map (·.1)=bx S∧MV Z' F' (gU (IQ (s:Int) (o:Int) l (q8 lo)))):=by
 obtain⟨ws,ht,cX⟩:=hS
 obtain⟨eT,AM,AJ,dY,rfl,AK,sS,sR⟩:=ht
 have hln:=cX.len
 have HC:=hO.two
 have IX:=(List.getElem?_eq_some_iff.1 hl).1
 have hlm:=List.mem_of_getElem? hl
 have hll:=hO.len _ hlm
 have hso:=(List.getElem?_eq_some_iff.1 zv).1
 have azA:=List.mem_of_getElem? zv
 have hr:=aaC (hO.ok _ azA)
 have bcb:=hO.len _ azA
 refine bA au [.l LM,.l Z] [] bn<|zD 2<|jn fun b3=>jn fun b4=>jd 8 [1,0] ?_
 obtain⟨Tz,FD⟩:=zG ws s
 refine ij dY 1 sS FD ?_
 obtain⟨l18,are,h18⟩:=cX.get FD
 obtain bb6:=hO.len _ (List.mem_of_getElem? are)
 obtain Sf:l18=l:=Option.some.inj (are.symm.trans hl)
 obtain jF:=hO.ok _ (List.mem_of_getElem? are)
 obtain⟨axk,baa,aZ8,aoT,rfl,aZ9,aLv,aLu⟩:=h18
 refine jl 0 (sR _ _ FD)<|jd 4 [1,0] ?_
 obtain⟨uG,sq⟩:=zG ws o
 refine ij dY 1 sS sq ?_
 obtain⟨Rw,Sa,h24⟩:=cX.get sq
 obtain azy:=hO.len _ (List.mem_of_getElem? Sa)
 obtain adM:Rw=lo:=Option.some.inj (Sa.symm.trans zv)
 obtain ayG:=hO.ok _ (List.mem_of_getElem? Sa)
 obtain⟨aoS,axc,axa,aaI,rfl,axb,aii,aih⟩:=h24
 refine jl 0 (sR _ _ sq)<|zD 10<|ja ((l18.length:Int)+(Rw.length:Int)) (by omega)<|zD 2<|zJ 30 (((l18.length:Int)+(Rw.length:Int))>8) (fun h1=>?_) fun h1=>?_
 ·
  exfalso;omega
 refine zD 18<|IT [1,1,1,1,1] [] (fun(zz:Int)=>[(2,(.map (some rm))),(4,zP b4),(6,zI 0),(7,.slice axk l18.length aoT),(9,zI zz)]) (fun(zz:Int)=>[.l LM,.l Z,.b b4 (.cells ⟨[zI ck,zI (s:Int),zI (o:Int),zI c3,zI c4,zI c5,zI c6]⟩ 74 (0,0)),.b b3 (.cells ⟨[.slice eT ws.length dY]⟩ 25 (0,0))]) (fun(zz:Int)=>zz=q8 lo) ?_ (fun K1 bM=>?_)
 ·
  rintro q hQ rest
  refine zD 8<|ez [1,1,1,1,1,0,1,0,0] [] (fun(zz:Nat×(List (aj×Value))×Cells×Cells)=>[(2,(.map (some rm))),(4,zP b4),(9,zI q),(49,.slice axk l18.length aoT),(50,zI (l18.length:Int)),(51,zI (zz.1:Int))]) (fun(zz:Nat×(List (aj×Value))×Cells×Cells)=>[.l zz.2.2.1,.l zz.2.2.2,.b b4 (.cells ⟨[zI ck,zI (s:Int),zI (o:Int),zI c3,zI c4,zI c5,zI c6]⟩ 74 (0,0)),.b b3 (.cells ⟨[.slice eT ws.length dY]⟩ 25 (0,0))]) (fun(zz:Nat×(List (aj×Value))×Cells×Cells)=>zz.1≤l18.length∧jH rm ox zz.2.1 zz.2.2.1∧zz.2.1.map (·.1)=bx S∧MV zz.2.2.2 zz.2.1 (gU ((IQ (s:Int) (o:Int) l (q8 lo)).take zz.1))) (fun(zz:Nat×(List (aj×Value))×Cells×Cells)=>l18.length-zz.1) (⟨0,F,LM,Z⟩) ⟨by dsimp only;omega,hm,hk,hM⟩ [0,1,2,3] ?_
  rintro⟨i,F,LM,Z⟩ hI K2 mo rest
  dsimp only at hI
  refine zD 5<|zJ 52 ((i:Int) <(l18.length:Int)) (fun h2=>?_) fun h2=>?_
  ·
   refine zD 6 ?_
   obtain⟨x53,acs⟩:=zG l18 i
   refine ij aoT 2 aLv acs<|jl 0 (aLu _ _ acs)<|jn fun jq=>jd 4 [0] ?_
   have HD:=jF _ (List.mem_of_getElem? acs)
   have aNL:=HD.1.1
   have aNK:=HD.1.2
   refine jd 4 [0]<|ja (x53.n+q) (by omega)<|zD 2<|zJ 59 ((x53.n+q)>40) (fun h3=>?_) fun h3=>?_
   ·
    exfalso;omega
   refine jd 13 [3,0,3,0]<|ja (x53.n+q) (by omega)<|jd 2 [0]<|jp (vs:=[zI (o:Int),zI (x53.n+q),zI x53.l]) [] [] (fun aA hs hZ=>gAt)<|aN 14 fun sW sZ rD=>jn fun b74=>bC rD [1,2,3,4,5]<|aN 15 fun uv uw sB=>jmu (kv:=ox) (F:=F) (r:=rm) (K:=144) 2 (mg (s:Int) x53) (.slice (some ⟨b74,0,none⟩) 1 1) Cp hI.2.1 fun Lm6 hm6=>eO sB<|zD 2<|ja ((i:Int)+1) (by omega)<|zD 2 ?_
   have hup:=MV.upd (T:=144) (b:=b74) (y:=⟨o,x53.n+q,x53.l⟩) hO hI.2.2.2 hI.2.2.1 hl (by rw[←Sf];exact List.mem_of_getElem? acs)
   exact N3 mo (⟨i+1,_,Lm6,Z++[(b74,.cells ⟨[zI (o:Int),zI (x53.n+q),zI x53.l]⟩ 144 (0,0))]⟩) ⟨by dsimp only;omega,hm6,hup.2,by rw[eY (ajm (by rw[←Sf];exact acs))];have e:=hup.1;rw[hQ] at e ⊢;exact e⟩ (by dsimp only;omega) [[0],[3,1],[4],[5]] (Sub.refl _)
  refine zD 7<|aE q0 (zI 0) [] [0,1] (LM++Z) (Sub.refl _) ⟨_,_,rfl,rfl,F,LM,Z,rfl,rfl,hI.2.1,hI.2.2.1,by have:=hI.2.2.2;rwa[List.take_of_length_le (by simp only[IQ,List.length_map];rw[←Sf];omega)] at this⟩
 refine zJ 34 ((Rw.length:Int)>0) (fun h7=>?_) fun h7=>?_
 ·
  refine zD 4<|ja ((Rw.length:Int)-1) (by omega) ?_
  obtain⟨x38,KD⟩:=zG Rw ((((Rw.length:Int)-1)).toNat)
  refine Mj ((Rw.length:Int)-1) aaI 2 aii KD (by omega)<|zD 1<|jl 0 (aih _ _ KD)<|zD 2<|ja ((Rw.length:Int)-1) (by omega) ?_
  obtain⟨Wc,HA⟩:=zG Rw ((((Rw.length:Int)-1)).toNat)
  refine Mj ((Rw.length:Int)-1) aaI 2 aii HA (by omega)<|zD 1<|jl 0 (aih _ _ HA)<|zD 1<|ja (x38.n+(Int.tmod Wc.n 2)) (by have h1:=(ayG _ (List.mem_of_getElem? KD)).1;have h2:=(ayG _ (List.mem_of_getElem? HA)).1;have:=tm2 h2;omega) ?_
  refine zD 2 ?_
  have hra:=raise_at KD
  rw[adM] at hra
  exact bO bM (x38.n+(Int.tmod Wc.n 2)) (by rw[←adM];have e:x38=Wc:=Option.some.inj (KD.symm.trans HA);subst e;exact(raise_at KD).symm) Nat.zero_lt_one [2,3,0,1] (Sub.refl _)
 refine zD 2<|bO bM 0 (by rw[←adM];exact(WN (by omega)).symm) Nat.zero_lt_one [2,3,0,1] (Sub.refl _)
end Go.L
