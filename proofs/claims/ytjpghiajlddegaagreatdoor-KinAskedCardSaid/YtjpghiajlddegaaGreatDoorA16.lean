/- Part 16 of the proof: a program logic, contracts, a theorem on goroutines. -/
import Derived.Test.YtjpghiajlddegaaGreatDoorA15
set_option maxRecDepth 100000
set_option linter.all false
namespace Go.L
open Go Go.Conc Go.Proofs
variable {K:aT} {fi ca l:List Value} {f:Nat} {g:FuncId} {b:Int}
def aFX(n:Nat):Prop:=∀(ro:Nat→Option Obj) (v:Value) (xs:List aA) (L:Cells) (a m b:Int),aD v 8 124 cU xs L→xs.length≤100000→gx xs→(0≤a∧a <m∧m <b∧b≤xs.length)→(b-a).toNat=n→
 eI zT 188 [v,zI a,zI m,zI b,.func (.func 109) ⟨[]⟩ ⟨[]⟩] ro L (fun _ Y=>wj v xs Y)
theorem abo{v:Value}{xs:List aA}{L:Cells}{a n:Int}{ro:Nat→Option Obj}(ho:aD v 8 124 cU xs L)(hN:xs.length≤100000)(hP:gx xs)(Ee:(0≤a∧0≤b∧0≤n)∧a+n≤xs.length∧b+n≤xs.length∧a≠b):eI zT 233 [v,zI a,zI b,zI n,.func (.func 109) ⟨[]⟩ ⟨[]⟩] ro L (fun r Y=>wj v xs Y):=by
 refine bI av [.l L] [] bB<|zD 5<|eG [1,0,0] [] (fun(zz:Int×(List aA)×Cells)=>[(0,v),(1,zI a),(2,zI b),(3,zI n),(10,zI zz.1)]) (fun(zz:Int×(List aA)×Cells)=>[.l zz.2.2]) (fun(zz:Int×(List aA)×Cells)=>(0≤zz.1∧zz.1≤n)∧aD v 8 124 cU zz.2.1 zz.2.2∧zz.2.1.Perm xs) (fun(zz:Int×(List aA)×Cells)=>(n-zz.1).toNat) (⟨0,xs,L⟩) ⟨by dsimp only;omega,ho,.refl _⟩ [0] ?_
 rintro⟨i,ys,L⟩ hI K1 bU rest
 dsimp only at hI
 have VK:=hI.2.2.length_eq
 have hyp:=hP.perm hI.2.2
 refine zD 7<|zJ 13 (i <n) (fun h1=>?_) fun h1=>?_
 ·
  refine zD 8<|ja (a+i) (by omega)<|zD 3<|ja (b+i) (by omega)<|zD 3<|ja (b+i) (by omega) ?_
  obtain⟨Xb,arS⟩:=zG ys ((b+i).toNat) (by first|omega| (simp only[List.length_set];omega))
  refine pS (b+i) 8 hI.2.1 arS (Int.toNat_of_nonneg (show 0≤(b+i)∧(b+i) <((ys).length:Int) from (by first|omega| (simp only[List.length_set];omega))).1).symm (fun b28 aQ4=>?_)
  refine oQ 0 [0] L (fun s _ hZ=>cG hI.2.1 aQ4 hZ arS)<|zD 3<|ja (a+i) (by omega) ?_
  obtain⟨Xa,Ls⟩:=zG ys ((a+i).toNat) (by first|omega| (simp only[List.length_set];omega))
  refine pS (a+i) 8 hI.2.1 Ls (Int.toNat_of_nonneg (show 0≤(a+i)∧(a+i) <((ys).length:Int) from (by first|omega| (simp only[List.length_set];omega))).1).symm (fun b34 aQ1=>?_)
  refine oQ 0 [0] L (fun s _ hZ=>cG hI.2.1 aQ1 hZ Ls) ?_
  obtain⟨x36,yj⟩:=zG ys ((a+i).toNat) (by first|omega| (simp only[List.length_set];omega))
  refine pS (a+i) 8 hI.2.1 yj (Int.toNat_of_nonneg (show 0≤(a+i)∧(a+i) <((ys).length:Int) from (by first|omega| (simp only[List.length_set];omega))).1).symm (fun dK atH=>?_)
  refine aN 21 fun AY A5 Ah=>QF 0 0 [zI Xb.past,zI Xb.w0,zI Xb.w1,zI Xb.w2,zI Xb.w3,zI Xb.gone,zI Xb.new,zI Xb.ai] Xb hI.2.1 atH yj rfl rfl (Nat.le_of_ble_eq_true rfl) fun L3 ho4=>gX Ah [] ?_
  obtain⟨x37,Yp⟩:=zG ((ys.set ((a+i).toNat) Xb)) ((b+i).toNat) (by first|omega| (simp only[List.length_set];omega))
  refine pS (b+i) 8 ho4 Yp (Int.toNat_of_nonneg (show 0≤(b+i)∧(b+i) <(((ys.set ((a+i).toNat) Xb)).length:Int) from (by first|omega| (simp only[List.length_set];omega))).1).symm (fun b37 aQZ=>?_)
  refine aN 23 fun qZ q6 p7=>QF 0 0 [zI Xa.past,zI Xa.w0,zI Xa.w1,zI Xa.w2,zI Xa.w3,zI Xa.gone,zI Xa.new,zI Xa.ai] Xa ho4 aQZ Yp rfl rfl (Nat.le_of_ble_eq_true rfl) fun L6 Yy=>dV p7<|zD 3<|ja (i+1) (by omega)<|zD 2<|bO bU (⟨(i+1),((ys.set ((a+i).toNat) Xb).set ((b+i).toNat) Xa),L6⟩) ⟨by dsimp only;omega,Yy,(nt Ls arS).trans hI.2.2⟩ (by dsimp only;omega) [0] (Sub.refl _)
 refine zD 2<|aJ q0 (.tuple ⟨[]⟩) [] [0] L (Sub.refl _) ⟨_,_,rfl,rfl,ys,hI.2.2,hI.2.1⟩
theorem aLH{v:Value}{xs:List aA}{L:Cells}{a m:Int}{ro:Nat→Option Obj}(ho:aD v 8 124 cU xs L)(hN:xs.length≤100000)(hP:gx xs)(Ee:0≤a∧a <m∧m <b∧b≤xs.length):eI zT 213 [v,zI a,zI m,zI b,.func (.func 109) ⟨[]⟩ ⟨[]⟩] ro L (fun r Y=>wj v xs Y):=by
 refine bI av [.l L] [] bB<|zD 4<|ja (m-a) (by omega)<|zD 6<|ja (b-m) (by omega)<|zD 4<|eG [1,1,0,0,0] [] (fun(zz:Int×Int×(List aA)×Cells)=>[(0,v),(2,zI m),(4,.func (.func 109) ⟨[]⟩ ⟨[]⟩),(10,zI zz.1),(11,zI zz.2.1)]) (fun(zz:Int×Int×(List aA)×Cells)=>[.l zz.2.2.2]) (fun(zz:Int×Int×(List aA)×Cells)=>((0 <zz.1∧zz.1≤m-a)∧0 <zz.2.1∧zz.2.1≤b-m)∧aD v 8 124 cU zz.2.2.1 zz.2.2.2∧zz.2.2.1.Perm xs) (fun(zz:Int×Int×(List aA)×Cells)=>(zz.1+zz.2.1).toNat) (⟨(m-a),(b-m),xs,L⟩) ⟨by dsimp only;omega,ho,.refl _⟩ [0] ?_
 rintro⟨i,j,ys,L⟩ hI K1 bU rest
 dsimp only at hI
 have VK:=hI.2.2.length_eq
 have hyp:=hP.perm hI.2.2
 refine zD 7<|js 20 (!decide (i=j)) (fun h1=>?_) (fun h1=>?_)
 ·
  replace h1:=of_decide_eq_false (by simpa using h1)
  refine zD 9<|zJ 23 (i>j) (fun h2=>?_) fun h2=>?_
  ·
   refine zD 6<|ja (m-i) (by omega)<|zD 3<|jc (vs:=[v,zI (m-i),zI m,zI j,.func (.func 109) ⟨[]⟩ ⟨[]⟩]) [0] (abo hI.2.1 (by omega) hyp (by omega)) ?_
   rintro aZQ Y31 ⟨aI7,asl,aO8⟩
   have aV7:=asl.length_eq
   have aV0:=gx.perm hyp asl
   refine zD 4<|ja (i-j) (by omega)<|zD 2<|bO bU (⟨(i-j),j,aI7,Y31⟩) ⟨by dsimp only;omega,aO8,(asl.trans hI.2.2)⟩ (by dsimp only;omega) [0] (Sub.refl _)
  refine zD 6<|ja (m-i) (by omega)<|zD 2<|ja (m+j) (by omega)<|zD 1<|ja ((m+j)-i) (by omega)<|zD 2<|jc (vs:=[v,zI (m-i),zI ((m+j)-i),zI i,.func (.func 109) ⟨[]⟩ ⟨[]⟩]) [0] (abo hI.2.1 (by omega) hyp (by omega)) ?_
  rintro aZO Y46 ⟨aI5,asi,aO4⟩
  have aV5:=asi.length_eq
  have aVY:=gx.perm hyp asi
  refine zD 4<|ja (j-i) (by omega)<|zD 2<|bO bU (⟨i,(j-i),aI5,Y46⟩) ⟨by dsimp only;omega,aO4,(asi.trans hI.2.2)⟩ (by dsimp only;omega) [0] (Sub.refl _)
 replace h1:=of_decide_eq_true (by simpa using h1)
 refine zD 6<|ja (m-i) (by omega)<|zD 3<|jc (vs:=[v,zI (m-i),zI m,zI i,.func (.func 109) ⟨[]⟩ ⟨[]⟩]) [0] (abo hI.2.1 (by omega) hyp (by omega)) ?_
 rintro aZN Y57 ⟨aY3,asg,akI⟩
 have aV4:=asg.length_eq
 have aVX:=gx.perm hyp asg
 refine zD 1<|aJ q0 (.tuple ⟨[]⟩) [] [0] Y57 (Sub.refl _) ⟨_,_,rfl,rfl,_,(asg.trans hI.2.2),akI⟩
theorem axJ{n:Nat}{v:Value}{xs:List aA}{L:Cells}{a m:Int}{ro:Nat→Option Obj}(ih:∀k,k <n→aFX k)(ho:aD v 8 124 cU xs L)(hN:xs.length≤100000)(hP:gx xs)(Ee:0≤a∧a <m∧m <b∧b≤xs.length)(hn:(b-a).toNat=n):eI zT 188 [v,zI a,zI m,zI b,.func (.func 109) ⟨[]⟩ ⟨[]⟩] ro L (fun r Y=>wj v xs Y):=by
 refine bI av [.l L] [] bB<|zD 5<|ja (m-a) (by omega)<|zD 2<|zJ 28 ((m-a)=1) (fun h1=>?_) fun h1=>?_
 ·
  refine zD 13<|eG [0,1,0,1,1,0,0,0] [] (fun(zz:Int×Int)=>[(0,v),(1,zI a),(2,zI m),(3,zI b),(4,.func (.func 109) ⟨[]⟩ ⟨[]⟩),(10,zI zz.1),(11,zI zz.2)]) (fun(zz:Int×Int)=>[.l L]) (fun(zz:Int×Int)=>(m≤zz.1∧zz.1≤zz.2)∧zz.2≤b) (fun(zz:Int×Int)=>(zz.2-zz.1).toNat) (⟨m,b⟩) (by dsimp only;omega) [0] ?_
  rintro⟨i,j⟩ hI K1 bU rest
  dsimp only at hI
  refine zD 7<|zJ 33 (i <j) (fun h2=>?_) fun h2=>?_
  ·
   refine zD 7<|ja (i+j) (by omega)<|zD 6 ?_
   have hh:=Ed (x:=i+j) (by omega)
   refine zD 4 ?_
   obtain⟨x43,arP⟩:=zG xs ((IntKind.i64.wrap (aV .u64 (IntKind.u64.wrap (i+j)) 1)).toNat) (by first|omega| (simp only[List.length_set];omega))
   refine pS (IntKind.i64.wrap (aV .u64 (IntKind.u64.wrap (i+j)) 1)) 8 ho arP (Int.toNat_of_nonneg (show 0≤(IntKind.i64.wrap (aV .u64 (IntKind.u64.wrap (i+j)) 1))∧(IntKind.i64.wrap (aV .u64 (IntKind.u64.wrap (i+j)) 1)) <((xs).length:Int) from (by first|omega| (simp only[List.length_set];omega))).1).symm (fun b43 aQV=>?_)
   refine oQ 0 [0] L (fun s _ hZ=>cG ho aQV hZ arP)<|zD 2 ?_
   obtain⟨x47,SG⟩:=zG xs (a.toNat) (by first|omega| (simp only[List.length_set];omega))
   refine pS a 8 ho SG (Int.toNat_of_nonneg (show 0≤a∧a <((xs).length:Int) from (by first|omega| (simp only[List.length_set];omega))).1).symm (fun b47 aQU=>?_)
   refine oQ 0 [0] L (fun s _ hZ=>cG ho aQU hZ SG)<|aN 9 fun AY A5 Ah=>jp (vs:=[.agg ⟨[zI x43.past,zI x43.w0,zI x43.w1,zI x43.w2,zI x43.w3,zI x43.gone,zI x43.new,zI x43.ai]⟩,.agg ⟨[zI x47.past,zI x47.w0,zI x47.w1,zI x47.w2,zI x47.w3,zI x47.gone,zI x47.new,zI x47.ai]⟩]) [] [] (fun aE hs hZ=>(akk (x:=x43) (y:=x47) (hP _ (List.mem_of_getElem? arP)) (hP _ (List.mem_of_getElem? SG))))<|bD Ah [0]<|zD 2<|zJ 50 ((x43.past-x47.past) <0) (fun h4=>?_) fun h4=>?_
   ·
    refine zD 3<|ja ((IntKind.i64.wrap (aV .u64 (IntKind.u64.wrap (i+j)) 1))+1) (by omega)<|zD 2<|bO bU (⟨((IntKind.i64.wrap (aV .u64 (IntKind.u64.wrap (i+j)) 1))+1),j⟩) (by dsimp only;omega) (by dsimp only;omega) [0] (Sub.refl _)
   refine zD 5<|bO bU (⟨i,(IntKind.i64.wrap (aV .u64 (IntKind.u64.wrap (i+j)) 1))⟩) (by dsimp only;omega) (by dsimp only;omega) [0] (Sub.refl _)
  refine zD 9<|eG [0,1,0,1,1,1,0,1,0,0] [] (fun(zz:Int×(List aA)×Cells)=>[(0,v),(1,zI a),(2,zI m),(3,zI b),(4,.func (.func 109) ⟨[]⟩ ⟨[]⟩),(10,zI i),(13,zI zz.1)]) (fun(zz:Int×(List aA)×Cells)=>[.l zz.2.2]) (fun(zz:Int×(List aA)×Cells)=>a≤zz.1∧aD v 8 124 cU zz.2.1 zz.2.2∧zz.2.1.Perm xs) (fun(zz:Int×(List aA)×Cells)=>(i-zz.1).toNat) (⟨a,xs,L⟩) ⟨by dsimp only;omega,ho,.refl _⟩ [0] ?_
  rintro⟨k,ys,L⟩ hJ K3 ZW rest
  dsimp only at hJ
  have VK:=hJ.2.2.length_eq
  have hyp:=hP.perm hJ.2.2
  refine zD 5<|ja (i-1) (by omega)<|zD 2<|zJ 58 (k <(i-1)) (fun h5=>?_) fun h5=>?_
  ·
   refine zD 9<|ja (k+1) (by omega)<|zD 2<|ja (k+1) (by omega) ?_
   obtain⟨Q4,Yo⟩:=zG ys ((k+1).toNat) (by first|omega| (simp only[List.length_set];omega))
   refine pS (k+1) 8 hJ.2.1 Yo (Int.toNat_of_nonneg (show 0≤(k+1)∧(k+1) <((ys).length:Int) from (by first|omega| (simp only[List.length_set];omega))).1).symm (fun b69 atF=>?_)
   refine oQ 0 [0] L (fun s _ hZ=>cG hJ.2.1 atF hZ Yo)<|zD 2 ?_
   obtain⟨x73,Yn⟩:=zG ys (k.toNat) (by first|omega| (simp only[List.length_set];omega))
   refine pS k 8 hJ.2.1 Yn (Int.toNat_of_nonneg (show 0≤k∧k <((ys).length:Int) from (by first|omega| (simp only[List.length_set];omega))).1).symm (fun b73 aQP=>?_)
   refine oQ 0 [0] L (fun s _ hZ=>cG hJ.2.1 aQP hZ Yn) ?_
   obtain⟨x75,SF⟩:=zG ys (k.toNat) (by first|omega| (simp only[List.length_set];omega))
   refine pS k 8 hJ.2.1 SF (Int.toNat_of_nonneg (show 0≤k∧k <((ys).length:Int) from (by first|omega| (simp only[List.length_set];omega))).1).symm (fun b75 aQN=>?_)
   refine aN 15 fun rK rR qz=>QF 0 0 [zI Q4.past,zI Q4.w0,zI Q4.w1,zI Q4.w2,zI Q4.w3,zI Q4.gone,zI Q4.new,zI Q4.ai] Q4 hJ.2.1 aQN SF rfl rfl (Nat.le_of_ble_eq_true rfl) fun L7 ho8=>gX qz [] ?_
   obtain⟨x76,azO⟩:=zG ((ys.set k.toNat Q4)) ((k+1).toNat) (by first|omega| (simp only[List.length_set];omega))
   refine pS (k+1) 8 ho8 azO (Int.toNat_of_nonneg (show 0≤(k+1)∧(k+1) <(((ys.set k.toNat Q4)).length:Int) from (by first|omega| (simp only[List.length_set];omega))).1).symm (fun b76 aQM=>?_)
   refine aN 17 fun yY y8 Ag=>QF 0 0 [zI x73.past,zI x73.w0,zI x73.w1,zI x73.w2,zI x73.w3,zI x73.gone,zI x73.new,zI x73.ai] x73 ho8 aQM azO rfl rfl (Nat.le_of_ble_eq_true rfl) fun ZA asu=>dV Ag<|zD 3<|ja (k+1) (by omega)<|zD 2<|bO ZW (⟨(k+1),((ys.set k.toNat Q4).set ((k+1).toNat) x73),ZA⟩) ⟨by dsimp only;omega,asu,(nt Yn Yo).trans hJ.2.2⟩ (by dsimp only;omega) [0] (Sub.refl _)
  refine zD 3<|aJ q0 (.tuple ⟨[]⟩) [] [0] L (Sub.refl _) ⟨_,_,rfl,rfl,_,hJ.2.2,hJ.2.1⟩
 refine zD 7<|ja (b-m) (by omega)<|zD 2<|zJ 80 ((b-m)=1) (fun HH=>?_) fun HH=>?_
 ·
  refine zD 13<|eG [1,0,1,0,1,1,0,0,0] [] (fun(zz:Int×Int)=>[(0,v),(1,zI a),(2,zI m),(3,zI b),(4,.func (.func 109) ⟨[]⟩ ⟨[]⟩),(14,zI zz.1),(15,zI zz.2)]) (fun(zz:Int×Int)=>[.l L]) (fun(zz:Int×Int)=>(a≤zz.1∧zz.1≤zz.2)∧zz.2≤m) (fun(zz:Int×Int)=>(zz.2-zz.1).toNat) (⟨a,m⟩) (by dsimp only;omega) [0] ?_
  rintro⟨i,j⟩ hI K6 hK6 rest
  dsimp only at hI
  refine zD 7<|zJ 85 (i <j) (fun AV=>?_) fun AV=>?_
  ·
   refine zD 7<|ja (i+j) (by omega)<|zD 6 ?_
   have hh:=Ed (x:=i+j) (by omega)
   refine zD 4 ?_
   obtain⟨x95,arN⟩:=zG xs (m.toNat) (by first|omega| (simp only[List.length_set];omega))
   refine pS m 8 ho arN (Int.toNat_of_nonneg (show 0≤m∧m <((xs).length:Int) from (by first|omega| (simp only[List.length_set];omega))).1).symm (fun b95 aQK=>?_)
   refine oQ 0 [0] L (fun s _ hZ=>cG ho aQK hZ arN)<|zD 2 ?_
   obtain⟨x99,arM⟩:=zG xs ((IntKind.i64.wrap (aV .u64 (IntKind.u64.wrap (i+j)) 1)).toNat) (by first|omega| (simp only[List.length_set];omega))
   refine pS (IntKind.i64.wrap (aV .u64 (IntKind.u64.wrap (i+j)) 1)) 8 ho arM (Int.toNat_of_nonneg (show 0≤(IntKind.i64.wrap (aV .u64 (IntKind.u64.wrap (i+j)) 1))∧(IntKind.i64.wrap (aV .u64 (IntKind.u64.wrap (i+j)) 1)) <((xs).length:Int) from (by first|omega| (simp only[List.length_set];omega))).1).symm (fun b99 aQJ=>?_)
   refine oQ 0 [0] L (fun s _ hZ=>cG ho aQJ hZ arM)<|aN 9 fun aiy aiU Ti=>jp (vs:=[.agg ⟨[zI x95.past,zI x95.w0,zI x95.w1,zI x95.w2,zI x95.w3,zI x95.gone,zI x95.new,zI x95.ai]⟩,.agg ⟨[zI x99.past,zI x99.w0,zI x99.w1,zI x99.w2,zI x99.w3,zI x99.gone,zI x99.new,zI x99.ai]⟩]) [] [] (fun aE hs hZ=>(akk (x:=x95) (y:=x99) (hP _ (List.mem_of_getElem? arN)) (hP _ (List.mem_of_getElem? arM))))<|bD Ti [0]<|zD 3<|js 103 (!(decide ((x95.past-x99.past) <0))) (fun Dw=>?_) (fun Dw=>?_)
   ·
    try simp only[zB] at Dw
    refine zD 3<|ja ((IntKind.i64.wrap (aV .u64 (IntKind.u64.wrap (i+j)) 1))+1) (by omega)<|zD 2<|bO hK6 (⟨((IntKind.i64.wrap (aV .u64 (IntKind.u64.wrap (i+j)) 1))+1),j⟩) (by dsimp only;omega) (by dsimp only;omega) [0] (Sub.refl _)
   try simp only[zB] at Dw
   refine zD 5<|bO hK6 (⟨i,(IntKind.i64.wrap (aV .u64 (IntKind.u64.wrap (i+j)) 1))⟩) (by dsimp only;omega) (by dsimp only;omega) [0] (Sub.refl _)
  refine zD 9<|eG [1,0,1,0,1,1,1,0,1,0,0] [] (fun(zz:Int×(List aA)×Cells)=>[(0,v),(1,zI a),(2,zI m),(3,zI b),(4,.func (.func 109) ⟨[]⟩ ⟨[]⟩),(14,zI i),(17,zI zz.1)]) (fun(zz:Int×(List aA)×Cells)=>[.l zz.2.2]) (fun(zz:Int×(List aA)×Cells)=>(a≤i∧zz.1≤m)∧aD v 8 124 cU zz.2.1 zz.2.2∧zz.2.1.Perm xs) (fun(zz:Int×(List aA)×Cells)=>(zz.1-i).toNat) (⟨m,xs,L⟩) ⟨by dsimp only;omega,ho,.refl _⟩ [0] ?_
  rintro⟨k,ys,L⟩ hJ K8 hK8 rest
  dsimp only at hJ
  have VK:=hJ.2.2.length_eq
  have hyp:=hP.perm hJ.2.2
  refine zD 7<|zJ 110 (k>i) (fun Ii=>?_) fun Ii=>?_
  ·
   refine zD 9<|ja (k-1) (by omega)<|zD 2<|ja (k-1) (by omega) ?_
   obtain⟨A0,adM⟩:=zG ys ((k-1).toNat) (by first|omega| (simp only[List.length_set];omega))
   refine pS (k-1) 8 hJ.2.1 adM (Int.toNat_of_nonneg (show 0≤(k-1)∧(k-1) <((ys).length:Int) from (by first|omega| (simp only[List.length_set];omega))).1).symm (fun bet aBP=>?_)
   refine oQ 0 [0] L (fun s _ hZ=>cG hJ.2.1 aBP hZ adM)<|zD 2 ?_
   obtain⟨HP,adL⟩:=zG ys (k.toNat) (by first|omega| (simp only[List.length_set];omega))
   refine pS k 8 hJ.2.1 adL (Int.toNat_of_nonneg (show 0≤k∧k <((ys).length:Int) from (by first|omega| (simp only[List.length_set];omega))).1).symm (fun bes aBO=>?_)
   refine oQ 0 [0] L (fun s _ hZ=>cG hJ.2.1 aBO hZ adL) ?_
   obtain⟨aZa,anv⟩:=zG ys (k.toNat) (by first|omega| (simp only[List.length_set];omega))
   refine pS k 8 hJ.2.1 anv (Int.toNat_of_nonneg (show 0≤k∧k <((ys).length:Int) from (by first|omega| (simp only[List.length_set];omega))).1).symm (fun ber aBN=>?_)
   refine aN 15 fun W7 Xi Tg=>QF 0 0 [zI A0.past,zI A0.w0,zI A0.w1,zI A0.w2,zI A0.w3,zI A0.gone,zI A0.new,zI A0.ai] A0 hJ.2.1 aBN anv rfl rfl (Nat.le_of_ble_eq_true rfl) fun L18 aAE=>gX Tg [] ?_
   obtain⟨aY9,adK⟩:=zG ((ys.set k.toNat A0)) ((k-1).toNat) (by first|omega| (simp only[List.length_set];omega))
   refine pS (k-1) 8 aAE adK (Int.toNat_of_nonneg (show 0≤(k-1)∧(k-1) <(((ys.set k.toNat A0)).length:Int) from (by first|omega| (simp only[List.length_set];omega))).1).symm (fun MH aBM=>?_)
   refine aN 17 fun Ek EG vw=>QF 0 0 [zI HP.past,zI HP.w0,zI HP.w1,zI HP.w2,zI HP.w3,zI HP.gone,zI HP.new,zI HP.ai] HP aAE aBM adK rfl rfl (Nat.le_of_ble_eq_true rfl) fun L21 aPa=>dV vw<|zD 3<|ja (k-1) (by omega)<|zD 2<|bO hK8 (⟨(k-1),((ys.set k.toNat A0).set ((k-1).toNat) HP),L21⟩) ⟨by dsimp only;omega,aPa,(nt adL adM).trans hJ.2.2⟩ (by dsimp only;omega) [0] (Sub.refl _)
  refine zD 3<|aJ q0 (.tuple ⟨[]⟩) [] [0] L (Sub.refl _) ⟨_,_,rfl,rfl,_,hJ.2.2,hJ.2.1⟩
 refine zD 6<|ja (a+b) (by omega)<|zD 6 ?_
 have bcB:=Ed (x:=a+b) (by omega)
 refine zD 3<|ja ((IntKind.i64.wrap (aV .u64 (IntKind.u64.wrap (a+b)) 1))+m) (by omega)<|zD 14<|Hs [1,1,1,1,1,1] [] (fun(zz:Int×Int)=>[(0,v),(1,zI a),(2,zI m),(3,zI b),(4,.func (.func 109) ⟨[]⟩ ⟨[]⟩),(18,zI (IntKind.i64.wrap (aV .u64 (IntKind.u64.wrap (a+b)) 1))),(19,zI ((IntKind.i64.wrap (aV .u64 (IntKind.u64.wrap (a+b)) 1))+m)),(20,zI zz.1),(21,zI zz.2)]) (fun(zz:Int×Int)=>[.l L]) (fun(zz:Int×Int)=>(a≤zz.1∧zz.1≤zz.2)∧zz.2≤b∧a≤((IntKind.i64.wrap (aV .u64 (IntKind.u64.wrap (a+b)) 1))+m)-zz.2∧((IntKind.i64.wrap (aV .u64 (IntKind.u64.wrap (a+b)) 1))+m)-zz.1≤b) ?_ (fun K11 aD7=>?_)
 ·
  rintro⟨s0,r0⟩ hC rest
  dsimp only at hC
  refine zD 3<|ja (((IntKind.i64.wrap (aV .u64 (IntKind.u64.wrap (a+b)) 1))+m)-1) (by omega)<|zD 4<|eG [1,1,1,1,1,1,1,0,0,0] [] (fun(zz:Int×Int)=>[(0,v),(1,zI a),(2,zI m),(3,zI b),(4,.func (.func 109) ⟨[]⟩ ⟨[]⟩),(18,zI (IntKind.i64.wrap (aV .u64 (IntKind.u64.wrap (a+b)) 1))),(19,zI ((IntKind.i64.wrap (aV .u64 (IntKind.u64.wrap (a+b)) 1))+m)),(20,zI zz.1),(21,zI zz.2),(22,zI (((IntKind.i64.wrap (aV .u64 (IntKind.u64.wrap (a+b)) 1))+m)-1))]) (fun(zz:Int×Int)=>[.l L]) (fun(zz:Int×Int)=>(a≤zz.1∧zz.1≤zz.2)∧zz.2≤b∧a≤((IntKind.i64.wrap (aV .u64 (IntKind.u64.wrap (a+b)) 1))+m)-zz.2∧((IntKind.i64.wrap (aV .u64 (IntKind.u64.wrap (a+b)) 1))+m)-zz.1≤b) (fun(zz:Int×Int)=>(zz.2-zz.1).toNat) (⟨s0,r0⟩) hC [0] ?_
  rintro⟨sx,r⟩ hK K12 aD6 rest
  dsimp only at hK
  refine zD 7<|zJ 151 (sx <r) (fun AU=>?_) fun AU=>?_
  ·
   refine zD 7<|ja (sx+r) (by omega)<|zD 6 ?_
   have hsr:=Ed (x:=sx+r) (by omega)
   refine zD 5<|ja ((((IntKind.i64.wrap (aV .u64 (IntKind.u64.wrap (a+b)) 1))+m)-1)-(IntKind.i64.wrap (aV .u64 (IntKind.u64.wrap (sx+r)) 1))) (by omega) ?_
   obtain⟨HO,adH⟩:=zG xs (((((IntKind.i64.wrap (aV .u64 (IntKind.u64.wrap (a+b)) 1))+m)-1)-(IntKind.i64.wrap (aV .u64 (IntKind.u64.wrap (sx+r)) 1))).toNat) (by first|omega| (simp only[List.length_set];omega))
   refine pS ((((IntKind.i64.wrap (aV .u64 (IntKind.u64.wrap (a+b)) 1))+m)-1)-(IntKind.i64.wrap (aV .u64 (IntKind.u64.wrap (sx+r)) 1))) 8 ho adH (Int.toNat_of_nonneg (show 0≤((((IntKind.i64.wrap (aV .u64 (IntKind.u64.wrap (a+b)) 1))+m)-1)-(IntKind.i64.wrap (aV .u64 (IntKind.u64.wrap (sx+r)) 1)))∧((((IntKind.i64.wrap (aV .u64 (IntKind.u64.wrap (a+b)) 1))+m)-1)-(IntKind.i64.wrap (aV .u64 (IntKind.u64.wrap (sx+r)) 1))) <((xs).length:Int) from (by first|omega| (simp only[List.length_set];omega))).1).symm (fun beo aBK=>?_)
   refine oQ 0 [0] L (fun s _ hZ=>cG ho aBK hZ adH)<|zD 2 ?_
   obtain⟨HN,adG⟩:=zG xs ((IntKind.i64.wrap (aV .u64 (IntKind.u64.wrap (sx+r)) 1)).toNat) (by first|omega| (simp only[List.length_set];omega))
   refine pS (IntKind.i64.wrap (aV .u64 (IntKind.u64.wrap (sx+r)) 1)) 8 ho adG (Int.toNat_of_nonneg (show 0≤(IntKind.i64.wrap (aV .u64 (IntKind.u64.wrap (sx+r)) 1))∧(IntKind.i64.wrap (aV .u64 (IntKind.u64.wrap (sx+r)) 1)) <((xs).length:Int) from (by first|omega| (simp only[List.length_set];omega))).1).symm (fun ben aBJ=>?_)
   refine oQ 0 [0] L (fun s _ hZ=>cG ho aBJ hZ adG)<|aN 11 fun amt amP LY=>jp (vs:=[.agg ⟨[zI HO.past,zI HO.w0,zI HO.w1,zI HO.w2,zI HO.w3,zI HO.gone,zI HO.new,zI HO.ai]⟩,.agg ⟨[zI HN.past,zI HN.w0,zI HN.w1,zI HN.w2,zI HN.w3,zI HN.gone,zI HN.new,zI HN.ai]⟩]) [] [] (fun aE hs hZ=>(akk (x:=HO) (y:=HN) (hP _ (List.mem_of_getElem? adH)) (hP _ (List.mem_of_getElem? adG))))<|bD LY [0]<|zD 3<|js 171 (!(decide ((HO.past-HN.past) <0))) (fun YP=>?_) (fun YP=>?_)
   ·
    try simp only[zB] at YP
    refine zD 3<|ja ((IntKind.i64.wrap (aV .u64 (IntKind.u64.wrap (sx+r)) 1))+1) (by omega)<|zD 2<|bO aD6 (⟨((IntKind.i64.wrap (aV .u64 (IntKind.u64.wrap (sx+r)) 1))+1),r⟩) (by dsimp only;omega) (by dsimp only;omega) [0] (Sub.refl _)
   try simp only[zB] at YP
   refine zD 5<|bO aD6 (⟨sx,(IntKind.i64.wrap (aV .u64 (IntKind.u64.wrap (sx+r)) 1))⟩) (by dsimp only;omega) (by dsimp only;omega) [0] (Sub.refl _)
  refine zD 6<|ja (((IntKind.i64.wrap (aV .u64 (IntKind.u64.wrap (a+b)) 1))+m)-sx) (by omega)<|zD 9<|jj 4 [(0,v),(1,zI a),(2,zI m),(3,zI b),(4,.func (.func 109) ⟨[]⟩ ⟨[]⟩),(18,zI (IntKind.i64.wrap (aV .u64 (IntKind.u64.wrap (a+b)) 1))),(20,zI sx),(24,zI (((IntKind.i64.wrap (aV .u64 (IntKind.u64.wrap (a+b)) 1))+m)-sx)),(185,.bool ((decide (sx <m))&&(decide (m <(((IntKind.i64.wrap (aV .u64 (IntKind.u64.wrap (a+b)) 1))+m)-sx)))))] (fun gJ=>?_) (fun hj=>?_)
  rotate_left
  refine js 181 (decide (sx <m)) (fun YO=>?_) (fun YO=>?_)
  ·
   have afM:=YO
   replace afM:=of_decide_eq_true afM
   refine zD 4<|jw 185 (.bool ((decide (sx <m))&&(decide (m <(((IntKind.i64.wrap (aV .u64 (IntKind.u64.wrap (a+b)) 1))+m)-sx))))) (w:= .bool (decide (m <(((IntKind.i64.wrap (aV .u64 (IntKind.u64.wrap (a+b)) 1))+m)-sx)))) (by rw[YO]<;>rfl) ?_
   exact hj _ (by kernel_rfl) (by kernel_rfl)
  ·
   have afM:=YO
   replace afM:=of_decide_eq_false afM
   refine zD 4<|jw 185 (.bool ((decide (sx <m))&&(decide (m <(((IntKind.i64.wrap (aV .u64 (IntKind.u64.wrap (a+b)) 1))+m)-sx))))) (w:= .bool false) (by rw[YO]<;>rfl) ?_
   exact hj _ (by kernel_rfl) (by kernel_rfl)
  refine zD 1<|Hs [1,1,1,1,1,1,1,1,1,1] [] (fun(zz:(List aA)×Cells)=>[(0,v),(1,zI a),(3,zI b),(4,.func (.func 109) ⟨[]⟩ ⟨[]⟩),(18,zI (IntKind.i64.wrap (aV .u64 (IntKind.u64.wrap (a+b)) 1))),(20,zI sx),(24,zI (((IntKind.i64.wrap (aV .u64 (IntKind.u64.wrap (a+b)) 1))+m)-sx))]) (fun(zz:(List aA)×Cells)=>[.l zz.2]) (fun(zz:(List aA)×Cells)=>zz.1.Perm xs∧aD v 8 124 cU zz.1 zz.2) ?_ (fun K14 Ih=>?_)
  ·
   rintro⟨ys,L⟩ hA rest
   dsimp only at hA
   have VK:=hA.1.length_eq
   have hyp:=hP.perm hA.1
   refine zD 7<|jj 4 [(0,v),(1,zI a),(3,zI b),(4,.func (.func 109) ⟨[]⟩ ⟨[]⟩),(18,zI (IntKind.i64.wrap (aV .u64 (IntKind.u64.wrap (a+b)) 1))),(20,zI sx),(24,zI (((IntKind.i64.wrap (aV .u64 (IntKind.u64.wrap (a+b)) 1))+m)-sx)),(199,.bool ((decide (a <sx))&&(decide (sx <(IntKind.i64.wrap (aV .u64 (IntKind.u64.wrap (a+b)) 1))))))] (fun gJ=>?_) (fun hj=>?_)
   rotate_left
   refine js 195 (decide (a <sx)) (fun h27=>?_) (fun h27=>?_)
   ·
    have afL:=h27
    replace afL:=of_decide_eq_true afL
    refine zD 4<|jw 199 (.bool ((decide (a <sx))&&(decide (sx <(IntKind.i64.wrap (aV .u64 (IntKind.u64.wrap (a+b)) 1)))))) (w:= .bool (decide (sx <(IntKind.i64.wrap (aV .u64 (IntKind.u64.wrap (a+b)) 1))))) (by rw[h27]<;>rfl) ?_
    exact hj _ (by kernel_rfl) (by kernel_rfl)
   ·
    have afL:=h27
    replace afL:=of_decide_eq_false afL
    refine zD 4<|jw 199 (.bool ((decide (a <sx))&&(decide (sx <(IntKind.i64.wrap (aV .u64 (IntKind.u64.wrap (a+b)) 1)))))) (w:= .bool false) (by rw[h27]<;>rfl) ?_
    exact hj _ (by kernel_rfl) (by kernel_rfl)
   refine zD 1<|Hs [1,1,1,1,1,1,1,1,1,1,1] [] (fun(zz:(List aA)×Cells)=>[(0,v),(3,zI b),(4,.func (.func 109) ⟨[]⟩ ⟨[]⟩),(18,zI (IntKind.i64.wrap (aV .u64 (IntKind.u64.wrap (a+b)) 1))),(24,zI (((IntKind.i64.wrap (aV .u64 (IntKind.u64.wrap (a+b)) 1))+m)-sx))]) (fun(zz:(List aA)×Cells)=>[.l zz.2]) (fun(zz:(List aA)×Cells)=>zz.1.Perm xs∧aD v 8 124 cU zz.1 zz.2) ?_ (fun K15 aD5=>?_)
   ·
    rintro⟨ys,L⟩ hB rest
    dsimp only at hB
    have VK:=hB.1.length_eq
    have hyp:=hP.perm hB.1
    refine zD 6<|jj 4 [(0,v),(3,zI b),(4,.func (.func 109) ⟨[]⟩ ⟨[]⟩),(18,zI (IntKind.i64.wrap (aV .u64 (IntKind.u64.wrap (a+b)) 1))),(24,zI (((IntKind.i64.wrap (aV .u64 (IntKind.u64.wrap (a+b)) 1))+m)-sx)),(213,.bool ((decide ((IntKind.i64.wrap (aV .u64 (IntKind.u64.wrap (a+b)) 1)) <(((IntKind.i64.wrap (aV .u64 (IntKind.u64.wrap (a+b)) 1))+m)-sx)))&&(decide ((((IntKind.i64.wrap (aV .u64 (IntKind.u64.wrap (a+b)) 1))+m)-sx) <b))))] (fun gJ=>?_) (fun hj=>?_)
    rotate_left
    refine js 209 (decide ((IntKind.i64.wrap (aV .u64 (IntKind.u64.wrap (a+b)) 1)) <(((IntKind.i64.wrap (aV .u64 (IntKind.u64.wrap (a+b)) 1))+m)-sx))) (fun YN=>?_) (fun YN=>?_)
    ·
     have afK:=YN
     replace afK:=of_decide_eq_true afK
     refine zD 4<|jw 213 (.bool ((decide ((IntKind.i64.wrap (aV .u64 (IntKind.u64.wrap (a+b)) 1)) <(((IntKind.i64.wrap (aV .u64 (IntKind.u64.wrap (a+b)) 1))+m)-sx)))&&(decide ((((IntKind.i64.wrap (aV .u64 (IntKind.u64.wrap (a+b)) 1))+m)-sx) <b)))) (w:= .bool (decide ((((IntKind.i64.wrap (aV .u64 (IntKind.u64.wrap (a+b)) 1))+m)-sx) <b))) (by rw[YN]<;>rfl) ?_
     exact hj _ (by kernel_rfl) (by kernel_rfl)
    ·
     have afK:=YN
     replace afK:=of_decide_eq_false afK
     refine zD 4<|jw 213 (.bool ((decide ((IntKind.i64.wrap (aV .u64 (IntKind.u64.wrap (a+b)) 1)) <(((IntKind.i64.wrap (aV .u64 (IntKind.u64.wrap (a+b)) 1))+m)-sx)))&&(decide ((((IntKind.i64.wrap (aV .u64 (IntKind.u64.wrap (a+b)) 1))+m)-sx) <b)))) (w:= .bool false) (by rw[YN]<;>rfl) ?_
     exact hj _ (by kernel_rfl) (by kernel_rfl)
    refine zD 1<|js 213 ((decide ((IntKind.i64.wrap (aV .u64 (IntKind.u64.wrap (a+b)) 1)) <(((IntKind.i64.wrap (aV .u64 (IntKind.u64.wrap (a+b)) 1))+m)-sx)))&&(decide ((((IntKind.i64.wrap (aV .u64 (IntKind.u64.wrap (a+b)) 1))+m)-sx) <b))) (fun h29=>?_) (fun h29=>?_)
    ·
     try simp only[zB] at h29
     refine zD 7<|jc (vs:=[v,zI (IntKind.i64.wrap (aV .u64 (IntKind.u64.wrap (a+b)) 1)),zI (((IntKind.i64.wrap (aV .u64 (IntKind.u64.wrap (a+b)) 1))+m)-sx),zI b,.func (.func 109) ⟨[]⟩ ⟨[]⟩]) [0] (ih _ (show (b-(IntKind.i64.wrap (aV .u64 (IntKind.u64.wrap (a+b)) 1))).toNat <n by omega) _ _ _ _ _ _ _ hB.2 (by omega) hyp (by omega) rfl) ?_
     rintro aVe aTv ⟨aUA,ad0,aAA⟩
     have aNX:=ad0.length_eq
     have aNT:=gx.perm hyp ad0
     refine zD 1<|aJ q0 (.tuple ⟨[]⟩) [] [0] aTv (Sub.refl _) ⟨_,_,rfl,rfl,_,(ad0.trans hB.1),aAA⟩
    try simp only[zB] at h29
    refine zD 2<|aJ q0 (.tuple ⟨[]⟩) [] [0] L (Sub.refl _) ⟨_,_,rfl,rfl,_,hB.1,hB.2⟩
   refine js 199 ((decide (a <sx))&&(decide (sx <(IntKind.i64.wrap (aV .u64 (IntKind.u64.wrap (a+b)) 1))))) (fun h30=>?_) (fun h30=>?_)
   ·
    try simp only[zB] at h30
    refine zD 7<|jc (vs:=[v,zI a,zI sx,zI (IntKind.i64.wrap (aV .u64 (IntKind.u64.wrap (a+b)) 1)),.func (.func 109) ⟨[]⟩ ⟨[]⟩]) [0] (ih _ (show ((IntKind.i64.wrap (aV .u64 (IntKind.u64.wrap (a+b)) 1))-a).toNat <n by omega) _ _ _ _ _ _ _ hA.2 (by omega) hyp (by omega) rfl) ?_
    rintro aVf aTw ⟨awu,ad1,aAC⟩
    have aNY:=ad1.length_eq
    have aNU:=gx.perm hyp ad1
    refine zD 1<|bO aD5 ⟨awu,aTw⟩ ⟨(ad1.trans hA.1),aAC⟩ Nat.zero_lt_one [0] (Sub.refl _)
   try simp only[zB] at h30
   refine zD 2<|bO aD5 ⟨ys,L⟩ ⟨hA.1,hA.2⟩ Nat.zero_lt_one [0] (Sub.refl _)
  refine js 185 ((decide (sx <m))&&(decide (m <(((IntKind.i64.wrap (aV .u64 (IntKind.u64.wrap (a+b)) 1))+m)-sx)))) (fun h31=>?_) (fun h31=>?_)
  ·
   try simp only[zB] at h31
   refine zD 7<|jc (vs:=[v,zI sx,zI m,zI (((IntKind.i64.wrap (aV .u64 (IntKind.u64.wrap (a+b)) 1))+m)-sx),.func (.func 109) ⟨[]⟩ ⟨[]⟩]) [0] (aLH ho (by omega) hP (by omega)) ?_
   rintro aVg aTx ⟨awv,ad2,aAD⟩
   have aNZ:=ad2.length_eq
   have aNV:=gx.perm hP ad2
   refine zD 1<|bO Ih ⟨awv,aTx⟩ ⟨(ad2.trans (.refl _)),aAD⟩ Nat.zero_lt_one [0] (Sub.refl _)
  try simp only[zB] at h31
  refine zD 2<|bO Ih ⟨xs,L⟩ ⟨(.refl _),ho⟩ Nat.zero_lt_one [0] (Sub.refl _)
 refine zJ 140 (m>(IntKind.i64.wrap (aV .u64 (IntKind.u64.wrap (a+b)) 1))) (fun h32=>?_) fun h32=>?_
 ·
  refine zD 5<|ja (((IntKind.i64.wrap (aV .u64 (IntKind.u64.wrap (a+b)) 1))+m)-b) (by omega)<|zD 6<|bO aD7 ⟨(((IntKind.i64.wrap (aV .u64 (IntKind.u64.wrap (a+b)) 1))+m)-b),(IntKind.i64.wrap (aV .u64 (IntKind.u64.wrap (a+b)) 1))⟩ (by dsimp only;omega) Nat.zero_lt_one [0] (Sub.refl _)
 refine zD 10<|bO aD7 ⟨a,m⟩ (by dsimp only;omega) Nat.zero_lt_one [0] (Sub.refl _)
theorem aLG:∀n,aFX n:=by
 intro n
 induction n using Nat.strongRecOn with
 |_ n ih=>exact fun ro v xs L a m b ho hN hP Ee hn=>axJ ih ho hN hP Ee hn
theorem amY{v:Value}{xs:List aA}{L:Cells}{a m:Int}{ro:Nat→Option Obj}(ho:aD v 8 124 cU xs L)(hN:xs.length≤100000)(hP:gx xs)(Ee:0≤a∧a <m∧m <b∧b≤xs.length):eI zT 188 [v,zI a,zI m,zI b,.func (.func 109) ⟨[]⟩ ⟨[]⟩] ro L (fun _ Y=>wj v xs Y):=
 aLG _ ro v xs L a m b ho hN hP Ee rfl
theorem axK{v:Value}{xs:List aA}{L:Cells}{n:Int}{ro:Nat→Option Obj}(ho:aD v 8 124 cU xs L)(hN:xs.length≤100000)(hP:gx xs)(hn:n=xs.length):eI zT 154 [v,zI n,.func (.func 109) ⟨[]⟩ ⟨[]⟩] ro L (fun r Y=>wj v xs Y):=by
 refine bI av [.l L] [] bB<|zD 12<|eG [1,1,0,0,0] [] (fun(zz:Int×Int×(List aA)×Cells)=>[(0,v),(1,zI n),(2,.func (.func 109) ⟨[]⟩ ⟨[]⟩),(6,zI 20),(7,zI zz.1),(8,zI zz.2.1)]) (fun(zz:Int×Int×(List aA)×Cells)=>[.l zz.2.2.2]) (fun(zz:Int×Int×(List aA)×Cells)=>(zz.2.1=zz.1+20∧0≤zz.1∧zz.1≤n)∧aD v 8 124 cU zz.2.2.1 zz.2.2.2∧zz.2.2.1.Perm xs) (fun(zz:Int×Int×(List aA)×Cells)=>(n-zz.1).toNat) (⟨0,20,xs,L⟩) ⟨by dsimp only;omega,ho,.refl _⟩ [0] ?_
 rintro⟨a,b,ys,L⟩ hI K1 bU rest
 dsimp only at hI
 have VK:=hI.2.2.length_eq
 have hyp:=hP.perm hI.2.2
 refine zD 7<|zJ 13 (b≤n) (fun h1=>?_) fun h1=>?_
 ·
  refine zD 9<|jc (vs:=[v,zI a,zI b,.func (.func 109) ⟨[]⟩ ⟨[]⟩]) [0] (axM hI.2.1 (by omega) hyp (by omega)) ?_
  rintro aZS Y18 ⟨aI9,Pf,YA⟩
  have aV9:=Pf.length_eq
  have aV2:=gx.perm hyp Pf
  refine zD 9<|ja (b+20) (by omega)<|zD 2<|bO bU (⟨b,(b+20),aI9,Y18⟩) ⟨by dsimp only;omega,YA,(Pf.trans hI.2.2)⟩ (by dsimp only;omega) [0] (Sub.refl _)
 refine zD 8<|jc (vs:=[v,zI a,zI n,.func (.func 109) ⟨[]⟩ ⟨[]⟩]) [0] (axM hI.2.1 (by omega) hyp (by omega)) ?_
 rintro aZR Y27 ⟨aY4,asn,aO9⟩
 have aV8:=asn.length_eq
 have aV1:=gx.perm hyp asn
 refine zD 2<|eG [1,1,1,1,0,0] [] (fun(zz:Int×(List aA)×Cells)=>[(0,v),(1,zI n),(2,.func (.func 109) ⟨[]⟩ ⟨[]⟩),(6,zI zz.1)]) (fun(zz:Int×(List aA)×Cells)=>[.l zz.2.2]) (fun(zz:Int×(List aA)×Cells)=>(20≤zz.1∧zz.1≤1000000)∧aD v 8 124 cU zz.2.1 zz.2.2∧zz.2.1.Perm xs) (fun(zz:Int×(List aA)×Cells)=>(n-zz.1).toNat) (⟨20,_,_⟩) ⟨by dsimp only;omega,aO9,asn.trans hI.2.2⟩ [0] ?_
 rintro⟨bz,ys,L⟩ hJ K2 lL rest
 dsimp only at hJ
 have VK:=hJ.2.2.length_eq
 have hyp:=hP.perm hJ.2.2
 refine zD 7<|zJ 30 (bz <n) (fun h2=>?_) fun h2=>?_
 ·
  refine zD 6<|ja (2*bz) (by omega)<|zD 5<|eG [1,1,1,1,0,0,1,0,1,0,0,0] [K2] (fun(zz:Int×Int×(List aA)×Cells)=>[(0,v),(1,zI n),(2,.func (.func 109) ⟨[]⟩ ⟨[]⟩),(6,zI bz),(7,zI zz.1),(8,zI zz.2.1)]) (fun(zz:Int×Int×(List aA)×Cells)=>[.l zz.2.2.2]) (fun(zz:Int×Int×(List aA)×Cells)=>(zz.2.1=zz.1+2*bz∧0≤zz.1∧zz.1≤n)∧aD v 8 124 cU zz.2.2.1 zz.2.2.2∧zz.2.2.1.Perm xs) (fun(zz:Int×Int×(List aA)×Cells)=>(n-zz.1).toNat) (⟨0,(2*bz),ys,L⟩) ⟨by dsimp only;omega,hJ.2⟩ [0] ?_
  rintro⟨a,b,ys,L⟩ hK K3 ZW rest
  dsimp only at hK
  have VK:=hK.2.2.length_eq
  have hyp:=hP.perm hK.2.2
  refine zD 7<|zJ 35 (b≤n) (fun h3=>?_) fun h3=>?_
  ·
   refine zD 9<|ja (a+bz) (by omega)<|zD 2<|jc (vs:=[v,zI a,zI (a+bz),zI b,.func (.func 109) ⟨[]⟩ ⟨[]⟩]) [0] (amY hK.2.1 (by omega) hyp (by omega)) ?_
   rintro aZP Y43 ⟨aI6,asj,aO5⟩
   have aV6:=asj.length_eq
   have aVZ:=gx.perm hyp asj
   refine zD 9<|ja (2*bz) (by omega)<|ja (b+(2*bz)) (by omega)<|zD 2<|bO ZW (⟨b,(b+(2*bz)),aI6,Y43⟩) ⟨by dsimp only;omega,aO5,(asj.trans hK.2.2)⟩ (by dsimp only;omega) [0] (Sub.refl _)
  refine zD 7<|ja (a+bz) (by omega)<|zD 8<|zJ 54 ((a+bz) <n) (fun h4=>?_) fun h4=>?_
  ·
   refine zD 7<|jc (vs:=[v,zI a,zI (a+bz),zI n,.func (.func 109) ⟨[]⟩ ⟨[]⟩]) [0] (amY hK.2.1 (by omega) hyp (by omega)) ?_
   rintro aZM Y60 ⟨aI4,adZ,Lz⟩
   have aV3:=adZ.length_eq
   have aVW:=gx.perm hyp adZ
   refine zD 3<|ja (bz*2) (by omega)<|zD 2<|bO lL (⟨(bz*2),aI4,Y60⟩) ⟨by dsimp only;omega,Lz,(adZ.trans hK.2.2)⟩ (by dsimp only;omega) [0] (Sub.refl _)
  refine zD 4<|ja (bz*2) (by omega)<|zD 2<|bO lL (⟨(bz*2),ys,L⟩) ⟨by dsimp only;omega,hK.2.1,hK.2.2⟩ (by dsimp only;omega) [0] (Sub.refl _)
 refine zD 2<|aJ q0 (.tuple ⟨[]⟩) [] [0] L (Sub.refl _) ⟨_,_,rfl,rfl,_,hJ.2.2,hJ.2.1⟩
theorem N3{v:Value}{xs:List aA}{L:Cells}{ro:Nat→Option Obj}(ho:aD v 8 124 cU xs L)(hN:xs.length≤100000)(hP:gx xs):eI zT 108 [v,.func (.func 109) ⟨[]⟩ ⟨[]⟩] ro L (fun r Y=>wj v xs Y):=by
 refine bI av [.l L] [] bB<|zD 3<|D7 ho<|zD 1<|jc (vs:=[v,zI (xs.length:Int),.func (.func 109) ⟨[]⟩ ⟨[]⟩]) [0] (axK ho (by omega) hP rfl) ?_
 rintro rv8 Y8 ⟨ys8,hp8,ho8⟩
 have bbE:=hp8.length_eq
 have bbD:=gx.perm hP hp8
 refine zD 1<|aJ q0 (.tuple ⟨[]⟩) [] [0] Y8 (Sub.refl _) ⟨_,_,rfl,rfl,_,hp8,ho8⟩
open Go.ConcR (KK wgBlock WgAt stA smA rd wr)
def ahd(o:Oper):Array TypeId:=match o.op with
 | .call c=>c.argTypes
 | .go c=>c.argTypes
 | .defer c=>c.argTypes
 |_=> #[]
noncomputable def kE:qY:=auB zT 76 2
theorem azy:kE.cl.OK zT 200 where
 ff:=by kernel_rfl
 fn:=⟨(Tryz.prog.funcs[106]?).getD default,by kernel_rfl,by kernel_rfl,by kernel_rfl⟩
 bf:=⟨by kernel_rfl,by kernel_rfl,by kernel_rfl⟩
 enter:=fun p1 p2=>by kernel_rfl
 op0:=by kernel_rfl
 rest:=⟨1,by kernel_rfl⟩
 size:=by kernel_rfl
 op:=⟨by kernel_rfl,by kernel_rfl,ahd kE.cl.oc,by kernel_rfl⟩
theorem arx:∀v,v <2→∀W,∃k,GY zT 200 v (Frame.enter zT 103 #[zP W,zI 1] .normal)=some (List.replicate k W):=by
 intro v hv W
 match v,hv with
 |0,_=>exact⟨7,by kernel_rfl⟩
 |1,_=>exact⟨4,by kernel_rfl⟩
theorem akj:∀W,∃k,wO zT 200 2 (Frame.enter zT 105 #[zP W] .deferred)=some (List.replicate k W):=fun W=>⟨27,by kernel_rfl⟩
theorem aki:∀W,∃k,Az zT 200 2 (Frame.enter zT 107 #[zP W] .normal)=some (List.replicate k W):=fun W=>⟨164,by kernel_rfl⟩
noncomputable def m8(Wg Ch:Nat)(gL:Os)(cz:Array (Nat×ByteArray)):dS (List aA):=⟨zT,200,Wg,Ch,2,zS,gL,cz,fun l v X=>aD v 8 124 cU l X⟩
theorem Gx(K:aT)(on:Int)(hb:K.after.length≤4):∀(n a:Nat) (p:Nat→Int),(∀i,0≤p i∧p i≤4)→(iA K on n a p).length≤5^n∧∀q∈iA K on n a p,∀i,0≤q i∧q i≤4
 |0,a,p,hp=>by
  simp only[iA]
  cases lv on p K.facts 0 with
  |true=>exact⟨by simp,fun q hq=>by simp only[cond_true,List.mem_singleton] at hq;subst hq;exact hp⟩
  |false=>exact⟨by simp,fun q hq=>by simp at hq⟩
 |n+1,a,p,hp=>by
  obtain⟨h1,h2⟩:=Gx K on hb n (a+1) p hp
  have hg:∀b,b <K.after.length→(mY K on n a p b).length≤5^n∧∀q∈mY K on n a p b,∀i,0≤q i∧q i≤4:=fun b cK=>by
   simp only[mY]
   cases !di K on a b||Af p a ((b:Int)+1) with
   |true=>exact⟨by simp,fun q hq=>by simp at hq⟩
   |false=>
    simp only[cond_false]
    refine Gx K on hb n (a+1) _ fun i=>?_
    simp only[lj]
    split
    ·omega
    exact hp i
  rw[p9]
  refine⟨?_,fun q hq=>?_⟩
  ·rw[List.length_append,List.length_flatMap]
   have:((List.range K.after.length).map fun b=>(mY K on n a p b).length).sum≤K.after.length*5^n:=by
    have key:∀l:List Nat,(∀b∈l,b <K.after.length)→(l.map fun b=>(mY K on n a p b).length).sum≤l.length*5^n:=by
     intro l
     induction l with
     |nil=>intro _;simp
     |cons b l ih=>
      intro hl
      have:=ih fun x hx=>hl x (List.mem_cons_of_mem _ hx)
      have:=(hg b (hl b List.mem_cons_self)).1
      simp only[List.map_cons,List.sum_cons,List.length_cons,Nat.succ_mul]
      omega
    have:=key (List.range K.after.length) fun b hb=>List.mem_range.1 hb
    simpa using this
   have h5:K.after.length*5^n≤4*5^n:=Nat.mul_le_mul_right _ hb
   rw[Nat.pow_succ]
   omega
  rcases List.mem_append.1 hq with hq|hq
  ·exact h2 q hq
  obtain⟨b,mo,hq⟩:=List.mem_flatMap.1 hq
  exact(hg b (List.mem_range.1 mo)).2 q hq
theorem lU(hV:fU K)(on:Int):(bP K on).length≤625∧∀q∈bP K on,∀i,0≤q i∧q i≤4:=by
 obtain⟨h1,h2⟩:=Gx K on hV.after.1 K.before.length 0 (fun _=>0) fun _=>by omega
 refine⟨Nat.le_trans h1 ?_,h2⟩
 have:=Nat.pow_le_pow_right (n:=5) (by omega) hV.before.1
 omega
abbrev pV(b:Nat):Value:= zP b
noncomputable def Dd(f i:Nat):Array Oper:=cN (codeOf zT f) i
noncomputable def aS2(f i:Nat):Code:=((codeOf zT f)[i]?).getD .skip
def nX(K:aT)(on:Int)(keep:aA→Bool)(r:bX)(past:Nat):List aA:=((bP K on).map (c8 K r past)).filter keep
noncomputable def WI(f:Nat):Code:=(((Tryz.prog.funcs[f]?).getD default).body).getD .skip
theorem jq{α:Type}{l:List α}{k:Nat}{x:α}(h:l[k]?=some x):l.take (k+1)=l.take k++[x]:=by rw[List.take_succ,h];rfl
theorem auu:gE [WI 104]=[.region 0 (Dd 104 0) false,.region 1 (Dd 104 1) false,.region 2 (Dd 104 2) false,aS2 104 3,.region 7 (Dd 104 4) false]:=by kernel_rfl
theorem azs{rows:List bX}{on:Int}{past:Nat}{HR:bX}{keep:aA→Bool}{ro:Nat→Option Obj}{Wg Ch:Nat}{gL:Os}{cz:Array (Nat×ByteArray)}{b3 b4 b5 b7 b9:Nat}(hV:fU K)(hF:pq ro f K rows)(BG:rows[past]?=some HR) (Gd:AW zT g=true)
 (ia:∀aK,Sub ro aK→∀p∈bP K on,dL zT g (fi++[.agg ⟨cU (c8 K HR past p)⟩]++ca) aK (.bool (keep (c8 K HR past p))))
 (g3:ro b3=some (.cells ⟨[pV f]⟩ 94 (0,0))) (g4:ro b4=some (.cells ⟨[.int .u8 on]⟩ 99 (0,0))) (g9:ro b9=some (.cells ⟨[zI (past:Int)]⟩ 3 (0,0))) (g5:ro b5=some (.cells ⟨[.func (.func g) ⟨fi⟩ ⟨ca⟩]⟩ 155 (0,0))) (g7:ro b7=some (.cells ⟨[.chan (some Ch)]⟩ 191 (0,0))):
 eQ zT false ((m8 Wg Ch gL cz).Iv (nX K on keep HR past)) (born zT {target:= .fn (.func 104) ⟨[pV Wg,pV b3,pV b4,pV b9,pV b5,pV b7]⟩,args:= #[]}) ⟨ro,[]⟩:=by
 have hT:Closed zT false (eQ zT false ((m8 Wg Ch gL cz).Iv (nX K on keep HR past))):=dX _ _ _
 refine axC (fn:=(Tryz.prog.funcs[104]?).getD default) (c:=WI 104) (n:=26) (by kernel_rfl) (by kernel_rfl) (by kernel_rfl) (by kernel_rfl) (by rfl)<|pH hT auu fun l1 BN=>?_
 refine apz hT (a:=eL (Dd 104 0) 0) (f:=105) (xs:= #[.tmp 0]) (vs:=[pV Wg]) (ats:=ahd (eL (Dd 104 0) 0)) (by kernel_rfl) (by kernel_rfl) (by kernel_rfl) (by decide) rfl<|pH hT BN fun l2 qp=>?_
 refine uU av hT<|jn fun b6=>zD 1<|wY<|pH hT qp fun l3 Nf=>?_
 refine uU av hT<|jl (b:=b3) (off:=0) (m:=1) (vs:=[pV f]) 0 ⟨_,_,_,.inl g3,rfl⟩<|jl (b:=b4) (off:=0) (m:=1) (vs:=[.int .u8 on]) 0 ⟨_,_,_,.inl g4,rfl⟩<|jc [] (Jj (on:=on) hF hV) ?_
 rintro _ _ ⟨q1,q2,q3,q4,rfl,rfl⟩
 refine jf [0] [(q1,.cells ⟨[pV f]⟩ 94 (0,0)),(q2,.cells ⟨[.func (.func 98) ⟨[]⟩ ⟨[pV q1,pV q4]⟩]⟩ 187 (0,0)),(q3,.cells ⟨B0 ⟨di K on⟩⟩ 139 (0,0)),(q4,.cells ⟨[.int .u8 on]⟩ 99 (0,0))] fun aE cy hk1=>zD 1<|axA<|amT hT Nf fun l4 Nd=>?_
 refine axB av hT ?_
 have Ma:=hF.up cy
 refine zD 1<|oU ?_
 refine jrf [] (VD (on:=on) Ma hV (hk1 _ (.head _)) (hk1 _ (.tail _ (.head _))) (hk1 _ (.tail _ (.tail _ (.head _)))) (hk1 _ (.tail _ (.tail _ (.tail _ (.head _)))))) (by rintro _ _ _ _ ⟨_,_,rfl,_⟩;rfl)
  (fun(zz:Value×Cells)=>[.b b6 (.cells ⟨[zz.1]⟩ 104 (0,0)),.l zz.2]) (fun kk=>(fun(zz:Value×Cells)=>aD zz.1 8 124 cU ((((bP K on).take kk).map (c8 K HR past)).filter keep) zz.2)) (fun jump=>(fun(zz:Value×Cells)=>False)) (⟨zS,[]⟩) (aD.nil _ _ _) [1,0] ?_ ?_ ?_
 ·rintro bl bd kk vs LL ⟨v,Lb⟩ lR ju ⟨p,hp,rfl,rfl⟩ hI pY
  dsimp only at hI
  have aAn:=List.mem_of_getElem? hp
  have hp4:=(lU hV on).2 p aAn
  have adT:=Sub.trans cy pY
  have hlen:((((bP K on).take kk).map (c8 K HR past)).filter keep).length≤625:=by
   refine Nat.le_trans (List.length_filter_le _ _) ?_
   rw[List.length_map,List.length_take]
   have:=(lU hV on).1
   omega
  refine zD 1<|jn fun jH=>jd 2 [0]<|jbI 1<|zD 3<|jl (b:=b3) (off:=0) (m:=1) (vs:=[pV f]) 0 ⟨_,_,_,.inl (adT _ _ g3),rfl⟩<|jl (b:=b9) (off:=0) (m:=1) (vs:=[zI (past:Int)]) 0 ⟨_,_,_,.inl (adT _ _ g9),rfl⟩<|jd 1 [0]<|jp (vs:=[pV f,zI (past:Int),.agg ⟨eP4 p⟩]) [] [] (fun AR hs hZ=>ans (hF.up (Sub.trans adT hs)) hV BG hp4)<|jn fun yW=>jd 4 [0]<|jl (b:=b5) (off:=0) (m:=1) (vs:=[.func (.func g) ⟨fi⟩ ⟨ca⟩]) 0 ⟨_,_,_,.inl (adT _ _ g5),rfl⟩<|jd 1 [0]<|jpF (f:=g) (V:= .bool (keep (c8 K HR past p))) (vs:=fi++[Value.agg ⟨cU (c8 K HR past p)⟩]++ca) [] [] Gd (fun AR hs hZ=>ia _ (Sub.trans adT hs) p aAn)<|zD 1<|js 19 (keep (c8 K HR past p)) (fun h5=>?_) (fun h5=>?_)
  ·refine jd 4 [3,0]<|jn fun mQ=>jk (sz:=8) (ps:=(((bP K on).take kk).map (c8 K HR past)).filter keep) (qs:=[c8 K HR past p]) (enc:=cU) (w:= .slice (some ⟨mQ,0,none⟩) 1 1) [5] [0] [(mQ,.cells ⟨([c8 K HR past p].map cU).flatten⟩ 124 (0,0))] hI (fun s _ hZ=>cg [c8 K HR past p] (hZ _ (.head _)) (by intro p hp;rfl)) (fun p _=>aj rfl) (by simp only[List.length_cons,List.length_nil];omega) (fun v23 L23 yo=>?_)
   obtain⟨va,vc,he⟩:=yo.form
   subst he
   refine jd 2 [5]<|jyn XK (Sub.refl _) ⟨.slice va _ vc,L23⟩ (by dsimp only;rw[jq hp,List.map_append,List.filter_append,List.map_cons,List.map_nil,List.filter_cons_of_pos h5,List.filter_nil];exact yo) [4,5,0]
  refine zD 2<|jyn XK (Sub.refl _) ⟨v,Lb⟩ (by dsimp only;rw[jq hp,List.map_append,List.filter_append,List.map_cons,List.map_nil,List.filter_cons_of_neg (by rw[h5];simp),List.filter_nil,List.append_nil];exact hI) [2,3,4]
 ·rintro bd ⟨v,Lb⟩ Z hI rfl
  dsimp only at hI
  rw[List.take_length] at hI
  refine axz<|pH hT Nd fun l5 Nc=>?_
  have:=gq Nc
  subst this
  show TT _ _ (.inRegion (Dd 104 4) (0::[1,2])::[]) _ _ _ _ _
  refine tLd hT (.chan (some Ch)) (a:=eL (Dd 104 4) 0) (x:= .tmp 5) (U:=191) (q:=b7) (by kernel_rfl) (by kernel_rfl) (by kernel_rfl) (by kernel_rfl) (by decide) rfl (fun _ _ _ _=> .inl (cy _ _ g7))<|aLs hT v (a:=eL (Dd 104 4) 1) (x:= .tmp 6) (U:=104) (q:=b6) (by kernel_rfl) (by kernel_rfl) (by kernel_rfl) (by kernel_rfl) (by decide) rfl [2] 104<|axu (E:=m8 Wg Ch gL cz) (a:=eL (Dd 104 4) 2) (sc:= .tmp 24) (sv:= .tmp 25) (v:=v) (Y:=Lb) [3] (by kernel_rfl) (by kernel_rfl) (fun ρ=>by kernel_rfl) (by decide) rfl hI<|UH (dX _ _ _)<|apv (E:=m8 Wg Ch gL cz) (fn:=(Tryz.prog.funcs[104]?).getD default) (dn:=105) (bd:=bd) (by kernel_rfl) (by kernel_rfl) (by kernel_rfl) (akj Wg).choose_spec wy [0] rfl rfl
 rintro bd ⟨v,Lb⟩ Z jump hS hZ
 exact hS.elim
theorem f26:gE [WI 76]=[.region 0 kE.o0 false,.region 1 kE.o1 false,.region 2 kE.o2 false,.region 3 kE.o3 false,.block 0 (.loop kE.lb),.region 9 kE.o9 false,.region 10 kE.o10 false,.region 11 kE.o11 false,.block 2 (.loop kE.rb),.region 15 (Dd 76 9) false,.region 16 (Dd 76 10) false,.ret]:=by kernel_rfl
theorem aEW:gE [kE.lb]=[.region 4 kE.o4 false,.cond (.tmp 19) .skip (.exit 0),.block 1 kE.Cz,.region 8 kE.o8 false]:=by kernel_rfl
theorem aSO:gE [kE.Cz]=[.region 5 kE.o5 false,.region 6 kE.o6 false,.region 7 kE.o7 false]:=by kernel_rfl
theorem aEV:gE [kE.rb]=[.region 12 kE.Bt false,.cond (.tmp 27) .skip (.exit 2),.block 3 kE.ud]:=by kernel_rfl
theorem aSN:gE [kE.ud]=[.region 13 kE.o13 false,.region 14 kE.o14 false]:=by kernel_rfl
def iN(K:aT)(on:Int)(keep:aA→Bool)(rows:List bX)(n:Nat):List (List aA):=(List.range n).map fun i=>nX K on keep ((rows[i]?).getD ⟨fun _ _=>false⟩) i
theorem Ns{on:Int}{keep:aA→Bool}{rows:List bX}{n:Nat}{r:bX}(h:rows[n]?=some r):iN K on keep rows (n+1)=iN K on keep rows n++[nX K on keep r n]:=by
 simp only[iN,List.range_succ,List.map_append,List.map_cons,List.map_nil,h,Option.getD_some]
theorem xJ(K:aT)(on:Int)(keep:aA→Bool)(rows:List bX)(n:Nat):(iN K on keep rows n).length=n:=by simp[iN]
def ek(K:aT)(on:Int)(keep:aA→Bool)(rows:List bX):List aA:=(iN K on keep rows rows.length).flatten
theorem sO(hV:fU K)(on:Int)(keep:aA→Bool){rows:List bX}(hR:rows.length≤2):(ek K on keep rows).length≤1250:=by
 have h1:∀r i,(nX K on keep r i).length≤625:=fun r i=>Nat.le_trans (List.length_filter_le _ _) (by rw[List.length_map];exact(lU hV on).1)
 have key:∀n,(iN K on keep rows n).flatten.length≤n*625:=by
  intro n
  induction n with
  |zero=>simp[iN]
  |succ n ih=>
   have:=h1 ((rows[n]?).getD ⟨fun _ _=>false⟩) n
   simp only[iN,List.range_succ,List.map_append,List.map_cons,List.map_nil,List.flatten_append,List.length_append,List.flatten_cons,List.flatten_nil,List.append_nil] at ih ⊢
   omega
 have:=key rows.length
 have h2:rows.length*625≤2*625:=Nat.mul_le_mul_right _ hR
 exact Nat.le_trans this h2
theorem Zs{on:Int}{keep:aA→Bool}{rows:List bX}(hR:rows.length≤2):gx (ek K on keep rows):=by
 intro x hx
 obtain⟨l,hl,hx⟩:=List.mem_flatten.1 hx
 obtain⟨i,hi,rfl⟩:=List.mem_map.1 hl
 have hi:=List.mem_range.1 hi
 obtain⟨p,_,rfl⟩:=List.mem_map.1 (List.mem_filter.1 hx).1
 simp only[c8]
 omega
theorem aga{α:Type}(a:List (List α))(o:List α)(b:List (List α))(zs:List α):((zs++o)++(a++b).flatten).Perm (zs++(a++o::b).flatten):=by
 simp only[List.flatten_append,List.flatten_cons,List.append_assoc]
 refine .append_left _ ?_
 rw[←List.append_assoc,←List.append_assoc]
 exact .append_right _ List.perm_append_comm
theorem azx{rows:List bX}{on:Int}{keep:aA→Bool}{ro:Nat→Option Obj}{fr:Cells}(hV:fU K)(hF:pq ro f K rows)(hR:rows.length≤2)(Gd:AW zT g=true)
 (ia:∀i r,rows[i]?=some r→∀aK,Sub ro aK→∀p∈bP K on,dL zT g (fi++[.agg ⟨cU (c8 K r i p)⟩]++ca) aK (.bool (keep (c8 K r i p)))):
 Fn (C0 zT) zT 76 ⟨[pV f,.int .u8 on,.func (.func g) ⟨fi⟩ ⟨ca⟩]⟩ ⟨ro,fr⟩ (fun en s'=>∃v Y zs,en= .returned v∧s'=⟨ro,Y++fr⟩∧zs.Perm (ek K on keep rows)∧aD v 8 124 cU zs Y):=by
 rintro main T ⟨rfl,gL,cz,Post,rfl⟩ cl Mt kr _
 have hT:=rX zT gL cz Post
 obtain⟨c0,c1,c2,vc,vh,vr,vb,va,vf,vt,hv,hf,p6,nA,hr,Dv,Ie,Jt,bS⟩:=id hF
 obtain⟨nq,Db,Da,mS,rfl,N9,Kt,Kr⟩:=bS
 refine apu (fn:=(Tryz.prog.funcs[76]?).getD default) (c:=WI 76) (n:=35) (by kernel_rfl) (by kernel_rfl) (by kernel_rfl) (by rfl)<|pH hT f26 fun l1 BN=>?_
 refine uU av hT<|jn fun b3=>jn fun b4=>jn fun b5=>zD 2<|wY<|pH hT BN fun l2 qp=>?_
 show TT _ _ (.inRegion kE.o1 (0::[1,2])::_) _ _ _ _ _
 refine axv hT (a:=kE.a1) (f:=fun q=> .chan (some q)) (ob:= .chan 0 #[] false 0 0 false) (by kernel_rfl) (by kernel_rfl) (fun e q=>by kernel_rfl) (by decide) rfl fun Ch=>?_
 refine uU av hT<|jn fun b7=>jd 2 [0]<|wY<|pH hT qp fun l3 Nf=>?_
 show TT _ _ (.inRegion kE.o2 (0::[])::_) _ _ _ _ _
 refine axv hT (a:=kE.a2) (f:=fun q=> zP q) (ob:=wgBlock 200 0 0) (by kernel_rfl) (by kernel_rfl) (fun e q=>by kernel_rfl) (by decide) rfl fun Wg=>?_
 refine UH hT<|apy (E:=m8 Wg Ch gL cz) (Q:=Good zT Post) (tm:=false) 0 2 ((b7,.cells ⟨[.chan (some Ch)]⟩ 191 (0,0))::(b5,.cells ⟨[.func (.func g) ⟨fi⟩ ⟨ca⟩]⟩ 155 (0,0))::(b4,.cells ⟨[.int .u8 on]⟩ 99 (0,0))::(b3,.cells ⟨[pV f]⟩ 94 (0,0))::fr) hT (fun L aE hl eg Tf=>?_)
 have h7:=hl.kn _ (.head _)
 have h5:=hl.kn _ (.tail _ (.head _))
 have h4:=hl.kn _ (.tail _ (.tail _ (.head _)))
 have h3:=hl.kn _ (.tail _ (.tail _ (.tail _ (.head _))))
 dsimp only at h7 h5 h4 h3
 have hM:∀pend os,Closed zT true (TM (m8 Wg Ch gL cz) L (Good zT Post) pend false os 0):=fun pend os=>fq (E:=m8 Wg Ch gL cz) false os (fun e=>(by cases e))
 have hC:∀os,Closed zT true (TM (m8 Wg Ch gL cz) L (Good zT Post) 0 true os 0):=fun os=>fq (E:=m8 Wg Ch gL cz) true os (fun _=>rfl)
 refine pH (hM 0 []) Nf fun l4 Nd=>?_
 refine uU av (hM 0 [])<|jl (b:=b3) (off:=0) (m:=1) (vs:=[pV f]) 0 ⟨_,_,_,.inl h3,rfl⟩<|zD 2<|jl (b:=f) (off:=0) (m:=13) (vs:=[c0,c1,c2,vc,vh,vr,vb,va,zI K.gone,zI K.new,zI K.ai,vf,.slice nq rows.length mS]) 12 ⟨_,_,_,.inl (hl.sub _ _ hf),rfl⟩<|zD 3<|wY<|J9 (hM 0 []) Nd fun l5 Nc=>?_
 refine amS (hM 0 []) (rest:=[]) rfl fun l6 Hy=>?_
 have:=gq Hy
 subst this
 have loop:∀m i lR,m+i=rows.length→Sub aE lR→(∀lR rest,Sub aE lR→TT (TM (m8 Wg Ch gL cz) L (Good zT Post) 0 false (iN K on keep rows rows.length) 0) (YU 76 .normal) (l5.map .code++[]) (cl::Mt) 35 [] lR (some ⟨.fin .normal,[(7,pV b7),(8,pV Wg)]++rest,[],⟨[],[]⟩⟩))→
  ∀rest,TT (TM (m8 Wg Ch gL cz) L (Good zT Post) 0 false (iN K on keep rows i) 0) (YU 76 .normal) ([kE.lb].map .code++(.inLoop kE.lb::(.inBlock 0::(l5.map .code++[])))) (cl::Mt) 35 [] lR (some ⟨.fin .normal,[(3,pV b3),(4,pV b4),(5,pV b5),(7,pV b7),(8,pV Wg),(17,zI (rows.length:Int)),(18,zI (i:Int))]++rest,[],⟨[],[]⟩⟩):=by
  intro m
  induction m with
  |zero=>
   intro i lR hi hs oX rest
   refine pH (hM 0 _) aEW fun m1 hm1=>?_
   refine uU av (hM 0 _)<|zD 2<|wY<|UI (hM 0 _) (t:=false) (q:=decide ((i:Int) <(rows.length:Int))) hm1 (by simp;omega) fun m2 Ea=>?_
   refine amU (hM 0 _) (k':=l5.map .code++[]) (by rw[qg];simp[exitTo]) ?_
   have:i=rows.length:=by omega
   subst this
   exact tSt (hM 0 _) [(7,pV b7),(8,pV Wg)] [] [] fun rest=>oX lR rest hs
  |succ m ih=>
   intro i lR hi hs oX rest
   obtain⟨r,BG⟩:∃r,rows[i]?=some r:=⟨_,List.getElem?_eq_getElem (by omega)⟩
   refine pH (hM 0 _) aEW fun m1 hm1=>?_
   refine uU av (hM 0 _)<|zD 2<|wY<|UI (hM 0 _) (t:=true) (q:=decide ((i:Int) <(rows.length:Int))) hm1 (by simp;omega) fun m2 Ea=>?_
   refine amQ (hM 0 _)<|J9 (hM 0 _) Ea fun m3 hm3=>?_
   refine pH (hM 0 _) aSO fun m4 hm4=>?_
   refine uU av (hM 0 _)<|zD 1<|jn fun b9=>jd 2 [0]<|wY<|pH (hM 0 _) hm4 fun m5 hm5=>?_
   show TT _ _ (.inRegion kE.o6 [0]::_) _ _ _ _ _
   refine aLv (E:=m8 Wg Ch gL cz) (a:=kE.a6) (f:=103) (x:= .tmp 8) (ats:=ahd kE.a6) ?_ (by kernel_rfl) (by kernel_rfl) (by kernel_rfl) (kO (by kernel_rfl)) (by decide) rfl (by show _ <2;rw[xJ];omega) (by show GY zT 200 _ _=_;rw[xJ];exact(arx i (by omega) Wg).choose_spec) wy
   refine pH (hM 1 _) hm5 fun m6 hm6=>?_
   have:=gq hm6
   subst this
   show TT _ _ (.inRegion kE.o7 (0::[1])::_) _ _ _ _ _
   refine axs (hM 1 _) (a:=eL kE.o7 0) (.func (.func 104) ⟨[]⟩ ⟨[pV Wg,pV b3,pV b4,pV b9,pV b5,pV b7]⟩) (by kernel_rfl) (by kernel_rfl) (by decide) rfl<|tGo (E:=m8 Wg Ch gL cz) (nX K on keep r i) (a:=kE.a7) (f:=104) (y:= .tmp 22) (ca:=[pV Wg,pV b3,pV b4,pV b9,pV b5,pV b7]) (ats:=ahd kE.a7) [(b9,.cells ⟨[zI (i:Int)]⟩ 3 (0,0))] (by kernel_rfl) (by kernel_rfl) (by kernel_rfl) (by decide) rfl (fun AR Ht ZP=>⟨?_,?_⟩)
   ·have AV:=Sub.trans hs Ht
    have h03:=Sub.trans hl.sub AV
    exact azs hV (hF.up h03) BG Gd (fun aK mT=>ia i r BG aK (Sub.trans h03 mT)) (AV _ _ h3) (AV _ _ h4) (ZP _ (.head _)) (AV _ _ h5) (AV _ _ h7)
   rw[←Ns BG]
   refine UH (hM 0 _) (amV (hM 0 _) ?_)
   refine pH (hM 0 _) hm3 fun m7 hm7=>?_
   have:=gq hm7
   subst this
   refine uU av (hM 0 _)<|ja ((i:Int)+1) (by omega)<|zD 2<|wY<|aa5 (hM 0 _)<|tSt (hM 0 _) [(3,pV b3),(4,pV b4),(5,pV b5),(7,pV b7),(8,pV Wg),(17,zI (rows.length:Int)),(18,zI ((i+1:Nat):Int))] [] [] fun rest=>ih (i+1) AR (by omega) (Sub.trans hs Ht) oX rest
 refine tSt (hM 0 _) [(3,pV b3),(4,pV b4),(5,pV b5),(7,pV b7),(8,pV Wg),(17,zI (rows.length:Int)),(18,zI (((0:Nat)):Int))] [] [] fun rest=>loop rows.length 0 aE (by omega) (Sub.refl _) (fun lR rest pY=>?_) rest
 refine pH (hM 0 _) Nc fun l7 Dr=>?_
 show TT _ _ (.inRegion kE.o9 (0::[1])::_) _ _ _ _ _
 refine axs (hM 0 _) (a:=eL kE.o9 0) (.func (.func 106) ⟨[]⟩ ⟨[pV Wg,pV b7]⟩) (by kernel_rfl) (by kernel_rfl) (by decide) rfl<|apC (E:=m8 Wg Ch gL cz) (a:=kE.a9) (f:=106) (y:= .tmp 24) (ca:=[pV Wg,pV b7]) (ats:=ahd kE.a9) [] (by kernel_rfl) (by kernel_rfl) (by kernel_rfl) (by decide) rfl (fun AR Ht _=>?_)
 have AV:=Sub.trans pY Ht
 refine⟨aiZ (E:=m8 Wg Ch gL cz) (x:=kE.cl) azy (aki Wg).choose_spec wy (q:=b7) (t:=191) (fz:=(0,0)) (a:=eL kE.cl.q1 0) (y:= .tmp 1) (U:=191) (AV _ _ h7) (by kernel_rfl) (by kernel_rfl) (by kernel_rfl) (by kernel_rfl) (by kernel_rfl) (by kernel_rfl),?_⟩
 refine UH (hC _)<|pH (hC _) Dr fun l8 V0=>?_
 refine uU av (hC _)<|zD 2<|wY<|pH (hC _) V0 fun l9 ZN=>?_
 refine uU av (hC _)<|jl (b:=b7) (off:=0) (m:=1) (vs:=[.chan (some Ch)]) 0 ⟨_,_,_,.inl (AV _ _ h7),rfl⟩<|zD 1<|wY<|J9 (hC _) ZN fun l10 asR=>?_
 refine amS (hC _) (rest:=[]) rfl fun l11 asQ=>?_
 have:=gq asQ
 subst this
 have hlen:=sO hV on keep hR
 have recv:∀m (os:List (List aA)) (v:Value) (L1:Cells) (zs:List aA),os.length=m→aD v 8 124 cU zs L1→(zs++os.flatten).Perm (ek K on keep rows)→∀rest,
  TT (TM (m8 Wg Ch gL cz) L (Good zT Post) 0 true os 0) (YU 76 .normal) ([kE.rb].map .code++(.inLoop kE.rb::(.inBlock 2::(l10.map .code++[])))) (cl::Mt) 35 [] AR (some ⟨.fin .normal,[(10,v),(25,.chan (some Ch))]++rest,[.l L1],⟨[],[]⟩⟩):=by
  intro m
  induction m with
  |zero=>
   intro os v L1 zs sV ho hp rest
   have sV:=List.eq_nil_of_length_eq_zero sV
   subst sV
   refine pH (hC _) aEV fun m1 hm1=>?_
   show TT _ _ (.inRegion kE.Bt (0::[1])::_) _ _ _ _ _
   refine amR (E:=m8 Wg Ch gL cz) (a:=kE.Qq) (rc:= .tmp 25) (z:= zS) hl AV Tf (by kernel_rfl) (by kernel_rfl) (fun ρ=>by kernel_rfl) (by decide) rfl (fun a' oo b' v' Y he _=>by simp at he) fun _=>?_
   refine uU av hT<|zD 2<|wY<|UI hT (t:=false) (q:=false) hm1 rfl fun m2 Ea=>?_
   refine amU hT (k':=l10.map .code++[]) (by rw[qg];simp[exitTo]) ?_
   refine pH hT asR fun m3 hm3=>?_
   refine uU av hT<|zD 1 ?_
   have hp':zs.Perm (ek K on keep rows):=by simpa using hp
   refine jc (vs:=[v,.func (.func 109) ⟨[]⟩ ⟨[]⟩]) [1] (N3 ho (by rw[hp'.length_eq];omega) ((Zs hR).perm hp')) ?_
   rintro _ Y ⟨ys,hys,hoY⟩
   refine zD 1<|wY<|pH hT hm3 fun m4 hm4=>?_
   refine uU av hT<|zD 3<|wY<|amT hT hm4 fun m5 hm5=>?_
   refine aLr av hT (fn:=(Tryz.prog.funcs[76]?).getD default) v [] [0,1] (Y++((b7,.cells ⟨[.chan (some Ch)]⟩ 191 (0,0))::(b5,.cells ⟨[.func (.func g) ⟨fi⟩ ⟨ca⟩]⟩ 155 (0,0))::(b4,.cells ⟨[.int .u8 on]⟩ 99 (0,0))::(b3,.cells ⟨[pV f]⟩ 94 (0,0))::fr)) (by kernel_rfl)<|hT.mono _ ⟨ro,Y++fr⟩ _ (dQ (J:=[(b7,.cells ⟨[.chan (some Ch)]⟩ 191 (0,0)),(b5,.cells ⟨[.func (.func g) ⟨fi⟩ ⟨ca⟩]⟩ 155 (0,0)),(b4,.cells ⟨[.int .u8 on]⟩ 99 (0,0)),(b3,.cells ⟨[pV f]⟩ 94 (0,0))]) ?_ (Sub.refl _)) (kr v _ ⟨v,Y,ys,rfl,rfl,hys.trans hp',hoY⟩)
   rw[List.append_assoc]
   exact .append_left _ (List.perm_append_comm (l₁:=[_,_,_,_]))
  |succ m ih=>
   intro os v L1 zs sV ho hp rest
   refine pH (hC _) aEV fun m1 hm1=>?_
   show TT _ _ (.inRegion kE.Bt (0::[1])::_) _ _ _ _ _
   refine amR (E:=m8 Wg Ch gL cz) (a:=kE.Qq) (rc:= .tmp 25) (z:= zS) hl AV Tf (by kernel_rfl) (by kernel_rfl) (fun ρ=>by kernel_rfl) (by decide) rfl (fun a' oo b' v' Y he od=>?_) fun he=>by simp[he] at sV
   subst he
   have od:aD v' 8 124 cU oo Y:=od
   refine uU av (hC _)<|zD 2<|wY<|UI (hC _) (t:=true) (q:=true) hm1 rfl fun m2 Ea=>?_
   refine amQ (hC _)<|J9 (hC _) Ea fun m3 hm3=>?_
   have:=gq hm3
   subst this
   refine pH (hC _) aSN fun m4 hm4=>?_
   refine uU av (hC _)<|zD 3<|wY<|pH (hC _) hm4 fun m5 hm5=>?_
   have:=gq hm5
   subst this
   refine uU av (hC _)<|zD 2 ?_
   have QK:((zs++oo)++(a'++b').flatten).Perm (ek K on keep rows):=(aga a' oo b' zs).trans hp
   have hlz:zs.length+oo.length≤1250:=by
    have:=QK.length_eq
    simp only[List.length_append] at this
    omega
   refine jk (sz:=8) (ps:=zs) (qs:=oo) (enc:=cU) (w:=v') [1] [0] Y ho (fun s _ hZ=>od.sl hZ) (fun p _=>aj rfl) (by omega) fun v23 L23 yo=>zD 2<|wY<|amV (hC _) (aa5 (hC _) ?_)
   exact tSt (hC _) [(10,v23),(25,.chan (some Ch))] [.l L23] [0] fun rest=>ih (a'++b') v23 L23 (zs++oo) (by simp at sV ⊢;omega) yo QK rest
 refine tGe<|tSt (hC _) [(10,zS),(25,.chan (some Ch))] [.l []] [0] fun rest=>recv rows.length (iN K on keep rows rows.length) (zS) [] [] (xJ _ _ _ _ _) (aD.nil _ _ _) (by simp[ek]) rest
theorem adq{rows:List bX}{on:Int}{keep:aA→Bool}{ro:Nat→Option Obj}(hV:fU K)(hF:pq ro f K rows)(hR:rows.length≤2)(Gd:AW zT g=true)
 (ia:∀i r,rows[i]?=some r→∀aK,Sub ro aK→∀p∈bP K on,dL zT g (fi++[.agg ⟨cU (c8 K r i p)⟩]++ca) aK (.bool (keep (c8 K r i p)))):
 Hm zT 76 [pV f,.int .u8 on,.func (.func g) ⟨fi⟩ ⟨ca⟩] ro [] (fun v Y=>∃zs,zs.Perm (ek K on keep rows)∧aD v 8 124 cU zs Y):=
 fun fr=>Fn.mono (azx (fr:=fr) hV hF hR Gd ia) fun en s' ⟨v,Y,zs,h1,h2,h3,h4⟩=>⟨v,Y,h1,by rw[h2];exact St.le_refl _,zs,h3,h4⟩
theorem VC{rows:List bX}{on:Int}{ro:Nat→Option Obj}(hV:fU K)(hF:pq ro f K rows)(hR:rows.length≤2):
 Hm zT 40 [pV f,.int .u8 on] ro [] (fun v Y=>∃zs,zs.Perm (ek K on (dC K.gone K.new K.ai) rows)∧aD v 8 124 cU zs Y):=by
 refine H2 av [] [] bB fun fr=>zD 10<|M8 (vs:=[pV f,.int .u8 on,.func (.func 73) ⟨[pV f]⟩ ⟨[]⟩]) [] (fun _ _ h=>h) (adq (keep:=dC K.gone K.new K.ai) hV hF hR (by kernel_rfl) fun i r hr aK hs p hp=>?_) ?_
 ·obtain⟨c0,c1,c2,vc,vh,vr,vb,va,vf,vt,hv,hf,_⟩:=hF.up hs
  exact adn hf
 rintro v Y ⟨zs,hz,ho⟩
 refine zD 3<|Sx qC v [0,1] Y (Sub.refl _) ⟨zs,hz,ho⟩
theorem auP{x:Int}(h:0≤x∧x≤4):iV x 0 4=true:=by simp only[iV,Bool.and_eq_true,decide_eq_true_eq];omega
theorem acB:qV (bs [97]):=⟨by decide,.inl (by decide)⟩
def ahq(ro:Nat→Option Obj)(v:Value)(W:List (List Int)):Prop:=∃ws,bL ro v 1 gN ws∧du (fun w l=>bL ro w 1 db l) ws W
def qm(ro:Nat→Option Obj)(l:List Value)(W:List (List Int)):Prop:=∀aE,Sub ro aE→eI zT 85 [.agg ⟨l.take 3⟩] aE [] (fun r Y=>∃a n c,r= .tuple ⟨[.slice a n c,zI 0]⟩∧n=W.length∧∀lR,Knows lR Y→ahq lR (.slice a n c) W)
theorem ary{W:List (List Int)}{ro:Nat→Option Obj}(hK:gG ro l K)(hO:lO K)(hV:fU K)(hW:1≤W.length∧W.length≤4)(h76:qm ro l W):eI zT 63 [.agg ⟨l⟩] ro [] (fun r Y=>∃a n c,r= .slice a n c∧n=W.length∧∀lR,Knows lR Y→ahq lR r W):=by
 have Wc:=hK
 obtain⟨vS,vT,vc,vh,vr,vb,va,vf,fa,fc,hv,rfl,hS,hT,p6,nA,hr,hb,ha,hf⟩:=hK
 obtain⟨ib,hs,fw⟩:=id hS
 obtain⟨iI,ht,fo⟩:=id hT
 obtain⟨hc,hh,CI⟩:=id p6
 have uK:=hr
 have uC:=hb
 have ha0:=ha
 have hf0:=hf
 obtain⟨mg,RV,RS,kU,rfl,RU,Kv,Ku⟩:=hs
 obtain⟨eY,zh,zf,ee,rfl,zg,rH,rG⟩:=ht
 obtain⟨eE,zk,zi,ep,rfl,Cq,xW,xV⟩:=hc
 obtain⟨dM,uy,ux,dq,rfl,wA,qv,qu⟩:=hh
 obtain⟨kI,Hq,Hp,kH,rfl,M1,EZ,EY⟩:=hr
 obtain⟨mN,QE,QB,mA,rfl,QC,Ob,Oa⟩:=hb
 obtain⟨mi,M5,M3,lS,rfl,M4,KC,KB⟩:=ha
 obtain⟨jP,Bm,Bj,iZ,rfl,HV,w9,wZ⟩:=hf
 have BN:=hO.rules
 have qp:=hO.before.1
 have Nf:=hO.after.1
 have Nd:=hO.facts.1
 have Nc:=hO.ways.1
 have Hy:=fw.len
 have Dr:=fo.len
 have V0:=hO.pO.two
 have ZN:=hO.dI.nh
 have M0:∀(i:Nat) (p:cX),([]:List cX)[i]?=some p→cA ⟨ro,[]⟩ 0 (0+i*6) 6 (mH p):=fun _ _ h=>n9 h
 have hgl:=hO.yf
 refine bI av [] [] bB<|zD 2<|jn fun b1=>jd 6 [0]<|jc (vs:=[.agg ⟨[.slice mg ib.length kU,.slice eY iI.length ee,.slice fa 0 fc]⟩]) [] (h76 _ (Sub.refl _)) ?_
 rintro _ Z3 ⟨a10,n10,c10,rfl,aPi,adN⟩
 refine zD 9<|jp (vs:=[zI 0]) [] [] (fun aE hs hZ=>zw)<|zD 10<|zJ 15 ((n10:Int)=0) (fun h1=>?_) fun h1=>?_
 ·
  exfalso;omega
 refine zD 8<|zJ 20 ((n10:Int)>4) (fun h2=>?_) fun h2=>?_
 ·
  exfalso;omega
 refine jd 6 [1]<|jp (vs:=[.agg ⟨[.slice eE K.cs.length ep,.slice dM hv.length dq]⟩]) [] [] (fun aE hs hZ=>apE (p6.up hs) nA hV.dI)<|jp (vs:=[zI 0]) [] [] (fun aE hs hZ=>zw)<|jd 5 [1]<|jp (vs:=[.slice kI K.rules.length kH,.string (bs [97]),.string (bs [97])]) [] [] (fun aE hs hZ=>OH (uK.up hs) hV.rules.2 hV.rules.1 acB acB)<|zD 8<|jp (vs:=[zI 0]) [] [] (fun aE hs hZ=>zw)<|jd 6 [1,1]<|jp (vs:=[.agg ⟨[.slice mg ib.length kU,.slice eY iI.length ee,.slice fa 0 fc,.slice eE K.cs.length ep,.slice dM hv.length dq,.slice kI K.rules.length kH,.slice mN K.before.length mA,.slice mi K.after.length lS,zI K.gone,zI K.new,zI K.ai,.slice jP K.facts.length iZ]⟩,.slice mN K.before.length mA,.bool true]) [] [] (fun aE hs hZ=>adk (Wc.up hs) hO (uC.up hs))<|jp (vs:=[zI 0]) [] [] (fun aE hs hZ=>zw)<|jd 6 [1,1]<|jp (vs:=[.agg ⟨[.slice mg ib.length kU,.slice eY iI.length ee,.slice fa 0 fc,.slice eE K.cs.length ep,.slice dM hv.length dq,.slice kI K.rules.length kH,.slice mN K.before.length mA,.slice mi K.after.length lS,zI K.gone,zI K.new,zI K.ai,.slice jP K.facts.length iZ]⟩,.slice mi K.after.length lS,.bool false]) [] [] (fun aE hs hZ=>adl (Wc.up hs) hO (ha0.up hs))<|jp (vs:=[zI 0]) [] [] (fun aE hs hZ=>zw)<|jd 6 [1]<|jp (vs:=[zI K.gone,zI 0,zI 4]) [] [] (fun aE hs hZ=>fZ)<|zD 2<|jj 5 [(1,zP b1),(2,zS),(3,.slice a10 n10 c10),(56,.bool ((!(iV K.gone 0 4))||(!(iV K.new 0 4))))] (fun gJ=>?_) (fun hj=>?_)
 rotate_left
 refine js 51 (!(iV K.gone 0 4)) (fun h3=>?_) (fun h3=>?_)
 ·
  have sD:=h3
  try simp only[zB] at sD
  refine zD 5<|jw 56 (.bool ((!(iV K.gone 0 4))||(!(iV K.new 0 4)))) (w:= .bool true) (by rw[h3]<;>rfl) ?_
  exact hj _ (by kernel_rfl) (by kernel_rfl)
 ·
  have sD:=h3
  try simp only[zB] at sD
  refine jd 2 [1]<|jp (vs:=[zI K.new,zI 0,zI 4]) [] [] (fun aE hs hZ=>fZ)<|zD 2<|jw 56 (.bool ((!(iV K.gone 0 4))||(!(iV K.new 0 4)))) (w:= .bool (!(iV K.new 0 4))) (by rw[h3]<;>rfl) ?_
  exact hj _ (by kernel_rfl) (by kernel_rfl)
 refine zD 1<|jj 5 [(1,zP b1),(2,zS),(3,.slice a10 n10 c10),(62,.bool (((!(iV K.gone 0 4))||(!(iV K.new 0 4)))||(!(iV K.ai 0 4))))] (fun gJ=>?_) (fun hj=>?_)
 rotate_left
 refine js 57 ((!(iV K.gone 0 4))||(!(iV K.new 0 4))) (fun h4=>?_) (fun h4=>?_)
 ·
  have xw:=h4
  try simp only[zB] at xw
  refine zD 5<|jw 62 (.bool (((!(iV K.gone 0 4))||(!(iV K.new 0 4)))||(!(iV K.ai 0 4)))) (w:= .bool true) (by rw[h4]<;>rfl) ?_
  exact hj _ (by kernel_rfl) (by kernel_rfl)
 ·
  have xw:=h4
  try simp only[zB] at xw
  refine jd 2 [1]<|jp (vs:=[zI K.ai,zI 0,zI 4]) [] [] (fun aE hs hZ=>fZ)<|zD 2<|jw 62 (.bool (((!(iV K.gone 0 4))||(!(iV K.new 0 4)))||(!(iV K.ai 0 4)))) (w:= .bool (!(iV K.ai 0 4))) (by rw[h4]<;>rfl) ?_
  exact hj _ (by kernel_rfl) (by kernel_rfl)
 refine zD 1<|js 62 (((!(iV K.gone 0 4))||(!(iV K.new 0 4)))||(!(iV K.ai 0 4))) (fun h5=>?_) (fun h5=>?_)
 ·
  try simp only[zB] at h5
  exfalso;simp[auP hgl.1,auP hgl.2.1,auP hgl.2.2] at h5
 try simp only[zB] at h5
 refine jd 10 [1]<|zJ 67 ((K.facts.length:Int)>4) (fun h6=>?_) fun h6=>?_
 ·
  exfalso;omega
 refine jd 11 [1]<|eG [1,1,1,1,1,1,1,1,1,1,1,0,1,0,0] [] (fun(zz:Nat)=>[(1,zP b1),(2,zS),(3,.slice a10 n10 c10),(70,.slice jP K.facts.length iZ),(71,zI (K.facts.length:Int)),(72,zI (zz:Int))]) (fun(zz:Nat)=>[.b b1 (.cells ⟨[.slice mg ib.length kU,.slice eY iI.length ee,.slice fa 0 fc,.slice eE K.cs.length ep,.slice dM hv.length dq,.slice kI K.rules.length kH,.slice mN K.before.length mA,.slice mi K.after.length lS,zI K.gone,zI K.new,zI K.ai,.slice jP K.facts.length iZ]⟩ 38 (0,0)),.l Z3]) (fun(zz:Nat)=>zz≤K.facts.length) (fun(zz:Nat)=>K.facts.length-zz) 0 (by omega) [1,0] ?_
 rintro k hI K1 bU rest
 refine zD 5<|zJ 73 ((k:Int) <(K.facts.length:Int)) (fun h7=>?_) fun h7=>?_
 ·
  refine zD 7 ?_
  obtain⟨x75,SF⟩:=zG K.facts k
  refine iE iZ 3 w9 SF<|jl 0 (wZ _ _ SF)<|jn fun b6=>jd 8 [0,1,1]<|jcH (hi:=(k:Int)) (show bL _ _ _ _ _ from ⟨jP,Bm,Bj,iZ,rfl,HV,w9,wZ⟩) (by omega) (fun v81 aOz=>?_)
  obtain⟨am2,ax2,axY,am1,rfl,ax0,ax1,axZ⟩:=aOz
  refine jd 1 [0]<|jp (vs:=[.agg ⟨[.slice mg ib.length kU,.slice eY iI.length ee,.slice fa 0 fc,.slice eE K.cs.length ep,.slice dM hv.length dq,.slice kI K.rules.length kH,.slice mN K.before.length mA,.slice mi K.after.length lS,zI K.gone,zI K.new,zI K.ai,.slice jP K.facts.length iZ]⟩,.slice am2 ((((K.facts).take (k:Int).toNat)).length) am1,.agg ⟨[zI x75.a,zI x75.b,.bool x75.same]⟩]) [] [] (fun aE hs hZ=>azw (Wc.up hs) hO ((show bL _ _ _ _ _ from ⟨am2,ax2,axY,am1,rfl,ax0,ax1,axZ⟩).up hs) (by simp only[List.length_take,List.length_drop];omega) (hO.facts.2 _ (List.mem_of_getElem? SF)) (agf hO.apart SF)) ?_
  refine jp (vs:=[zI 0]) [] [] (fun aE hs hZ=>zw)<|zD 2<|ja ((k:Int)+1) (by omega)<|zD 2<|bO bU (k+1) (by omega) (by omega) [1,2] (Sub.refl _)
 refine zD 8<|aJ q0 (.slice a10 n10 c10) [] [1] Z3 (Sub.refl _) ⟨_,_,rfl,rfl,_,_,_,rfl,aPi,adN⟩
def mM(ro:Nat→Option Obj)(l:List Value)(K:aT)(rows:List bX):Prop:=∀aE,Sub ro aE→eI zT 34 [.agg ⟨l⟩] aE [] (fun r Y=>∃f,r= .tuple ⟨[pV f,zI 0]⟩∧∀lR,Sub aE lR→Knows lR Y→pq lR f K rows)
def cv(K:aT):Int:=IntKind.u8.wrap (dD .u8 1 (K.facts.length:Int)-1)
theorem O1{rows:List bX}{ro:Nat→Option Obj}(hV:fU K)(hF:pq ro f K rows):dL zT 37 [pV f] ro (.int .u8 (cv K)):=by
 obtain⟨c0,c1,c2,vc,vh,vr,vb,va,vf,vt,hv,hf,p6,nA,hr,Dv,Ie,Jt,bS⟩:=hF
 exact aNo Jt hf (by have:=hV.facts.1;omega)
theorem adf{rows:List bX}{ro:Nat→Option Obj}(hK:gG ro l K)(hV:fU K)(hR:rows.length≤2)(hB:mM ro l K rows):
 Hm zT 11 [.agg ⟨l⟩] ro [] (fun r Y=>r= .tuple ⟨[zI ((ek K (cv K) (dC K.gone K.new K.ai) rows).length:Int),zI 0]⟩∧Y=[]):=by
 obtain⟨v0,v1,v3,v4,v5,v6,v7,vb,fa,fc,hv,rfl,_⟩:=hK
 refine H2 av [] [] bB fun fr=>zD 2<|jn fun b1=>jd 6 [0]<|jc (vs:=[Value.agg ⟨[v0,v1,.slice fa 0 fc,v3,v4,v5,v6,v7,zI K.gone,zI K.new,zI K.ai,vb]⟩]) [] (hB _ (Sub.refl _)) ?_
 rintro _ Y ⟨f,rfl,hF⟩
 refine jf [0] Y (fun aE hs hk=>?_)
 have Ma:=hF aE hs hk
 refine zD 18<|jp (vs:=[pV f]) [] [] (fun AR Ht hZ=>O1 hV (Ma.up Ht))<|M8 (vs:=[pV f,.int .u8 (cv K)]) [] (fun _ _ h=>h) (VC hV Ma hR) ?_
 rintro v Y2 ⟨zs,hz,ho⟩
 obtain⟨a,c,rfl⟩:=ho.form
 refine zD 5<|Sx qC.a (.tuple ⟨[zI (zs.length:Int),zI 0]⟩) [2] [] hs ⟨by rw[hz.length_eq],rfl⟩
theorem oA{on:Int}{keep:aA→Bool}{rows:List bX}{x:aA}(h:x∈ek K on keep rows):∃i r p,rows[i]?=some r∧p∈bP K on∧x=c8 K r i p∧keep x=true:=by
 obtain⟨l,hl,hx⟩:=List.mem_flatten.1 h
 obtain⟨i,hi,rfl⟩:=List.mem_map.1 hl
 have hi:=List.mem_range.1 hi
 obtain⟨h1,h2⟩:=List.mem_filter.1 hx
 obtain⟨p,hp,rfl⟩:=List.mem_map.1 h1
 rw[List.getElem?_eq_getElem hi] at h2 ⊢
 exact⟨i,rows[i],p,List.getElem?_eq_getElem hi,hp,rfl,h2⟩
theorem Vm(r:bX)(p:Nat→Int):∀k,0≤HZ r p k∧HZ r p k≤k
 |0=>by simp[HZ]
 |k+1=>by
  have:=Vm r p k
  simp only[HZ]
  cases decide (p k>0)&& !r.c k (p k-1).toNat with
  |true=>simp only[cond_true];omega
  |false=>simp only[cond_false];omega
theorem sq(hV:fU K)(r:bX)(i:Nat)(p:Nat→Int):(-4≤(c8 K r i p).gone∧(c8 K r i p).gone≤4)∧(-4≤(c8 K r i p).new∧(c8 K r i p).new≤4)∧(0≤(c8 K r i p).ai∧(c8 K r i p).ai≤4):=by
 have h1:=U7 p
 have h2:=Vm r p 4
 have h3:=hV.before.1
 have h4:=hV.after.1
 simp only[c8]
 omega
def EJ(x:aA):Int:=x.gone+x.new+x.ai
theorem arq{rows:List bX}{ro:Nat→Option Obj}(hK:gG ro l K)(hV:fU K)(hR:rows.length≤2)(hB:mM ro l K rows):Hm zT 44 [.agg ⟨l⟩] ro [] (fun r Y=>∃zs,zs.Perm (ek K (cv K) (fun _=>true) rows)∧Y=[]∧((zs=[]∧r= .tuple ⟨[zI 0,zI 9]⟩)∨(zs≠[]∧r= .tuple ⟨[zI (uz (zs.map EJ)),zI 0]⟩))):=by
 obtain⟨v0,v1,v3,v4,v5,v6,v7,vb,fa,fc,hv,rfl,_⟩:=hK
 refine H2 av [] [] bB fun fr=>zD 2<|jn fun b1=>jd 6 [0]<|jc (vs:=[.agg ⟨[v0,v1,.slice fa 0 fc,v3,v4,v5,v6,v7,zI K.gone,zI K.new,zI K.ai,vb]⟩]) [] (hB _ (Sub.refl _)) ?_
 rintro _ Y12 ⟨f12,rfl,aR1⟩
 refine zD 5<|jf [0] Y12 (fun AR cy ju=>?_)
 have Ma:=aR1 _ cy ju
 refine zD 13<|jp (vs:=[zP f12]) [] [] (fun aE hs hZ=>O1 hV (Ma.up hs))<|M8 (vs:=[zP f12,.int .u8 (cv K),.func (.func 81) ⟨[]⟩ ⟨[]⟩]) [] (fun _ _ h=>h) (adq (keep:=fun _=>true) hV Ma hR (by kernel_rfl) (fun i r hr aK hs p hp=>akf)) ?_
 rintro v21 Y21 ⟨zs,aku,aAB⟩
 have akG:∀x∈zs,(-4≤x.gone∧x.gone≤4)∧(-4≤x.new∧x.new≤4)∧(0≤x.ai∧x.ai≤4):=fun x hx=>by obtain⟨i,r,p,_,_,rfl,_⟩:=oA (aku.mem_iff.1 hx);exact sq hV r i p
 have hzl:zs.length≤1250:=by rw[aku.length_eq];exact sO hV _ _ hR
 refine zD 6<|D7 aAB<|zD 1<|jf [0] Y21 (fun ro6 kN ZO=>?_)
 have hZ1:=aAB.lq ZO
 obtain⟨Bn,abM,abK,xX,rfl,abL,R6,R5⟩:=hZ1
 refine zD 1<|zJ 24 ((zs.length:Int)=0) (fun h7=>?_) fun h7=>?_
 ·
  refine zD 7<|Sx qC.a.a (.tuple ⟨[zI 0,zI 9]⟩) [1] [] (cy.trans kN) ⟨zs,aku,rfl,.inl ⟨List.eq_nil_of_length_eq_zero (by omega),rfl⟩⟩
 refine zD 14<|oU<|eG [1,1,1,1,1,1,0,1,0,0] [] (fun(zz:Nat×Value×Cells)=>[(2,zI 0),(3,zI 0),(7,zz.2.1),(25,.slice Bn zs.length xX),(26,zI (zs.length:Int)),(27,zI (zz.1:Int))]) (fun(zz:Nat×Value×Cells)=>[.l zz.2.2,.b b1 (.cells ⟨[v0,v1,.slice fa 0 fc,v3,v4,v5,v6,v7,zI K.gone,zI K.new,zI K.ai,vb]⟩ 38 (0,0)),.l fr]) (fun(zz:Nat×Value×Cells)=>zz.1≤zs.length∧aD zz.2.1 1 3 db ((zs.take zz.1).map EJ) zz.2.2) (fun(zz:Nat×Value×Cells)=>zs.length-zz.1) (⟨0,zS,[]⟩) ⟨by dsimp only;omega,aD.nil _ _ _⟩ [0,1,2] ?_
 rintro⟨k,vS,LS⟩ hI K1 bU rest
 dsimp only at hI
 refine zD 5<|zJ 28 ((k:Int) <(zs.length:Int)) (fun h8=>?_) fun h8=>?_
 ·
  refine zD 6 ?_
  obtain⟨C2,zx⟩:=zG zs k
  refine iE xX 8 R6 zx<|jl 0 (R5 _ _ zx)<|jn fun b9=>jd 2 [0] ?_
  have hg:=akG _ (List.mem_of_getElem? zx)
  refine jd 6 [0,0]<|ja (C2.gone+C2.new) (by omega)<|jd 2 [0]<|ja ((C2.gone+C2.new)+C2.ai) (by omega)<|jn fun dv=>jk (sz:=1) (ps:=((zs.take k).map EJ)) (qs:=[((C2.gone+C2.new)+C2.ai)]) (enc:=db) (w:= .slice (some ⟨dv,0,none⟩) 1 1) [2] [0] [(dv,.cells ⟨([((C2.gone+C2.new)+C2.ai)].map db).flatten⟩ 3 (0,0))] (hI.2) (fun s _ hZ=>cg [((C2.gone+C2.new)+C2.ai)] (hZ _ (.head _)) (by intro p hp;rfl)) (fun p _=>aj rfl) (by simp only[List.length_map,List.length_take,List.length_cons,List.length_nil];omega) (fun v41 L41 aeb=>?_)
  obtain⟨aaB,aau,aeP⟩:=aeb.form
  subst aeP
  refine zD 3<|ja ((k:Int)+1) (by omega)<|zD 2<|bO bU (⟨k+1,(.slice aaB ((((zs.take k).map EJ)++[((C2.gone+C2.new)+C2.ai)])).length aau),L41⟩) ⟨by dsimp only;omega,by rw[jq zx,List.map_append];exact aeb⟩ (by dsimp only;omega) [0,3,4] (Sub.refl _)
 refine zD 5<|jp (vs:=[vS]) [0] LS (fun aE hs hZ=>anq (hI.2.lq hZ) ⟨by simp only[List.length_map,List.length_take];omega,by simp only[List.length_map,List.length_take];omega⟩) ?_
 refine zD 5<|Sx qC.a.a (.tuple ⟨[zI (uz ((zs.take k).map EJ)),zI 0]⟩) [2] [] (cy.trans kN) ⟨zs,aku,rfl,.inr ⟨fun e=>by subst e;simp at*,by rw[show k=zs.length by omega,List.take_length]⟩⟩
end Go.L
