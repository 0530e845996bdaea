/- Part 16 of the proof: a program logic, contracts, a theorem on goroutines. -/
import Derived.Test.YtjpghiajlddegaaGreatDoorL15
set_option maxRecDepth 100000
set_option linter.all false
namespace Go.L
open Go Go.Conc Go.Proofs
variable {K:aZ} {fi ca l:List Value} {f:Nat} {g:FuncId} {b:Int}
def aEM(n:Nat):Prop:=∀(ro:Nat→Option Obj) (v:Value) (xs:List av) (L:Cells) (a m b:Int),az v 8 124 cN xs L→xs.length≤100000→fZ xs→(0≤a∧a <m∧m <b∧b≤xs.length)→(b-a).toNat=n→
 eo zT 188 [v,zI a,zI m,zI b,.func (.func 109) ⟨[]⟩ ⟨[]⟩] ro L (fun _ Y=>wm v xs Y)
theorem aal{v:Value}{xs:List av}{L:Cells}{a n:Int}{ro:Nat→Option Obj}(ho:az v 8 124 cN xs L)(hN:xs.length≤100000)(hP:fZ xs)(Ea:(0≤a∧0≤b∧0≤n)∧a+n≤xs.length∧b+n≤xs.length∧a≠b):eo zT 233 [v,zI a,zI b,zI n,.func (.func 109) ⟨[]⟩ ⟨[]⟩] ro L (fun r Y=>wm v xs Y):=by
 refine bA au [.l L] [] bn<|zD 5<|ez [1,0,0] [] (fun(zz:Int×(List av)×Cells)=>[(0,v),(1,zI a),(2,zI b),(3,zI n),(10,zI zz.1)]) (fun(zz:Int×(List av)×Cells)=>[.l zz.2.2]) (fun(zz:Int×(List av)×Cells)=>(0≤zz.1∧zz.1≤n)∧az v 8 124 cN zz.2.1 zz.2.2∧zz.2.1.Perm xs) (fun(zz:Int×(List av)×Cells)=>(n-zz.1).toNat) (⟨0,xs,L⟩) ⟨by dsimp only;omega,ho,.refl _⟩ [0] ?_
 rintro⟨i,ys,L⟩ hI K1 bM rest
 dsimp only at hI
 have U5:=hI.2.2.length_eq
 have hyp:=hP.perm hI.2.2
 refine zD 7<|zJ 13 (i <n) (fun h1=>?_) fun h1=>?_
 ·
  refine zD 8<|ja (a+i) (by omega)<|zD 3<|ja (b+i) (by omega)<|zD 3<|ja (b+i) (by omega) ?_
  obtain⟨We,aqi⟩:=zG ys ((b+i).toNat) (by first|omega| (simp only[List.length_set];omega))
  refine pP (b+i) 8 hI.2.1 aqi (Int.toNat_of_nonneg (show 0≤(b+i)∧(b+i) <((ys).length:Int) from (by first|omega| (simp only[List.length_set];omega))).1).symm (fun b28 aP2=>?_)
  refine oJ 0 [0] L (fun s _ hZ=>cv hI.2.1 aP2 hZ aqi)<|zD 3<|ja (a+i) (by omega) ?_
  obtain⟨Wd,KE⟩:=zG ys ((a+i).toNat) (by first|omega| (simp only[List.length_set];omega))
  refine pP (a+i) 8 hI.2.1 KE (Int.toNat_of_nonneg (show 0≤(a+i)∧(a+i) <((ys).length:Int) from (by first|omega| (simp only[List.length_set];omega))).1).symm (fun b34 aPZ=>?_)
  refine oJ 0 [0] L (fun s _ hZ=>cv hI.2.1 aPZ hZ KE) ?_
  obtain⟨x36,yg⟩:=zG ys ((a+i).toNat) (by first|omega| (simp only[List.length_set];omega))
  refine pP (a+i) 8 hI.2.1 yg (Int.toNat_of_nonneg (show 0≤(a+i)∧(a+i) <((ys).length:Int) from (by first|omega| (simp only[List.length_set];omega))).1).symm (fun dC ar7=>?_)
  refine aN 21 fun CM CY BG=>PT 0 0 [zI We.past,zI We.w0,zI We.w1,zI We.w2,zI We.w3,zI We.gone,zI We.new,zI We.af] We hI.2.1 ar7 yg rfl rfl (Nat.le_of_ble_eq_true rfl) fun L3 ho4=>iS BG [] ?_
  obtain⟨x37,Xw⟩:=zG ((ys.set ((a+i).toNat) We)) ((b+i).toNat) (by first|omega| (simp only[List.length_set];omega))
  refine pP (b+i) 8 ho4 Xw (Int.toNat_of_nonneg (show 0≤(b+i)∧(b+i) <(((ys.set ((a+i).toNat) We)).length:Int) from (by first|omega| (simp only[List.length_set];omega))).1).symm (fun b37 aPX=>?_)
  refine aN 23 fun sW sZ rD=>PT 0 0 [zI Wd.past,zI Wd.w0,zI Wd.w1,zI Wd.w2,zI Wd.w3,zI Wd.gone,zI Wd.new,zI Wd.af] Wd ho4 aPX Xw rfl rfl (Nat.le_of_ble_eq_true rfl) fun L6 XG=>eO rD<|zD 3<|ja (i+1) (by omega)<|zD 2<|bO bM (⟨(i+1),((ys.set ((a+i).toNat) We).set ((b+i).toNat) Wd),L6⟩) ⟨by dsimp only;omega,XG,(mW KE aqi).trans hI.2.2⟩ (by dsimp only;omega) [0] (Sub.refl _)
 refine zD 2<|aE q0 (.tuple ⟨[]⟩) [] [0] L (Sub.refl _) ⟨_,_,rfl,rfl,ys,hI.2.2,hI.2.1⟩
theorem aKA{v:Value}{xs:List av}{L:Cells}{a m:Int}{ro:Nat→Option Obj}(ho:az v 8 124 cN xs L)(hN:xs.length≤100000)(hP:fZ xs)(Ea:0≤a∧a <m∧m <b∧b≤xs.length):eo zT 213 [v,zI a,zI m,zI b,.func (.func 109) ⟨[]⟩ ⟨[]⟩] ro L (fun r Y=>wm v xs Y):=by
 refine bA au [.l L] [] bn<|zD 4<|ja (m-a) (by omega)<|zD 6<|ja (b-m) (by omega)<|zD 4<|ez [1,1,0,0,0] [] (fun(zz:Int×Int×(List av)×Cells)=>[(0,v),(2,zI m),(4,.func (.func 109) ⟨[]⟩ ⟨[]⟩),(10,zI zz.1),(11,zI zz.2.1)]) (fun(zz:Int×Int×(List av)×Cells)=>[.l zz.2.2.2]) (fun(zz:Int×Int×(List av)×Cells)=>((0 <zz.1∧zz.1≤m-a)∧0 <zz.2.1∧zz.2.1≤b-m)∧az v 8 124 cN zz.2.2.1 zz.2.2.2∧zz.2.2.1.Perm xs) (fun(zz:Int×Int×(List av)×Cells)=>(zz.1+zz.2.1).toNat) (⟨(m-a),(b-m),xs,L⟩) ⟨by dsimp only;omega,ho,.refl _⟩ [0] ?_
 rintro⟨i,j,ys,L⟩ hI K1 bM rest
 dsimp only at hI
 have U5:=hI.2.2.length_eq
 have hyp:=hP.perm hI.2.2
 refine zD 7<|js 20 (!decide (i=j)) (fun h1=>?_) (fun h1=>?_)
 ·
  replace h1:=of_decide_eq_false (by simpa using h1)
  refine zD 9<|zJ 23 (i>j) (fun h2=>?_) fun h2=>?_
  ·
   refine zD 6<|ja (m-i) (by omega)<|zD 3<|jc (vs:=[v,zI (m-i),zI m,zI j,.func (.func 109) ⟨[]⟩ ⟨[]⟩]) [0] (aal hI.2.1 (by omega) hyp (by omega)) ?_
   rintro aZb Y31 ⟨aHZ,aqK,aN3⟩
   have aVB:=aqK.length_eq
   have aVu:=fZ.perm hyp aqK
   refine zD 4<|ja (i-j) (by omega)<|zD 2<|bO bM (⟨(i-j),j,aHZ,Y31⟩) ⟨by dsimp only;omega,aN3,(aqK.trans hI.2.2)⟩ (by dsimp only;omega) [0] (Sub.refl _)
  refine zD 6<|ja (m-i) (by omega)<|zD 2<|ja (m+j) (by omega)<|zD 1<|ja ((m+j)-i) (by omega)<|zD 2<|jc (vs:=[v,zI (m-i),zI ((m+j)-i),zI i,.func (.func 109) ⟨[]⟩ ⟨[]⟩]) [0] (aal hI.2.1 (by omega) hyp (by omega)) ?_
  rintro aY9 Y46 ⟨aHX,aqI,aNZ⟩
  have aVz:=aqI.length_eq
  have aVs:=fZ.perm hyp aqI
  refine zD 4<|ja (j-i) (by omega)<|zD 2<|bO bM (⟨i,(j-i),aHX,Y46⟩) ⟨by dsimp only;omega,aNZ,(aqI.trans hI.2.2)⟩ (by dsimp only;omega) [0] (Sub.refl _)
 replace h1:=of_decide_eq_true (by simpa using h1)
 refine zD 6<|ja (m-i) (by omega)<|zD 3<|jc (vs:=[v,zI (m-i),zI m,zI i,.func (.func 109) ⟨[]⟩ ⟨[]⟩]) [0] (aal hI.2.1 (by omega) hyp (by omega)) ?_
 rintro aY8 Y57 ⟨aYm,aqG,ajE⟩
 have aVy:=aqG.length_eq
 have aVr:=fZ.perm hyp aqG
 refine zD 1<|aE q0 (.tuple ⟨[]⟩) [] [0] Y57 (Sub.refl _) ⟨_,_,rfl,rfl,_,(aqG.trans hI.2.2),ajE⟩
theorem awl{n:Nat}{v:Value}{xs:List av}{L:Cells}{a m:Int}{ro:Nat→Option Obj}(ih:∀k,k <n→aEM k)(ho:az v 8 124 cN xs L)(hN:xs.length≤100000)(hP:fZ xs)(Ea:0≤a∧a <m∧m <b∧b≤xs.length)(hn:(b-a).toNat=n):eo zT 188 [v,zI a,zI m,zI b,.func (.func 109) ⟨[]⟩ ⟨[]⟩] ro L (fun r Y=>wm v xs Y):=by
 refine bA au [.l L] [] bn<|zD 5<|ja (m-a) (by omega)<|zD 2<|zJ 28 ((m-a)=1) (fun h1=>?_) fun h1=>?_
 ·
  refine zD 13<|ez [0,1,0,1,1,0,0,0] [] (fun(zz:Int×Int)=>[(0,v),(1,zI a),(2,zI m),(3,zI b),(4,.func (.func 109) ⟨[]⟩ ⟨[]⟩),(10,zI zz.1),(11,zI zz.2)]) (fun(zz:Int×Int)=>[.l L]) (fun(zz:Int×Int)=>(m≤zz.1∧zz.1≤zz.2)∧zz.2≤b) (fun(zz:Int×Int)=>(zz.2-zz.1).toNat) (⟨m,b⟩) (by dsimp only;omega) [0] ?_
  rintro⟨i,j⟩ hI K1 bM rest
  dsimp only at hI
  refine zD 7<|zJ 33 (i <j) (fun h2=>?_) fun h2=>?_
  ·
   refine zD 7<|ja (i+j) (by omega)<|zD 6 ?_
   have hh:=D9 (x:=i+j) (by omega)
   refine zD 4 ?_
   obtain⟨x43,aqf⟩:=zG xs ((IntKind.i64.wrap (aQ .u64 (IntKind.u64.wrap (i+j)) 1)).toNat) (by first|omega| (simp only[List.length_set];omega))
   refine pP (IntKind.i64.wrap (aQ .u64 (IntKind.u64.wrap (i+j)) 1)) 8 ho aqf (Int.toNat_of_nonneg (show 0≤(IntKind.i64.wrap (aQ .u64 (IntKind.u64.wrap (i+j)) 1))∧(IntKind.i64.wrap (aQ .u64 (IntKind.u64.wrap (i+j)) 1)) <((xs).length:Int) from (by first|omega| (simp only[List.length_set];omega))).1).symm (fun b43 aPT=>?_)
   refine oJ 0 [0] L (fun s _ hZ=>cv ho aPT hZ aqf)<|zD 2 ?_
   obtain⟨Zh,RI⟩:=zG xs (a.toNat) (by first|omega| (simp only[List.length_set];omega))
   refine pP a 8 ho RI (Int.toNat_of_nonneg (show 0≤a∧a <((xs).length:Int) from (by first|omega| (simp only[List.length_set];omega))).1).symm (fun b47 aPS=>?_)
   refine oJ 0 [0] L (fun s _ hZ=>cv ho aPS hZ RI)<|aN 9 fun CM CY BG=>jp (vs:=[.agg ⟨[zI x43.past,zI x43.w0,zI x43.w1,zI x43.w2,zI x43.w3,zI x43.gone,zI x43.new,zI x43.af]⟩,.agg ⟨[zI Zh.past,zI Zh.w0,zI Zh.w1,zI Zh.w2,zI Zh.w3,zI Zh.gone,zI Zh.new,zI Zh.af]⟩]) [] [] (fun aA hs hZ=>(ajj (x:=x43) (y:=Zh) (hP _ (List.mem_of_getElem? aqf)) (hP _ (List.mem_of_getElem? RI))))<|bC BG [0]<|zD 2<|zJ 50 ((x43.past-Zh.past) <0) (fun h4=>?_) fun h4=>?_
   ·
    refine zD 3<|ja ((IntKind.i64.wrap (aQ .u64 (IntKind.u64.wrap (i+j)) 1))+1) (by omega)<|zD 2<|bO bM (⟨((IntKind.i64.wrap (aQ .u64 (IntKind.u64.wrap (i+j)) 1))+1),j⟩) (by dsimp only;omega) (by dsimp only;omega) [0] (Sub.refl _)
   refine zD 5<|bO bM (⟨i,(IntKind.i64.wrap (aQ .u64 (IntKind.u64.wrap (i+j)) 1))⟩) (by dsimp only;omega) (by dsimp only;omega) [0] (Sub.refl _)
  refine zD 9<|ez [0,1,0,1,1,1,0,1,0,0] [] (fun(zz:Int×(List av)×Cells)=>[(0,v),(1,zI a),(2,zI m),(3,zI b),(4,.func (.func 109) ⟨[]⟩ ⟨[]⟩),(10,zI i),(13,zI zz.1)]) (fun(zz:Int×(List av)×Cells)=>[.l zz.2.2]) (fun(zz:Int×(List av)×Cells)=>a≤zz.1∧az v 8 124 cN zz.2.1 zz.2.2∧zz.2.1.Perm xs) (fun(zz:Int×(List av)×Cells)=>(i-zz.1).toNat) (⟨a,xs,L⟩) ⟨by dsimp only;omega,ho,.refl _⟩ [0] ?_
  rintro⟨k,ys,L⟩ hJ K3 YZ rest
  dsimp only at hJ
  have U5:=hJ.2.2.length_eq
  have hyp:=hP.perm hJ.2.2
  refine zD 5<|ja (i-1) (by omega)<|zD 2<|zJ 58 (k <(i-1)) (fun h5=>?_) fun h5=>?_
  ·
   refine zD 9<|ja (k+1) (by omega)<|zD 2<|ja (k+1) (by omega) ?_
   obtain⟨Qh,Xv⟩:=zG ys ((k+1).toNat) (by first|omega| (simp only[List.length_set];omega))
   refine pP (k+1) 8 hJ.2.1 Xv (Int.toNat_of_nonneg (show 0≤(k+1)∧(k+1) <((ys).length:Int) from (by first|omega| (simp only[List.length_set];omega))).1).symm (fun b69 ar5=>?_)
   refine oJ 0 [0] L (fun s _ hZ=>cv hJ.2.1 ar5 hZ Xv)<|zD 2 ?_
   obtain⟨x73,Xu⟩:=zG ys (k.toNat) (by first|omega| (simp only[List.length_set];omega))
   refine pP k 8 hJ.2.1 Xu (Int.toNat_of_nonneg (show 0≤k∧k <((ys).length:Int) from (by first|omega| (simp only[List.length_set];omega))).1).symm (fun b73 aPN=>?_)
   refine oJ 0 [0] L (fun s _ hZ=>cv hJ.2.1 aPN hZ Xu) ?_
   obtain⟨x75,RG⟩:=zG ys (k.toNat) (by first|omega| (simp only[List.length_set];omega))
   refine pP k 8 hJ.2.1 RG (Int.toNat_of_nonneg (show 0≤k∧k <((ys).length:Int) from (by first|omega| (simp only[List.length_set];omega))).1).symm (fun b75 aPL=>?_)
   refine aN 15 fun uv uw sB=>PT 0 0 [zI Qh.past,zI Qh.w0,zI Qh.w1,zI Qh.w2,zI Qh.w3,zI Qh.gone,zI Qh.new,zI Qh.af] Qh hJ.2.1 aPL RG rfl rfl (Nat.le_of_ble_eq_true rfl) fun L7 ho8=>iS sB [] ?_
   obtain⟨x76,ayu⟩:=zG ((ys.set k.toNat Qh)) ((k+1).toNat) (by first|omega| (simp only[List.length_set];omega))
   refine pP (k+1) 8 ho8 ayu (Int.toNat_of_nonneg (show 0≤(k+1)∧(k+1) <(((ys.set k.toNat Qh)).length:Int) from (by first|omega| (simp only[List.length_set];omega))).1).symm (fun b76 aPK=>?_)
   refine aN 17 fun CL CX Dp=>PT 0 0 [zI x73.past,zI x73.w0,zI x73.w1,zI x73.w2,zI x73.w3,zI x73.gone,zI x73.new,zI x73.af] x73 ho8 aPK ayu rfl rfl (Nat.le_of_ble_eq_true rfl) fun L10 aqT=>eO Dp<|zD 3<|ja (k+1) (by omega)<|zD 2<|bO YZ (⟨(k+1),((ys.set k.toNat Qh).set ((k+1).toNat) x73),L10⟩) ⟨by dsimp only;omega,aqT,(mW Xu Xv).trans hJ.2.2⟩ (by dsimp only;omega) [0] (Sub.refl _)
  refine zD 3<|aE q0 (.tuple ⟨[]⟩) [] [0] L (Sub.refl _) ⟨_,_,rfl,rfl,_,hJ.2.2,hJ.2.1⟩
 refine zD 7<|ja (b-m) (by omega)<|zD 2<|zJ 80 ((b-m)=1) (fun Cu=>?_) fun Cu=>?_
 ·
  refine zD 13<|ez [1,0,1,0,1,1,0,0,0] [] (fun(zz:Int×Int)=>[(0,v),(1,zI a),(2,zI m),(3,zI b),(4,.func (.func 109) ⟨[]⟩ ⟨[]⟩),(14,zI zz.1),(15,zI zz.2)]) (fun(zz:Int×Int)=>[.l L]) (fun(zz:Int×Int)=>(a≤zz.1∧zz.1≤zz.2)∧zz.2≤m) (fun(zz:Int×Int)=>(zz.2-zz.1).toNat) (⟨a,m⟩) (by dsimp only;omega) [0] ?_
  rintro⟨i,j⟩ hI K6 hK6 rest
  dsimp only at hI
  refine zD 7<|zJ 85 (i <j) (fun xD=>?_) fun xD=>?_
  ·
   refine zD 7<|ja (i+j) (by omega)<|zD 6 ?_
   have hh:=D9 (x:=i+j) (by omega)
   refine zD 4 ?_
   obtain⟨x95,aqd⟩:=zG xs (m.toNat) (by first|omega| (simp only[List.length_set];omega))
   refine pP m 8 ho aqd (Int.toNat_of_nonneg (show 0≤m∧m <((xs).length:Int) from (by first|omega| (simp only[List.length_set];omega))).1).symm (fun b95 aPI=>?_)
   refine oJ 0 [0] L (fun s _ hZ=>cv ho aPI hZ aqd)<|zD 2 ?_
   obtain⟨x99,aqc⟩:=zG xs ((IntKind.i64.wrap (aQ .u64 (IntKind.u64.wrap (i+j)) 1)).toNat) (by first|omega| (simp only[List.length_set];omega))
   refine pP (IntKind.i64.wrap (aQ .u64 (IntKind.u64.wrap (i+j)) 1)) 8 ho aqc (Int.toNat_of_nonneg (show 0≤(IntKind.i64.wrap (aQ .u64 (IntKind.u64.wrap (i+j)) 1))∧(IntKind.i64.wrap (aQ .u64 (IntKind.u64.wrap (i+j)) 1)) <((xs).length:Int) from (by first|omega| (simp only[List.length_set];omega))).1).symm (fun b99 aPH=>?_)
   refine oJ 0 [0] L (fun s _ hZ=>cv ho aPH hZ aqc)<|aN 9 fun ahp ahO Sw=>jp (vs:=[.agg ⟨[zI x95.past,zI x95.w0,zI x95.w1,zI x95.w2,zI x95.w3,zI x95.gone,zI x95.new,zI x95.af]⟩,.agg ⟨[zI x99.past,zI x99.w0,zI x99.w1,zI x99.w2,zI x99.w3,zI x99.gone,zI x99.new,zI x99.af]⟩]) [] [] (fun aA hs hZ=>(ajj (x:=x95) (y:=x99) (hP _ (List.mem_of_getElem? aqd)) (hP _ (List.mem_of_getElem? aqc))))<|bC Sw [0]<|zD 3<|js 103 (!(decide ((x95.past-x99.past) <0))) (fun Ga=>?_) (fun Ga=>?_)
   ·
    try simp only[zB] at Ga
    refine zD 3<|ja ((IntKind.i64.wrap (aQ .u64 (IntKind.u64.wrap (i+j)) 1))+1) (by omega)<|zD 2<|bO hK6 (⟨((IntKind.i64.wrap (aQ .u64 (IntKind.u64.wrap (i+j)) 1))+1),j⟩) (by dsimp only;omega) (by dsimp only;omega) [0] (Sub.refl _)
   try simp only[zB] at Ga
   refine zD 5<|bO hK6 (⟨i,(IntKind.i64.wrap (aQ .u64 (IntKind.u64.wrap (i+j)) 1))⟩) (by dsimp only;omega) (by dsimp only;omega) [0] (Sub.refl _)
  refine zD 9<|ez [1,0,1,0,1,1,1,0,1,0,0] [] (fun(zz:Int×(List av)×Cells)=>[(0,v),(1,zI a),(2,zI m),(3,zI b),(4,.func (.func 109) ⟨[]⟩ ⟨[]⟩),(14,zI i),(17,zI zz.1)]) (fun(zz:Int×(List av)×Cells)=>[.l zz.2.2]) (fun(zz:Int×(List av)×Cells)=>(a≤i∧zz.1≤m)∧az v 8 124 cN zz.2.1 zz.2.2∧zz.2.1.Perm xs) (fun(zz:Int×(List av)×Cells)=>(zz.1-i).toNat) (⟨m,xs,L⟩) ⟨by dsimp only;omega,ho,.refl _⟩ [0] ?_
  rintro⟨k,ys,L⟩ hJ K8 hK8 rest
  dsimp only at hJ
  have U5:=hJ.2.2.length_eq
  have hyp:=hP.perm hJ.2.2
  refine zD 7<|zJ 110 (k>i) (fun SE=>?_) fun SE=>?_
  ·
   refine zD 9<|ja (k-1) (by omega)<|zD 2<|ja (k-1) (by omega) ?_
   obtain⟨AU,acB⟩:=zG ys ((k-1).toNat) (by first|omega| (simp only[List.length_set];omega))
   refine pP (k-1) 8 hJ.2.1 acB (Int.toNat_of_nonneg (show 0≤(k-1)∧(k-1) <((ys).length:Int) from (by first|omega| (simp only[List.length_set];omega))).1).symm (fun bdP aAw=>?_)
   refine oJ 0 [0] L (fun s _ hZ=>cv hJ.2.1 aAw hZ acB)<|zD 2 ?_
   obtain⟨Hl,acA⟩:=zG ys (k.toNat) (by first|omega| (simp only[List.length_set];omega))
   refine pP k 8 hJ.2.1 acA (Int.toNat_of_nonneg (show 0≤k∧k <((ys).length:Int) from (by first|omega| (simp only[List.length_set];omega))).1).symm (fun bdO aAv=>?_)
   refine oJ 0 [0] L (fun s _ hZ=>cv hJ.2.1 aAv hZ acA) ?_
   obtain⟨aYt,al4⟩:=zG ys (k.toNat) (by first|omega| (simp only[List.length_set];omega))
   refine pP k 8 hJ.2.1 al4 (Int.toNat_of_nonneg (show 0≤k∧k <((ys).length:Int) from (by first|omega| (simp only[List.length_set];omega))).1).symm (fun bdN aAu=>?_)
   refine aN 15 fun Y6 ZN XU=>PT 0 0 [zI AU.past,zI AU.w0,zI AU.w1,zI AU.w2,zI AU.w3,zI AU.gone,zI AU.new,zI AU.af] AU hJ.2.1 aAu al4 rfl rfl (Nat.le_of_ble_eq_true rfl) fun L18 azj=>iS XU [] ?_
   obtain⟨aYs,acz⟩:=zG ((ys.set k.toNat AU)) ((k-1).toNat) (by first|omega| (simp only[List.length_set];omega))
   refine pP (k-1) 8 azj acz (Int.toNat_of_nonneg (show 0≤(k-1)∧(k-1) <(((ys.set k.toNat AU)).length:Int) from (by first|omega| (simp only[List.length_set];omega))).1).symm (fun LN aAt=>?_)
   refine aN 17 fun HY H4 yt=>PT 0 0 [zI Hl.past,zI Hl.w0,zI Hl.w1,zI Hl.w2,zI Hl.w3,zI Hl.gone,zI Hl.new,zI Hl.af] Hl azj aAt acz rfl rfl (Nat.le_of_ble_eq_true rfl) fun L21 aN5=>eO yt<|zD 3<|ja (k-1) (by omega)<|zD 2<|bO hK8 (⟨(k-1),((ys.set k.toNat AU).set ((k-1).toNat) Hl),L21⟩) ⟨by dsimp only;omega,aN5,(mW acA acB).trans hJ.2.2⟩ (by dsimp only;omega) [0] (Sub.refl _)
  refine zD 3<|aE q0 (.tuple ⟨[]⟩) [] [0] L (Sub.refl _) ⟨_,_,rfl,rfl,_,hJ.2.2,hJ.2.1⟩
 refine zD 6<|ja (a+b) (by omega)<|zD 6 ?_
 have bbY:=D9 (x:=a+b) (by omega)
 refine zD 3<|ja ((IntKind.i64.wrap (aQ .u64 (IntKind.u64.wrap (a+b)) 1))+m) (by omega)<|zD 14<|IT [1,1,1,1,1,1] [] (fun(zz:Int×Int)=>[(0,v),(1,zI a),(2,zI m),(3,zI b),(4,.func (.func 109) ⟨[]⟩ ⟨[]⟩),(18,zI (IntKind.i64.wrap (aQ .u64 (IntKind.u64.wrap (a+b)) 1))),(19,zI ((IntKind.i64.wrap (aQ .u64 (IntKind.u64.wrap (a+b)) 1))+m)),(20,zI zz.1),(21,zI zz.2)]) (fun(zz:Int×Int)=>[.l L]) (fun(zz:Int×Int)=>(a≤zz.1∧zz.1≤zz.2)∧zz.2≤b∧a≤((IntKind.i64.wrap (aQ .u64 (IntKind.u64.wrap (a+b)) 1))+m)-zz.2∧((IntKind.i64.wrap (aQ .u64 (IntKind.u64.wrap (a+b)) 1))+m)-zz.1≤b) ?_ (fun K11 aCP=>?_)
 ·
  rintro⟨s0,r0⟩ hC rest
  dsimp only at hC
  refine zD 3<|ja (((IntKind.i64.wrap (aQ .u64 (IntKind.u64.wrap (a+b)) 1))+m)-1) (by omega)<|zD 4<|ez [1,1,1,1,1,1,1,0,0,0] [] (fun(zz:Int×Int)=>[(0,v),(1,zI a),(2,zI m),(3,zI b),(4,.func (.func 109) ⟨[]⟩ ⟨[]⟩),(18,zI (IntKind.i64.wrap (aQ .u64 (IntKind.u64.wrap (a+b)) 1))),(19,zI ((IntKind.i64.wrap (aQ .u64 (IntKind.u64.wrap (a+b)) 1))+m)),(20,zI zz.1),(21,zI zz.2),(22,zI (((IntKind.i64.wrap (aQ .u64 (IntKind.u64.wrap (a+b)) 1))+m)-1))]) (fun(zz:Int×Int)=>[.l L]) (fun(zz:Int×Int)=>(a≤zz.1∧zz.1≤zz.2)∧zz.2≤b∧a≤((IntKind.i64.wrap (aQ .u64 (IntKind.u64.wrap (a+b)) 1))+m)-zz.2∧((IntKind.i64.wrap (aQ .u64 (IntKind.u64.wrap (a+b)) 1))+m)-zz.1≤b) (fun(zz:Int×Int)=>(zz.2-zz.1).toNat) (⟨s0,r0⟩) hC [0] ?_
  rintro⟨sx,r⟩ hK K12 aCO rest
  dsimp only at hK
  refine zD 7<|zJ 151 (sx <r) (fun Eb=>?_) fun Eb=>?_
  ·
   refine zD 7<|ja (sx+r) (by omega)<|zD 6 ?_
   have hsr:=D9 (x:=sx+r) (by omega)
   refine zD 5<|ja ((((IntKind.i64.wrap (aQ .u64 (IntKind.u64.wrap (a+b)) 1))+m)-1)-(IntKind.i64.wrap (aQ .u64 (IntKind.u64.wrap (sx+r)) 1))) (by omega) ?_
   obtain⟨Hk,acw⟩:=zG xs (((((IntKind.i64.wrap (aQ .u64 (IntKind.u64.wrap (a+b)) 1))+m)-1)-(IntKind.i64.wrap (aQ .u64 (IntKind.u64.wrap (sx+r)) 1))).toNat) (by first|omega| (simp only[List.length_set];omega))
   refine pP ((((IntKind.i64.wrap (aQ .u64 (IntKind.u64.wrap (a+b)) 1))+m)-1)-(IntKind.i64.wrap (aQ .u64 (IntKind.u64.wrap (sx+r)) 1))) 8 ho acw (Int.toNat_of_nonneg (show 0≤((((IntKind.i64.wrap (aQ .u64 (IntKind.u64.wrap (a+b)) 1))+m)-1)-(IntKind.i64.wrap (aQ .u64 (IntKind.u64.wrap (sx+r)) 1)))∧((((IntKind.i64.wrap (aQ .u64 (IntKind.u64.wrap (a+b)) 1))+m)-1)-(IntKind.i64.wrap (aQ .u64 (IntKind.u64.wrap (sx+r)) 1))) <((xs).length:Int) from (by first|omega| (simp only[List.length_set];omega))).1).symm (fun bdL aAr=>?_)
   refine oJ 0 [0] L (fun s _ hZ=>cv ho aAr hZ acw)<|zD 2 ?_
   obtain⟨Hj,acv⟩:=zG xs ((IntKind.i64.wrap (aQ .u64 (IntKind.u64.wrap (sx+r)) 1)).toNat) (by first|omega| (simp only[List.length_set];omega))
   refine pP (IntKind.i64.wrap (aQ .u64 (IntKind.u64.wrap (sx+r)) 1)) 8 ho acv (Int.toNat_of_nonneg (show 0≤(IntKind.i64.wrap (aQ .u64 (IntKind.u64.wrap (sx+r)) 1))∧(IntKind.i64.wrap (aQ .u64 (IntKind.u64.wrap (sx+r)) 1)) <((xs).length:Int) from (by first|omega| (simp only[List.length_set];omega))).1).symm (fun bdK aAq=>?_)
   refine oJ 0 [0] L (fun s _ hZ=>cv ho aAq hZ acv)<|aN 11 fun ak9 alp KU=>jp (vs:=[.agg ⟨[zI Hk.past,zI Hk.w0,zI Hk.w1,zI Hk.w2,zI Hk.w3,zI Hk.gone,zI Hk.new,zI Hk.af]⟩,.agg ⟨[zI Hj.past,zI Hj.w0,zI Hj.w1,zI Hj.w2,zI Hj.w3,zI Hj.gone,zI Hj.new,zI Hj.af]⟩]) [] [] (fun aA hs hZ=>(ajj (x:=Hk) (y:=Hj) (hP _ (List.mem_of_getElem? acw)) (hP _ (List.mem_of_getElem? acv))))<|bC KU [0]<|zD 3<|js 171 (!(decide ((Hk.past-Hj.past) <0))) (fun h25=>?_) (fun h25=>?_)
   ·
    try simp only[zB] at h25
    refine zD 3<|ja ((IntKind.i64.wrap (aQ .u64 (IntKind.u64.wrap (sx+r)) 1))+1) (by omega)<|zD 2<|bO aCO (⟨((IntKind.i64.wrap (aQ .u64 (IntKind.u64.wrap (sx+r)) 1))+1),r⟩) (by dsimp only;omega) (by dsimp only;omega) [0] (Sub.refl _)
   try simp only[zB] at h25
   refine zD 5<|bO aCO (⟨sx,(IntKind.i64.wrap (aQ .u64 (IntKind.u64.wrap (sx+r)) 1))⟩) (by dsimp only;omega) (by dsimp only;omega) [0] (Sub.refl _)
  refine zD 6<|ja (((IntKind.i64.wrap (aQ .u64 (IntKind.u64.wrap (a+b)) 1))+m)-sx) (by omega)<|zD 9<|jj 4 [(0,v),(1,zI a),(2,zI m),(3,zI b),(4,.func (.func 109) ⟨[]⟩ ⟨[]⟩),(18,zI (IntKind.i64.wrap (aQ .u64 (IntKind.u64.wrap (a+b)) 1))),(20,zI sx),(24,zI (((IntKind.i64.wrap (aQ .u64 (IntKind.u64.wrap (a+b)) 1))+m)-sx)),(185,.bool ((decide (sx <m))&&(decide (m <(((IntKind.i64.wrap (aQ .u64 (IntKind.u64.wrap (a+b)) 1))+m)-sx)))))] (fun gD=>?_) (fun hj=>?_)
  rotate_left
  refine js 181 (decide (sx <m)) (fun X3=>?_) (fun X3=>?_)
  ·
   have aeC:=X3
   replace aeC:=of_decide_eq_true aeC
   refine zD 4<|jw 185 (.bool ((decide (sx <m))&&(decide (m <(((IntKind.i64.wrap (aQ .u64 (IntKind.u64.wrap (a+b)) 1))+m)-sx))))) (w:= .bool (decide (m <(((IntKind.i64.wrap (aQ .u64 (IntKind.u64.wrap (a+b)) 1))+m)-sx)))) (by rw[X3]<;>rfl) ?_
   exact hj _ (by kernel_rfl) (by kernel_rfl)
  ·
   have aeC:=X3
   replace aeC:=of_decide_eq_false aeC
   refine zD 4<|jw 185 (.bool ((decide (sx <m))&&(decide (m <(((IntKind.i64.wrap (aQ .u64 (IntKind.u64.wrap (a+b)) 1))+m)-sx))))) (w:= .bool false) (by rw[X3]<;>rfl) ?_
   exact hj _ (by kernel_rfl) (by kernel_rfl)
  refine zD 1<|IT [1,1,1,1,1,1,1,1,1,1] [] (fun(zz:(List av)×Cells)=>[(0,v),(1,zI a),(3,zI b),(4,.func (.func 109) ⟨[]⟩ ⟨[]⟩),(18,zI (IntKind.i64.wrap (aQ .u64 (IntKind.u64.wrap (a+b)) 1))),(20,zI sx),(24,zI (((IntKind.i64.wrap (aQ .u64 (IntKind.u64.wrap (a+b)) 1))+m)-sx))]) (fun(zz:(List av)×Cells)=>[.l zz.2]) (fun(zz:(List av)×Cells)=>zz.1.Perm xs∧az v 8 124 cN zz.1 zz.2) ?_ (fun K14 XX=>?_)
  ·
   rintro⟨ys,L⟩ hA rest
   dsimp only at hA
   have U5:=hA.1.length_eq
   have hyp:=hP.perm hA.1
   refine zD 7<|jj 4 [(0,v),(1,zI a),(3,zI b),(4,.func (.func 109) ⟨[]⟩ ⟨[]⟩),(18,zI (IntKind.i64.wrap (aQ .u64 (IntKind.u64.wrap (a+b)) 1))),(20,zI sx),(24,zI (((IntKind.i64.wrap (aQ .u64 (IntKind.u64.wrap (a+b)) 1))+m)-sx)),(199,.bool ((decide (a <sx))&&(decide (sx <(IntKind.i64.wrap (aQ .u64 (IntKind.u64.wrap (a+b)) 1))))))] (fun gD=>?_) (fun hj=>?_)
   rotate_left
   refine js 195 (decide (a <sx)) (fun h27=>?_) (fun h27=>?_)
   ·
    have aeB:=h27
    replace aeB:=of_decide_eq_true aeB
    refine zD 4<|jw 199 (.bool ((decide (a <sx))&&(decide (sx <(IntKind.i64.wrap (aQ .u64 (IntKind.u64.wrap (a+b)) 1)))))) (w:= .bool (decide (sx <(IntKind.i64.wrap (aQ .u64 (IntKind.u64.wrap (a+b)) 1))))) (by rw[h27]<;>rfl) ?_
    exact hj _ (by kernel_rfl) (by kernel_rfl)
   ·
    have aeB:=h27
    replace aeB:=of_decide_eq_false aeB
    refine zD 4<|jw 199 (.bool ((decide (a <sx))&&(decide (sx <(IntKind.i64.wrap (aQ .u64 (IntKind.u64.wrap (a+b)) 1)))))) (w:= .bool false) (by rw[h27]<;>rfl) ?_
    exact hj _ (by kernel_rfl) (by kernel_rfl)
   refine zD 1<|IT [1,1,1,1,1,1,1,1,1,1,1] [] (fun(zz:(List av)×Cells)=>[(0,v),(3,zI b),(4,.func (.func 109) ⟨[]⟩ ⟨[]⟩),(18,zI (IntKind.i64.wrap (aQ .u64 (IntKind.u64.wrap (a+b)) 1))),(24,zI (((IntKind.i64.wrap (aQ .u64 (IntKind.u64.wrap (a+b)) 1))+m)-sx))]) (fun(zz:(List av)×Cells)=>[.l zz.2]) (fun(zz:(List av)×Cells)=>zz.1.Perm xs∧az v 8 124 cN zz.1 zz.2) ?_ (fun K15 aCN=>?_)
   ·
    rintro⟨ys,L⟩ hB rest
    dsimp only at hB
    have U5:=hB.1.length_eq
    have hyp:=hP.perm hB.1
    refine zD 6<|jj 4 [(0,v),(3,zI b),(4,.func (.func 109) ⟨[]⟩ ⟨[]⟩),(18,zI (IntKind.i64.wrap (aQ .u64 (IntKind.u64.wrap (a+b)) 1))),(24,zI (((IntKind.i64.wrap (aQ .u64 (IntKind.u64.wrap (a+b)) 1))+m)-sx)),(213,.bool ((decide ((IntKind.i64.wrap (aQ .u64 (IntKind.u64.wrap (a+b)) 1)) <(((IntKind.i64.wrap (aQ .u64 (IntKind.u64.wrap (a+b)) 1))+m)-sx)))&&(decide ((((IntKind.i64.wrap (aQ .u64 (IntKind.u64.wrap (a+b)) 1))+m)-sx) <b))))] (fun gD=>?_) (fun hj=>?_)
    rotate_left
    refine js 209 (decide ((IntKind.i64.wrap (aQ .u64 (IntKind.u64.wrap (a+b)) 1)) <(((IntKind.i64.wrap (aQ .u64 (IntKind.u64.wrap (a+b)) 1))+m)-sx))) (fun XZ=>?_) (fun XZ=>?_)
    ·
     have aeA:=XZ
     replace aeA:=of_decide_eq_true aeA
     refine zD 4<|jw 213 (.bool ((decide ((IntKind.i64.wrap (aQ .u64 (IntKind.u64.wrap (a+b)) 1)) <(((IntKind.i64.wrap (aQ .u64 (IntKind.u64.wrap (a+b)) 1))+m)-sx)))&&(decide ((((IntKind.i64.wrap (aQ .u64 (IntKind.u64.wrap (a+b)) 1))+m)-sx) <b)))) (w:= .bool (decide ((((IntKind.i64.wrap (aQ .u64 (IntKind.u64.wrap (a+b)) 1))+m)-sx) <b))) (by rw[XZ]<;>rfl) ?_
     exact hj _ (by kernel_rfl) (by kernel_rfl)
    ·
     have aeA:=XZ
     replace aeA:=of_decide_eq_false aeA
     refine zD 4<|jw 213 (.bool ((decide ((IntKind.i64.wrap (aQ .u64 (IntKind.u64.wrap (a+b)) 1)) <(((IntKind.i64.wrap (aQ .u64 (IntKind.u64.wrap (a+b)) 1))+m)-sx)))&&(decide ((((IntKind.i64.wrap (aQ .u64 (IntKind.u64.wrap (a+b)) 1))+m)-sx) <b)))) (w:= .bool false) (by rw[XZ]<;>rfl) ?_
     exact hj _ (by kernel_rfl) (by kernel_rfl)
    refine zD 1<|js 213 ((decide ((IntKind.i64.wrap (aQ .u64 (IntKind.u64.wrap (a+b)) 1)) <(((IntKind.i64.wrap (aQ .u64 (IntKind.u64.wrap (a+b)) 1))+m)-sx)))&&(decide ((((IntKind.i64.wrap (aQ .u64 (IntKind.u64.wrap (a+b)) 1))+m)-sx) <b))) (fun h29=>?_) (fun h29=>?_)
    ·
     try simp only[zB] at h29
     refine zD 7<|jc (vs:=[v,zI (IntKind.i64.wrap (aQ .u64 (IntKind.u64.wrap (a+b)) 1)),zI (((IntKind.i64.wrap (aQ .u64 (IntKind.u64.wrap (a+b)) 1))+m)-sx),zI b,.func (.func 109) ⟨[]⟩ ⟨[]⟩]) [0] (ih _ (show (b-(IntKind.i64.wrap (aQ .u64 (IntKind.u64.wrap (a+b)) 1))).toNat <n by omega) _ _ _ _ _ _ _ hB.2 (by omega) hyp (by omega) rfl) ?_
     rintro aUF aSE ⟨aTO,acQ,azf⟩
     have aMU:=acQ.length_eq
     have aMQ:=fZ.perm hyp acQ
     refine zD 1<|aE q0 (.tuple ⟨[]⟩) [] [0] aSE (Sub.refl _) ⟨_,_,rfl,rfl,_,(acQ.trans hB.1),azf⟩
    try simp only[zB] at h29
    refine zD 2<|aE q0 (.tuple ⟨[]⟩) [] [0] L (Sub.refl _) ⟨_,_,rfl,rfl,_,hB.1,hB.2⟩
   refine js 199 ((decide (a <sx))&&(decide (sx <(IntKind.i64.wrap (aQ .u64 (IntKind.u64.wrap (a+b)) 1))))) (fun h30=>?_) (fun h30=>?_)
   ·
    try simp only[zB] at h30
    refine zD 7<|jc (vs:=[v,zI a,zI sx,zI (IntKind.i64.wrap (aQ .u64 (IntKind.u64.wrap (a+b)) 1)),.func (.func 109) ⟨[]⟩ ⟨[]⟩]) [0] (ih _ (show ((IntKind.i64.wrap (aQ .u64 (IntKind.u64.wrap (a+b)) 1))-a).toNat <n by omega) _ _ _ _ _ _ _ hA.2 (by omega) hyp (by omega) rfl) ?_
    rintro aUG aSF ⟨au7,acR,azh⟩
    have aMV:=acR.length_eq
    have aMR:=fZ.perm hyp acR
    refine zD 1<|bO aCN ⟨au7,aSF⟩ ⟨(acR.trans hA.1),azh⟩ Nat.zero_lt_one [0] (Sub.refl _)
   try simp only[zB] at h30
   refine zD 2<|bO aCN ⟨ys,L⟩ ⟨hA.1,hA.2⟩ Nat.zero_lt_one [0] (Sub.refl _)
  refine js 185 ((decide (sx <m))&&(decide (m <(((IntKind.i64.wrap (aQ .u64 (IntKind.u64.wrap (a+b)) 1))+m)-sx)))) (fun h31=>?_) (fun h31=>?_)
  ·
   try simp only[zB] at h31
   refine zD 7<|jc (vs:=[v,zI sx,zI m,zI (((IntKind.i64.wrap (aQ .u64 (IntKind.u64.wrap (a+b)) 1))+m)-sx),.func (.func 109) ⟨[]⟩ ⟨[]⟩]) [0] (aKA ho (by omega) hP (by omega)) ?_
   rintro aUH aSG ⟨au8,acS,azi⟩
   have aMW:=acS.length_eq
   have aMS:=fZ.perm hP acS
   refine zD 1<|bO XX ⟨au8,aSG⟩ ⟨(acS.trans (.refl _)),azi⟩ Nat.zero_lt_one [0] (Sub.refl _)
  try simp only[zB] at h31
  refine zD 2<|bO XX ⟨xs,L⟩ ⟨(.refl _),ho⟩ Nat.zero_lt_one [0] (Sub.refl _)
 refine zJ 140 (m>(IntKind.i64.wrap (aQ .u64 (IntKind.u64.wrap (a+b)) 1))) (fun h32=>?_) fun h32=>?_
 ·
  refine zD 5<|ja (((IntKind.i64.wrap (aQ .u64 (IntKind.u64.wrap (a+b)) 1))+m)-b) (by omega)<|zD 6<|bO aCP ⟨(((IntKind.i64.wrap (aQ .u64 (IntKind.u64.wrap (a+b)) 1))+m)-b),(IntKind.i64.wrap (aQ .u64 (IntKind.u64.wrap (a+b)) 1))⟩ (by dsimp only;omega) Nat.zero_lt_one [0] (Sub.refl _)
 refine zD 10<|bO aCP ⟨a,m⟩ (by dsimp only;omega) Nat.zero_lt_one [0] (Sub.refl _)
theorem aKz:∀n,aEM n:=by
 intro n
 induction n using Nat.strongRecOn with
 |_ n ih=>exact fun ro v xs L a m b ho hN hP Ea hn=>awl ih ho hN hP Ea hn
theorem alz{v:Value}{xs:List av}{L:Cells}{a m:Int}{ro:Nat→Option Obj}(ho:az v 8 124 cN xs L)(hN:xs.length≤100000)(hP:fZ xs)(Ea:0≤a∧a <m∧m <b∧b≤xs.length):eo zT 188 [v,zI a,zI m,zI b,.func (.func 109) ⟨[]⟩ ⟨[]⟩] ro L (fun _ Y=>wm v xs Y):=
 aKz _ ro v xs L a m b ho hN hP Ea rfl
theorem awm{v:Value}{xs:List av}{L:Cells}{n:Int}{ro:Nat→Option Obj}(ho:az v 8 124 cN xs L)(hN:xs.length≤100000)(hP:fZ xs)(hn:n=xs.length):eo zT 154 [v,zI n,.func (.func 109) ⟨[]⟩ ⟨[]⟩] ro L (fun r Y=>wm v xs Y):=by
 refine bA au [.l L] [] bn<|zD 12<|ez [1,1,0,0,0] [] (fun(zz:Int×Int×(List av)×Cells)=>[(0,v),(1,zI n),(2,.func (.func 109) ⟨[]⟩ ⟨[]⟩),(6,zI 20),(7,zI zz.1),(8,zI zz.2.1)]) (fun(zz:Int×Int×(List av)×Cells)=>[.l zz.2.2.2]) (fun(zz:Int×Int×(List av)×Cells)=>(zz.2.1=zz.1+20∧0≤zz.1∧zz.1≤n)∧az v 8 124 cN zz.2.2.1 zz.2.2.2∧zz.2.2.1.Perm xs) (fun(zz:Int×Int×(List av)×Cells)=>(n-zz.1).toNat) (⟨0,20,xs,L⟩) ⟨by dsimp only;omega,ho,.refl _⟩ [0] ?_
 rintro⟨a,b,ys,L⟩ hI K1 bM rest
 dsimp only at hI
 have U5:=hI.2.2.length_eq
 have hyp:=hP.perm hI.2.2
 refine zD 7<|zJ 13 (b≤n) (fun h1=>?_) fun h1=>?_
 ·
  refine zD 9<|jc (vs:=[v,zI a,zI b,.func (.func 109) ⟨[]⟩ ⟨[]⟩]) [0] (awo hI.2.1 (by omega) hyp (by omega)) ?_
  rintro aZd Y18 ⟨aH1,Og,XH⟩
  have aVD:=Og.length_eq
  have aVw:=fZ.perm hyp Og
  refine zD 9<|ja (b+20) (by omega)<|zD 2<|bO bM (⟨b,(b+20),aH1,Y18⟩) ⟨by dsimp only;omega,XH,(Og.trans hI.2.2)⟩ (by dsimp only;omega) [0] (Sub.refl _)
 refine zD 8<|jc (vs:=[v,zI a,zI n,.func (.func 109) ⟨[]⟩ ⟨[]⟩]) [0] (awo hI.2.1 (by omega) hyp (by omega)) ?_
 rintro aZc Y27 ⟨aYn,aqM,aN4⟩
 have aVC:=aqM.length_eq
 have aVv:=fZ.perm hyp aqM
 refine zD 2<|ez [1,1,1,1,0,0] [] (fun(zz:Int×(List av)×Cells)=>[(0,v),(1,zI n),(2,.func (.func 109) ⟨[]⟩ ⟨[]⟩),(6,zI zz.1)]) (fun(zz:Int×(List av)×Cells)=>[.l zz.2.2]) (fun(zz:Int×(List av)×Cells)=>(20≤zz.1∧zz.1≤1000000)∧az v 8 124 cN zz.2.1 zz.2.2∧zz.2.1.Perm xs) (fun(zz:Int×(List av)×Cells)=>(n-zz.1).toNat) (⟨20,_,_⟩) ⟨by dsimp only;omega,aN4,aqM.trans hI.2.2⟩ [0] ?_
 rintro⟨bz,ys,L⟩ hJ K2 mo rest
 dsimp only at hJ
 have U5:=hJ.2.2.length_eq
 have hyp:=hP.perm hJ.2.2
 refine zD 7<|zJ 30 (bz <n) (fun h2=>?_) fun h2=>?_
 ·
  refine zD 6<|ja (2*bz) (by omega)<|zD 5<|ez [1,1,1,1,0,0,1,0,1,0,0,0] [K2] (fun(zz:Int×Int×(List av)×Cells)=>[(0,v),(1,zI n),(2,.func (.func 109) ⟨[]⟩ ⟨[]⟩),(6,zI bz),(7,zI zz.1),(8,zI zz.2.1)]) (fun(zz:Int×Int×(List av)×Cells)=>[.l zz.2.2.2]) (fun(zz:Int×Int×(List av)×Cells)=>(zz.2.1=zz.1+2*bz∧0≤zz.1∧zz.1≤n)∧az v 8 124 cN zz.2.2.1 zz.2.2.2∧zz.2.2.1.Perm xs) (fun(zz:Int×Int×(List av)×Cells)=>(n-zz.1).toNat) (⟨0,(2*bz),ys,L⟩) ⟨by dsimp only;omega,hJ.2⟩ [0] ?_
  rintro⟨a,b,ys,L⟩ hK K3 YZ rest
  dsimp only at hK
  have U5:=hK.2.2.length_eq
  have hyp:=hP.perm hK.2.2
  refine zD 7<|zJ 35 (b≤n) (fun h3=>?_) fun h3=>?_
  ·
   refine zD 9<|ja (a+bz) (by omega)<|zD 2<|jc (vs:=[v,zI a,zI (a+bz),zI b,.func (.func 109) ⟨[]⟩ ⟨[]⟩]) [0] (alz hK.2.1 (by omega) hyp (by omega)) ?_
   rintro aZa Y43 ⟨aHY,aqJ,aN0⟩
   have aVA:=aqJ.length_eq
   have aVt:=fZ.perm hyp aqJ
   refine zD 9<|ja (2*bz) (by omega)<|ja (b+(2*bz)) (by omega)<|zD 2<|bO YZ (⟨b,(b+(2*bz)),aHY,Y43⟩) ⟨by dsimp only;omega,aN0,(aqJ.trans hK.2.2)⟩ (by dsimp only;omega) [0] (Sub.refl _)
  refine zD 7<|ja (a+bz) (by omega)<|zD 8<|zJ 54 ((a+bz) <n) (fun h4=>?_) fun h4=>?_
  ·
   refine zD 7<|jc (vs:=[v,zI a,zI (a+bz),zI n,.func (.func 109) ⟨[]⟩ ⟨[]⟩]) [0] (alz hK.2.1 (by omega) hyp (by omega)) ?_
   rintro aY7 Y60 ⟨aHW,acP,KL⟩
   have aVx:=acP.length_eq
   have aVq:=fZ.perm hyp acP
   refine zD 3<|ja (bz*2) (by omega)<|zD 2<|bO mo (⟨(bz*2),aHW,Y60⟩) ⟨by dsimp only;omega,KL,(acP.trans hK.2.2)⟩ (by dsimp only;omega) [0] (Sub.refl _)
  refine zD 4<|ja (bz*2) (by omega)<|zD 2<|bO mo (⟨(bz*2),ys,L⟩) ⟨by dsimp only;omega,hK.2.1,hK.2.2⟩ (by dsimp only;omega) [0] (Sub.refl _)
 refine zD 2<|aE q0 (.tuple ⟨[]⟩) [] [0] L (Sub.refl _) ⟨_,_,rfl,rfl,_,hJ.2.2,hJ.2.1⟩
theorem M8{v:Value}{xs:List av}{L:Cells}{ro:Nat→Option Obj}(ho:az v 8 124 cN xs L)(hN:xs.length≤100000)(hP:fZ xs):eo zT 108 [v,.func (.func 109) ⟨[]⟩ ⟨[]⟩] ro L (fun r Y=>wm v xs Y):=by
 refine bA au [.l L] [] bn<|zD 3<|DX ho<|zD 1<|jc (vs:=[v,zI (xs.length:Int),.func (.func 109) ⟨[]⟩ ⟨[]⟩]) [0] (awm ho (by omega) hP rfl) ?_
 rintro rv8 Y8 ⟨ys8,hp8,ho8⟩
 have ba1:=hp8.length_eq
 have ba0:=fZ.perm hP hp8
 refine zD 1<|aE q0 (.tuple ⟨[]⟩) [] [0] Y8 (Sub.refl _) ⟨_,_,rfl,rfl,_,hp8,ho8⟩
open Go.ConcR (KK wgBlock WgAt stA smA rd wr)
def afZ(o:Oper):Array TypeId:=match o.op with
 | .call c=>c.argTypes
 | .go c=>c.argTypes
 | .defer c=>c.argTypes
 |_=> #[]
noncomputable def kE:qY:=as5 zT 76 2
theorem ayf:kE.cl.OK zT 200 where
 ff:=by kernel_rfl
 fn:=⟨(Tryz.prog.funcs[106]?).getD default,by kernel_rfl,by kernel_rfl,by kernel_rfl⟩
 bf:=⟨by kernel_rfl,by kernel_rfl,by kernel_rfl⟩
 enter:=fun p1 p2=>by kernel_rfl
 op0:=by kernel_rfl
 rest:=⟨1,by kernel_rfl⟩
 size:=by kernel_rfl
 op:=⟨by kernel_rfl,by kernel_rfl,afZ kE.cl.oc,by kernel_rfl⟩
theorem ap0:∀v,v <2→∀W,∃k,GC zT 200 v (Frame.enter zT 103 #[zP W,zI 1] .normal)=some (List.replicate k W):=by
 intro v hv W
 match v,hv with
 |0,_=>exact⟨7,by kernel_rfl⟩
 |1,_=>exact⟨4,by kernel_rfl⟩
theorem aji:∀W,∃k,wP zT 200 2 (Frame.enter zT 105 #[zP W] .deferred)=some (List.replicate k W):=fun W=>⟨27,by kernel_rfl⟩
theorem ajh:∀W,∃k,Ap zT 200 2 (Frame.enter zT 107 #[zP W] .normal)=some (List.replicate k W):=fun W=>⟨164,by kernel_rfl⟩
noncomputable def mO(Wg Ch:Nat)(gE:Os)(cb:Array (Nat×ByteArray)):dK (List av):=⟨zT,200,Wg,Ch,2,zS,gE,cb,fun l v X=>az v 8 124 cN l X⟩
theorem Ge(K:aZ)(on:Int)(hb:K.after.length≤4):∀(n a:Nat) (p:Nat→Int),(∀i,0≤p i∧p i≤4)→(jk K on n a p).length≤5^n∧∀q∈jk K on n a p,∀i,0≤q i∧q i≤4
 |0,a,p,hp=>by
  simp only[jk]
  cases ov on p K.facts 0 with
  |true=>exact⟨by simp,fun q hq=>by simp only[cond_true,List.mem_singleton] at hq;subst hq;exact hp⟩
  |false=>exact⟨by simp,fun q hq=>by simp at hq⟩
 |n+1,a,p,hp=>by
  obtain⟨h1,h2⟩:=Ge K on hb n (a+1) p hp
  have hg:∀b,b <K.after.length→(mM K on n a p b).length≤5^n∧∀q∈mM K on n a p b,∀i,0≤q i∧q i≤4:=fun b cz=>by
   simp only[mM]
   cases !cY K on a b||So p a ((b:Int)+1) with
   |true=>exact⟨by simp,fun q hq=>by simp at hq⟩
   |false=>
    simp only[cond_false]
    refine Ge K on hb n (a+1) _ fun i=>?_
    simp only[pq]
    split
    ·omega
    exact hp i
  rw[p6]
  refine⟨?_,fun q hq=>?_⟩
  ·rw[List.length_append,List.length_flatMap]
   have:((List.range K.after.length).map fun b=>(mM K on n a p b).length).sum≤K.after.length*5^n:=by
    have key:∀l:List Nat,(∀b∈l,b <K.after.length)→(l.map fun b=>(mM K on n a p b).length).sum≤l.length*5^n:=by
     intro l
     induction l with
     |nil=>intro _;simp
     |cons b l ih=>
      intro hl
      have:=ih fun x hx=>hl x (List.mem_cons_of_mem _ hx)
      have:=(hg b (hl b List.mem_cons_self)).1
      simp only[List.map_cons,List.sum_cons,List.length_cons,Nat.succ_mul]
      omega
    have:=key (List.range K.after.length) fun b hb=>List.mem_range.1 hb
    simpa using this
   have h5:K.after.length*5^n≤4*5^n:=Nat.mul_le_mul_right _ hb
   rw[Nat.pow_succ]
   omega
  rcases List.mem_append.1 hq with hq|hq
  ·exact h2 q hq
  obtain⟨b,lU,hq⟩:=List.mem_flatMap.1 hq
  exact(hg b (List.mem_range.1 lU)).2 q hq
theorem lE(hV:fH K)(on:Int):(dA K on).length≤625∧∀q∈dA K on,∀i,0≤q i∧q i≤4:=by
 obtain⟨h1,h2⟩:=Ge K on hV.after.1 K.before.length 0 (fun _=>0) fun _=>by omega
 refine⟨Nat.le_trans h1 ?_,h2⟩
 have:=Nat.pow_le_pow_right (n:=5) (by omega) hV.before.1
 omega
abbrev pV(b:Nat):Value:= zP b
noncomputable def C7(f i:Nat):Array Oper:=cE (codeOf zT f) i
noncomputable def aR7(f i:Nat):Code:=((codeOf zT f)[i]?).getD .skip
def qz(K:aZ)(on:Int)(keep:av→Bool)(r:bK)(past:Nat):List av:=((dA K on).map (dv K r past)).filter keep
noncomputable def VV(f:Nat):Code:=(((Tryz.prog.funcs[f]?).getD default).body).getD .skip
theorem gA{α:Type}{l:List α}{k:Nat}{x:α}(h:l[k]?=some x):l.take (k+1)=l.take k++[x]:=by rw[List.take_succ,h];rfl
theorem asZ:gv [VV 104]=[.region 0 (C7 104 0) false,.region 1 (C7 104 1) false,.region 2 (C7 104 2) false,aR7 104 3,.region 7 (C7 104 4) false]:=by kernel_rfl
theorem ax7{rows:List bK}{on:Int}{past:Nat}{Hp:bK}{keep:av→Bool}{ro:Nat→Option Obj}{Wg Ch:Nat}{gE:Os}{cb:Array (Nat×ByteArray)}{b3 b4 b5 b7 b9:Nat}(hV:fH K)(hF:oX ro f K rows)(By:rows[past]?=some Hp) (FW:AR zT g=true)
 (gN:∀aK,Sub ro aK→∀p∈dA K on,dz zT g (fi++[.agg ⟨cN (dv K Hp past p)⟩]++ca) aK (.bool (keep (dv K Hp past p))))
 (g3:ro b3=some (.cells ⟨[pV f]⟩ 94 (0,0))) (g4:ro b4=some (.cells ⟨[.int .u8 on]⟩ 99 (0,0))) (g9:ro b9=some (.cells ⟨[zI (past:Int)]⟩ 3 (0,0))) (g5:ro b5=some (.cells ⟨[.func (.func g) ⟨fi⟩ ⟨ca⟩]⟩ 155 (0,0))) (g7:ro b7=some (.cells ⟨[.chan (some Ch)]⟩ 191 (0,0))):
 eG zT false ((mO Wg Ch gE cb).HX (qz K on keep Hp past)) (born zT {target:= .fn (.func 104) ⟨[pV Wg,pV b3,pV b4,pV b9,pV b5,pV b7]⟩,args:= #[]}) ⟨ro,[]⟩:=by
 have hT:Closed zT false (eG zT false ((mO Wg Ch gE cb).HX (qz K on keep Hp past))):=dM _ _ _
 refine awe (fn:=(Tryz.prog.funcs[104]?).getD default) (c:=VV 104) (n:=26) (by kernel_rfl) (by kernel_rfl) (by kernel_rfl) (by kernel_rfl) (by rfl)<|px hT asZ fun l1 Cr=>?_
 refine aoa hT (a:=ep (C7 104 0) 0) (f:=105) (xs:= #[.tmp 0]) (vs:=[pV Wg]) (ats:=afZ (ep (C7 104 0) 0)) (by kernel_rfl) (by kernel_rfl) (by kernel_rfl) (by decide) rfl<|px hT Cr fun l2 qt=>?_
 refine uV au hT<|jn fun b6=>zD 1<|wY<|px hT qt fun l3 Ox=>?_
 refine uV au hT<|jl (b:=b3) (off:=0) (m:=1) (vs:=[pV f]) 0 ⟨_,_,_,.inl g3,rfl⟩<|jl (b:=b4) (off:=0) (m:=1) (vs:=[.int .u8 on]) 0 ⟨_,_,_,.inl g4,rfl⟩<|jc [] (IM (on:=on) hF hV) ?_
 rintro _ _ ⟨q1,q2,q3,q4,rfl,rfl⟩
 refine jf [0] [(q1,.cells ⟨[pV f]⟩ 94 (0,0)),(q2,.cells ⟨[.func (.func 98) ⟨[]⟩ ⟨[pV q1,pV q4]⟩]⟩ 187 (0,0)),(q3,.cells ⟨BP ⟨cY K on⟩⟩ 139 (0,0)),(q4,.cells ⟨[.int .u8 on]⟩ 99 (0,0))] fun aA bV hk1=>zD 1<|awc<|alu hT Ox fun l4 Ow=>?_
 refine awd au hT ?_
 have HL:=hF.up bV
 refine zD 1<|pQ ?_
 refine jrf [] (UX (on:=on) HL hV (hk1 _ (.head _)) (hk1 _ (.tail _ (.head _))) (hk1 _ (.tail _ (.tail _ (.head _)))) (hk1 _ (.tail _ (.tail _ (.tail _ (.head _)))))) (by rintro _ _ _ _ ⟨_,_,rfl,_⟩;rfl)
  (fun(zz:Value×Cells)=>[.b b6 (.cells ⟨[zz.1]⟩ 104 (0,0)),.l zz.2]) (fun kk=>(fun(zz:Value×Cells)=>az zz.1 8 124 cN ((((dA K on).take kk).map (dv K Hp past)).filter keep) zz.2)) (fun jump=>(fun(zz:Value×Cells)=>False)) (⟨zS,[]⟩) (az.nil _ _ _) [1,0] ?_ ?_ ?_
 ·rintro bl bd kk vs LL ⟨v,Lb⟩ lB iT ⟨p,hp,rfl,rfl⟩ hI oB
  dsimp only at hI
  have ay3:=List.mem_of_getElem? hp
  have hp4:=(lE hV on).2 p ay3
  have acJ:=Sub.trans bV oB
  have hlen:((((dA K on).take kk).map (dv K Hp past)).filter keep).length≤625:=by
   refine Nat.le_trans (List.length_filter_le _ _) ?_
   rw[List.length_map,List.length_take]
   have:=(lE hV on).1
   omega
  refine zD 1<|jn fun jq=>jd 2 [0]<|jbI 1<|zD 3<|jl (b:=b3) (off:=0) (m:=1) (vs:=[pV f]) 0 ⟨_,_,_,.inl (acJ _ _ g3),rfl⟩<|jl (b:=b9) (off:=0) (m:=1) (vs:=[zI (past:Int)]) 0 ⟨_,_,_,.inl (acJ _ _ g9),rfl⟩<|jd 1 [0]<|jp (vs:=[pV f,zI (past:Int),.agg ⟨eP4 p⟩]) [] [] (fun AI hs hZ=>al0 (hF.up (Sub.trans acJ hs)) hV By hp4)<|jn fun yP=>jd 4 [0]<|jl (b:=b5) (off:=0) (m:=1) (vs:=[.func (.func g) ⟨fi⟩ ⟨ca⟩]) 0 ⟨_,_,_,.inl (acJ _ _ g5),rfl⟩<|jd 1 [0]<|jpF (f:=g) (V:= .bool (keep (dv K Hp past p))) (vs:=fi++[Value.agg ⟨cN (dv K Hp past p)⟩]++ca) [] [] FW (fun AI hs hZ=>gN _ (Sub.trans acJ hs) p ay3)<|zD 1<|js 19 (keep (dv K Hp past p)) (fun h5=>?_) (fun h5=>?_)
  ·refine jd 4 [3,0]<|jn fun mD=>ku (sz:=8) (ps:=(((dA K on).take kk).map (dv K Hp past)).filter keep) (qs:=[dv K Hp past p]) (enc:=cN) (w:= .slice (some ⟨mD,0,none⟩) 1 1) [5] [0] [(mD,.cells ⟨([dv K Hp past p].map cN).flatten⟩ 124 (0,0))] hI (fun s _ hZ=>bX [dv K Hp past p] (hZ _ (.head _)) (by intro p hp;rfl)) (fun p _=>an rfl) (by simp only[List.length_cons,List.length_nil];omega) (fun v23 L23 yl=>?_)
   obtain⟨va,vc,he⟩:=yl.form
   subst he
   refine jd 2 [5]<|jyn WQ (Sub.refl _) ⟨.slice va _ vc,L23⟩ (by dsimp only;rw[gA hp,List.map_append,List.filter_append,List.map_cons,List.map_nil,List.filter_cons_of_pos h5,List.filter_nil];exact yl) [4,5,0]
  refine zD 2<|jyn WQ (Sub.refl _) ⟨v,Lb⟩ (by dsimp only;rw[gA hp,List.map_append,List.filter_append,List.map_cons,List.map_nil,List.filter_cons_of_neg (by rw[h5];simp),List.filter_nil,List.append_nil];exact hI) [2,3,4]
 ·rintro bd ⟨v,Lb⟩ Z hI rfl
  dsimp only at hI
  rw[List.take_length] at hI
  refine awb<|px hT Ow fun l5 Ov=>?_
  have:=fW Ov
  subst this
  show TT _ _ (.inRegion (C7 104 4) (0::[1,2])::[]) _ _ _ _ _
  refine tLd hT (.chan (some Ch)) (a:=ep (C7 104 4) 0) (x:= .tmp 5) (U:=191) (q:=b7) (by kernel_rfl) (by kernel_rfl) (by kernel_rfl) (by kernel_rfl) (by decide) rfl (fun _ _ _ _=> .inl (bV _ _ g7))<|aKl hT v (a:=ep (C7 104 4) 1) (x:= .tmp 6) (U:=104) (q:=b6) (by kernel_rfl) (by kernel_rfl) (by kernel_rfl) (by kernel_rfl) (by decide) rfl [2] 104<|av6 (E:=mO Wg Ch gE cb) (a:=ep (C7 104 4) 2) (sc:= .tmp 24) (sv:= .tmp 25) (v:=v) (Y:=Lb) [3] (by kernel_rfl) (by kernel_rfl) (fun ρ=>by kernel_rfl) (by decide) rfl hI<|TR (dM _ _ _)<|an6 (E:=mO Wg Ch gE cb) (fn:=(Tryz.prog.funcs[104]?).getD default) (dn:=105) (bd:=bd) (by kernel_rfl) (by kernel_rfl) (by kernel_rfl) (aji Wg).choose_spec wz [0] rfl rfl
 rintro bd ⟨v,Lb⟩ Z jump hS hZ
 exact hS.elim
theorem f26:gv [VV 76]=[.region 0 kE.o0 false,.region 1 kE.o1 false,.region 2 kE.o2 false,.region 3 kE.o3 false,.block 0 (.loop kE.lb),.region 9 kE.o9 false,.region 10 kE.o10 false,.region 11 kE.o11 false,.block 2 (.loop kE.rb),.region 15 (C7 76 9) false,.region 16 (C7 76 10) false,.ret]:=by kernel_rfl
theorem aDJ:gv [kE.lb]=[.region 4 kE.o4 false,.cond (.tmp 19) .skip (.exit 0),.block 1 kE.Co,.region 8 kE.o8 false]:=by kernel_rfl
theorem aRT:gv [kE.Co]=[.region 5 kE.o5 false,.region 6 kE.o6 false,.region 7 kE.o7 false]:=by kernel_rfl
theorem aDI:gv [kE.rb]=[.region 12 kE.Bh false,.cond (.tmp 27) .skip (.exit 2),.block 3 kE.ue]:=by kernel_rfl
theorem aRS:gv [kE.ue]=[.region 13 kE.o13 false,.region 14 kE.o14 false]:=by kernel_rfl
def iV(K:aZ)(on:Int)(keep:av→Bool)(rows:List bK)(n:Nat):List (List av):=(List.range n).map fun i=>qz K on keep ((rows[i]?).getD ⟨fun _ _=>false⟩) i
theorem Mz{on:Int}{keep:av→Bool}{rows:List bK}{n:Nat}{r:bK}(h:rows[n]?=some r):iV K on keep rows (n+1)=iV K on keep rows n++[qz K on keep r n]:=by
 simp only[iV,List.range_succ,List.map_append,List.map_cons,List.map_nil,h,Option.getD_some]
theorem xP(K:aZ)(on:Int)(keep:av→Bool)(rows:List bK)(n:Nat):(iV K on keep rows n).length=n:=by simp[iV]
def eW(K:aZ)(on:Int)(keep:av→Bool)(rows:List bK):List av:=(iV K on keep rows rows.length).flatten
theorem qj(hV:fH K)(on:Int)(keep:av→Bool){rows:List bK}(hR:rows.length≤2):(eW K on keep rows).length≤1250:=by
 have h1:∀r i,(qz K on keep r i).length≤625:=fun r i=>Nat.le_trans (List.length_filter_le _ _) (by rw[List.length_map];exact(lE hV on).1)
 have key:∀n,(iV K on keep rows n).flatten.length≤n*625:=by
  intro n
  induction n with
  |zero=>simp[iV]
  |succ n ih=>
   have:=h1 ((rows[n]?).getD ⟨fun _ _=>false⟩) n
   simp only[iV,List.range_succ,List.map_append,List.map_cons,List.map_nil,List.flatten_append,List.length_append,List.flatten_cons,List.flatten_nil,List.append_nil] at ih ⊢
   omega
 have:=key rows.length
 have h2:rows.length*625≤2*625:=Nat.mul_le_mul_right _ hR
 exact Nat.le_trans this h2
theorem Yy{on:Int}{keep:av→Bool}{rows:List bK}(hR:rows.length≤2):fZ (eW K on keep rows):=by
 intro x hx
 obtain⟨l,hl,hx⟩:=List.mem_flatten.1 hx
 obtain⟨i,hi,rfl⟩:=List.mem_map.1 hl
 have hi:=List.mem_range.1 hi
 obtain⟨p,_,rfl⟩:=List.mem_map.1 (List.mem_filter.1 hx).1
 simp only[dv]
 omega
theorem ae0{α:Type}(a:List (List α))(o:List α)(b:List (List α))(zs:List α):((zs++o)++(a++b).flatten).Perm (zs++(a++o::b).flatten):=by
 simp only[List.flatten_append,List.flatten_cons,List.append_assoc]
 refine .append_left _ ?_
 rw[←List.append_assoc,←List.append_assoc]
 exact .append_right _ List.perm_append_comm
theorem aye{rows:List bK}{on:Int}{keep:av→Bool}{ro:Nat→Option Obj}{fr:Cells}(hV:fH K)(hF:oX ro f K rows)(hR:rows.length≤2)(FW:AR zT g=true)
 (gN:∀i r,rows[i]?=some r→∀aK,Sub ro aK→∀p∈dA K on,dz zT g (fi++[.agg ⟨cN (dv K r i p)⟩]++ca) aK (.bool (keep (dv K r i p)))):
 Fn (C0 zT) zT 76 ⟨[pV f,.int .u8 on,.func (.func g) ⟨fi⟩ ⟨ca⟩]⟩ ⟨ro,fr⟩ (fun en s'=>∃v Y zs,en= .returned v∧s'=⟨ro,Y++fr⟩∧zs.Perm (eW K on keep rows)∧az v 8 124 cN zs Y):=by
 rintro main T ⟨rfl,gE,cb,Post,rfl⟩ cl Ll kr _
 have hT:=rR zT gE cb Post
 obtain⟨c0,c1,c2,vc,vh,vr,vb,va,vf,vt,hv,hf,rC,oe,hr,Dm,HK,I0,bL⟩:=id hF
 obtain⟨mV,C4,C3,mE,rfl,Nf,JV,JU⟩:=bL
 refine an5 (fn:=(Tryz.prog.funcs[76]?).getD default) (c:=VV 76) (n:=35) (by kernel_rfl) (by kernel_rfl) (by kernel_rfl) (by rfl)<|px hT f26 fun l1 Cr=>?_
 refine uV au hT<|jn fun b3=>jn fun b4=>jn fun b5=>zD 2<|wY<|px hT Cr fun l2 qt=>?_
 show TT _ _ (.inRegion kE.o1 (0::[1,2])::_) _ _ _ _ _
 refine av7 hT (a:=kE.a1) (f:=fun q=> .chan (some q)) (ob:= .chan 0 #[] false 0 0 false) (by kernel_rfl) (by kernel_rfl) (fun e q=>by kernel_rfl) (by decide) rfl fun Ch=>?_
 refine uV au hT<|jn fun b7=>jd 2 [0]<|wY<|px hT qt fun l3 Ox=>?_
 show TT _ _ (.inRegion kE.o2 (0::[])::_) _ _ _ _ _
 refine av7 hT (a:=kE.a2) (f:=fun q=> zP q) (ob:=wgBlock 200 0 0) (by kernel_rfl) (by kernel_rfl) (fun e q=>by kernel_rfl) (by decide) rfl fun Wg=>?_
 refine TR hT<|an9 (E:=mO Wg Ch gE cb) (Q:=Good zT Post) (tm:=false) 0 2 ((b7,.cells ⟨[.chan (some Ch)]⟩ 191 (0,0))::(b5,.cells ⟨[.func (.func g) ⟨fi⟩ ⟨ca⟩]⟩ 155 (0,0))::(b4,.cells ⟨[.int .u8 on]⟩ 99 (0,0))::(b3,.cells ⟨[pV f]⟩ 94 (0,0))::fr) hT (fun L aA hl dP Sv=>?_)
 have h7:=hl.kn _ (.head _)
 have h5:=hl.kn _ (.tail _ (.head _))
 have h4:=hl.kn _ (.tail _ (.tail _ (.head _)))
 have h3:=hl.kn _ (.tail _ (.tail _ (.tail _ (.head _))))
 dsimp only at h7 h5 h4 h3
 have hM:∀pend os,Closed zT true (TM (mO Wg Ch gE cb) L (Good zT Post) pend false os 0):=fun pend os=>eX (E:=mO Wg Ch gE cb) false os (fun e=>(by cases e))
 have hC:∀os,Closed zT true (TM (mO Wg Ch gE cb) L (Good zT Post) 0 true os 0):=fun os=>eX (E:=mO Wg Ch gE cb) true os (fun _=>rfl)
 refine px (hM 0 []) Ox fun l4 Ow=>?_
 refine uV au (hM 0 [])<|jl (b:=b3) (off:=0) (m:=1) (vs:=[pV f]) 0 ⟨_,_,_,.inl h3,rfl⟩<|zD 2<|jl (b:=f) (off:=0) (m:=13) (vs:=[c0,c1,c2,vc,vh,vr,vb,va,zI K.gone,zI K.new,zI K.af,vf,.slice mV rows.length mE]) 12 ⟨_,_,_,.inl (hl.sub _ _ hf),rfl⟩<|zD 3<|wY<|JE (hM 0 []) Ow fun l5 Ov=>?_
 refine als (hM 0 []) (rest:=[]) rfl fun l6 HG=>?_
 have:=fW HG
 subst this
 have loop:∀m i lB,m+i=rows.length→Sub aA lB→(∀lB rest,Sub aA lB→TT (TM (mO Wg Ch gE cb) L (Good zT Post) 0 false (iV K on keep rows rows.length) 0) (X6 76 .normal) (l5.map .code++[]) (cl::Ll) 35 [] lB (some ⟨.fin .normal,[(7,pV b7),(8,pV Wg)]++rest,[],⟨[],[]⟩⟩))→
  ∀rest,TT (TM (mO Wg Ch gE cb) L (Good zT Post) 0 false (iV K on keep rows i) 0) (X6 76 .normal) ([kE.lb].map .code++(.inLoop kE.lb::(.inBlock 0::(l5.map .code++[])))) (cl::Ll) 35 [] lB (some ⟨.fin .normal,[(3,pV b3),(4,pV b4),(5,pV b5),(7,pV b7),(8,pV Wg),(17,zI (rows.length:Int)),(18,zI (i:Int))]++rest,[],⟨[],[]⟩⟩):=by
  intro m
  induction m with
  |zero=>
   intro i lB hi hs pY rest
   refine px (hM 0 _) aDJ fun m1 hm1=>?_
   refine uV au (hM 0 _)<|zD 2<|wY<|TS (hM 0 _) (t:=false) (q:=decide ((i:Int) <(rows.length:Int))) hm1 (by simp;omega) fun m2 D5=>?_
   refine alv (hM 0 _) (k':=l5.map .code++[]) (by rw[p9];simp[exitTo]) ?_
   have:i=rows.length:=by omega
   subst this
   exact tSt (hM 0 _) [(7,pV b7),(8,pV Wg)] [] [] fun rest=>pY lB rest hs
  |succ m ih=>
   intro i lB hi hs pY rest
   obtain⟨r,By⟩:∃r,rows[i]?=some r:=⟨_,List.getElem?_eq_getElem (by omega)⟩
   refine px (hM 0 _) aDJ fun m1 hm1=>?_
   refine uV au (hM 0 _)<|zD 2<|wY<|TS (hM 0 _) (t:=true) (q:=decide ((i:Int) <(rows.length:Int))) hm1 (by simp;omega) fun m2 D5=>?_
   refine alq (hM 0 _)<|JE (hM 0 _) D5 fun m3 hm3=>?_
   refine px (hM 0 _) aRT fun m4 hm4=>?_
   refine uV au (hM 0 _)<|zD 1<|jn fun b9=>jd 2 [0]<|wY<|px (hM 0 _) hm4 fun m5 hm5=>?_
   show TT _ _ (.inRegion kE.o6 [0]::_) _ _ _ _ _
   refine aKo (E:=mO Wg Ch gE cb) (a:=kE.a6) (f:=103) (x:= .tmp 8) (ats:=afZ kE.a6) ?_ (by kernel_rfl) (by kernel_rfl) (by kernel_rfl) (kG (by kernel_rfl)) (by decide) rfl (by show _ <2;rw[xP];omega) (by show GC zT 200 _ _=_;rw[xP];exact(ap0 i (by omega) Wg).choose_spec) wz
   refine px (hM 1 _) hm5 fun m6 hm6=>?_
   have:=fW hm6
   subst this
   show TT _ _ (.inRegion kE.o7 (0::[1])::_) _ _ _ _ _
   refine av4 (hM 1 _) (a:=ep kE.o7 0) (.func (.func 104) ⟨[]⟩ ⟨[pV Wg,pV b3,pV b4,pV b9,pV b5,pV b7]⟩) (by kernel_rfl) (by kernel_rfl) (by decide) rfl<|tGo (E:=mO Wg Ch gE cb) (qz K on keep r i) (a:=kE.a7) (f:=104) (y:= .tmp 22) (ca:=[pV Wg,pV b3,pV b4,pV b9,pV b5,pV b7]) (ats:=afZ kE.a7) [(b9,.cells ⟨[zI (i:Int)]⟩ 3 (0,0))] (by kernel_rfl) (by kernel_rfl) (by kernel_rfl) (by decide) rfl (fun AI G4 P5=>⟨?_,?_⟩)
   ·have xD:=Sub.trans hs G4
    have h03:=Sub.trans hl.sub xD
    exact ax7 hV (hF.up h03) By FW (fun aK mG=>gN i r By aK (Sub.trans h03 mG)) (xD _ _ h3) (xD _ _ h4) (P5 _ (.head _)) (xD _ _ h5) (xD _ _ h7)
   rw[←Mz By]
   refine TR (hM 0 _) (alw (hM 0 _) ?_)
   refine px (hM 0 _) hm3 fun m7 hm7=>?_
   have:=fW hm7
   subst this
   refine uV au (hM 0 _)<|ja ((i:Int)+1) (by omega)<|zD 2<|wY<|ZX (hM 0 _)<|tSt (hM 0 _) [(3,pV b3),(4,pV b4),(5,pV b5),(7,pV b7),(8,pV Wg),(17,zI (rows.length:Int)),(18,zI ((i+1:Nat):Int))] [] [] fun rest=>ih (i+1) AI (by omega) (Sub.trans hs G4) pY rest
 refine tSt (hM 0 _) [(3,pV b3),(4,pV b4),(5,pV b5),(7,pV b7),(8,pV Wg),(17,zI (rows.length:Int)),(18,zI (((0:Nat)):Int))] [] [] fun rest=>loop rows.length 0 aA (by omega) (Sub.refl _) (fun lB rest oB=>?_) rest
 refine px (hM 0 _) Ov fun l7 D6=>?_
 show TT _ _ (.inRegion kE.o9 (0::[1])::_) _ _ _ _ _
 refine av4 (hM 0 _) (a:=ep kE.o9 0) (.func (.func 106) ⟨[]⟩ ⟨[pV Wg,pV b7]⟩) (by kernel_rfl) (by kernel_rfl) (by decide) rfl<|aod (E:=mO Wg Ch gE cb) (a:=kE.a9) (f:=106) (y:= .tmp 24) (ca:=[pV Wg,pV b7]) (ats:=afZ kE.a9) [] (by kernel_rfl) (by kernel_rfl) (by kernel_rfl) (by decide) rfl (fun AI G4 _=>?_)
 have xD:=Sub.trans oB G4
 refine⟨ahT (E:=mO Wg Ch gE cb) (x:=kE.cl) ayf (ajh Wg).choose_spec wz (q:=b7) (t:=191) (fz:=(0,0)) (a:=ep kE.cl.q1 0) (y:= .tmp 1) (U:=191) (xD _ _ h7) (by kernel_rfl) (by kernel_rfl) (by kernel_rfl) (by kernel_rfl) (by kernel_rfl) (by kernel_rfl),?_⟩
 refine TR (hC _)<|px (hC _) D6 fun l8 XL=>?_
 refine uV au (hC _)<|zD 2<|wY<|px (hC _) XL fun l9 hl9=>?_
 refine uV au (hC _)<|jl (b:=b7) (off:=0) (m:=1) (vs:=[.chan (some Ch)]) 0 ⟨_,_,_,.inl (xD _ _ h7),rfl⟩<|zD 1<|wY<|JE (hC _) hl9 fun l10 arh=>?_
 refine als (hC _) (rest:=[]) rfl fun l11 arf=>?_
 have:=fW arf
 subst this
 have hlen:=qj hV on keep hR
 have recv:∀m (os:List (List av)) (v:Value) (L1:Cells) (zs:List av),os.length=m→az v 8 124 cN zs L1→(zs++os.flatten).Perm (eW K on keep rows)→∀rest,
  TT (TM (mO Wg Ch gE cb) L (Good zT Post) 0 true os 0) (X6 76 .normal) ([kE.rb].map .code++(.inLoop kE.rb::(.inBlock 2::(l10.map .code++[])))) (cl::Ll) 35 [] AI (some ⟨.fin .normal,[(10,v),(25,.chan (some Ch))]++rest,[.l L1],⟨[],[]⟩⟩):=by
  intro m
  induction m with
  |zero=>
   intro os v L1 zs sU ho hp rest
   have sU:=List.eq_nil_of_length_eq_zero sU
   subst sU
   refine px (hC _) aDI fun m1 hm1=>?_
   show TT _ _ (.inRegion kE.Bh (0::[1])::_) _ _ _ _ _
   refine alr (E:=mO Wg Ch gE cb) (a:=kE.PD) (rc:= .tmp 25) (z:= zS) hl xD Sv (by kernel_rfl) (by kernel_rfl) (fun ρ=>by kernel_rfl) (by decide) rfl (fun a' oo b' v' Y he _=>by simp at he) fun _=>?_
   refine uV au hT<|zD 2<|wY<|TS hT (t:=false) (q:=false) hm1 rfl fun m2 D5=>?_
   refine alv hT (k':=l10.map .code++[]) (by rw[p9];simp[exitTo]) ?_
   refine px hT arh fun m3 hm3=>?_
   refine uV au hT<|zD 1 ?_
   have hp':zs.Perm (eW K on keep rows):=by simpa using hp
   refine jc (vs:=[v,.func (.func 109) ⟨[]⟩ ⟨[]⟩]) [1] (M8 ho (by rw[hp'.length_eq];omega) ((Yy hR).perm hp')) ?_
   rintro _ Y ⟨ys,hys,hoY⟩
   refine zD 1<|wY<|px hT hm3 fun m4 hm4=>?_
   refine uV au hT<|zD 3<|wY<|alu hT hm4 fun m5 hm5=>?_
   refine aKk au hT (fn:=(Tryz.prog.funcs[76]?).getD default) v [] [0,1] (Y++((b7,.cells ⟨[.chan (some Ch)]⟩ 191 (0,0))::(b5,.cells ⟨[.func (.func g) ⟨fi⟩ ⟨ca⟩]⟩ 155 (0,0))::(b4,.cells ⟨[.int .u8 on]⟩ 99 (0,0))::(b3,.cells ⟨[pV f]⟩ 94 (0,0))::fr)) (by kernel_rfl)<|hT.mono _ ⟨ro,Y++fr⟩ _ (dH (J:=[(b7,.cells ⟨[.chan (some Ch)]⟩ 191 (0,0)),(b5,.cells ⟨[.func (.func g) ⟨fi⟩ ⟨ca⟩]⟩ 155 (0,0)),(b4,.cells ⟨[.int .u8 on]⟩ 99 (0,0)),(b3,.cells ⟨[pV f]⟩ 94 (0,0))]) ?_ (Sub.refl _)) (kr v _ ⟨v,Y,ys,rfl,rfl,hys.trans hp',hoY⟩)
   rw[List.append_assoc]
   exact .append_left _ (List.perm_append_comm (l₁:=[_,_,_,_]))
  |succ m ih=>
   intro os v L1 zs sU ho hp rest
   refine px (hC _) aDI fun m1 hm1=>?_
   show TT _ _ (.inRegion kE.Bh (0::[1])::_) _ _ _ _ _
   refine alr (E:=mO Wg Ch gE cb) (a:=kE.PD) (rc:= .tmp 25) (z:= zS) hl xD Sv (by kernel_rfl) (by kernel_rfl) (fun ρ=>by kernel_rfl) (by decide) rfl (fun a' oo b' v' Y he nT=>?_) fun he=>by simp[he] at sU
   subst he
   have nT:az v' 8 124 cN oo Y:=nT
   refine uV au (hC _)<|zD 2<|wY<|TS (hC _) (t:=true) (q:=true) hm1 rfl fun m2 D5=>?_
   refine alq (hC _)<|JE (hC _) D5 fun m3 hm3=>?_
   have:=fW hm3
   subst this
   refine px (hC _) aRS fun m4 hm4=>?_
   refine uV au (hC _)<|zD 3<|wY<|px (hC _) hm4 fun m5 hm5=>?_
   have:=fW hm5
   subst this
   refine uV au (hC _)<|zD 2 ?_
   have PZ:((zs++oo)++(a'++b').flatten).Perm (eW K on keep rows):=(ae0 a' oo b' zs).trans hp
   have hlz:zs.length+oo.length≤1250:=by
    have:=PZ.length_eq
    simp only[List.length_append] at this
    omega
   refine ku (sz:=8) (ps:=zs) (qs:=oo) (enc:=cN) (w:=v') [1] [0] Y ho (fun s _ hZ=>nT.sl hZ) (fun p _=>an rfl) (by omega) fun v23 L23 yl=>zD 2<|wY<|alw (hC _) (ZX (hC _) ?_)
   exact tSt (hC _) [(10,v23),(25,.chan (some Ch))] [.l L23] [0] fun rest=>ih (a'++b') v23 L23 (zs++oo) (by simp at sU ⊢;omega) yl PZ rest
 refine tGe<|tSt (hC _) [(10,zS),(25,.chan (some Ch))] [.l []] [0] fun rest=>recv rows.length (iV K on keep rows rows.length) (zS) [] [] (xP _ _ _ _ _) (az.nil _ _ _) (by simp[eW]) rest
theorem ace{rows:List bK}{on:Int}{keep:av→Bool}{ro:Nat→Option Obj}(hV:fH K)(hF:oX ro f K rows)(hR:rows.length≤2)(FW:AR zT g=true)
 (gN:∀i r,rows[i]?=some r→∀aK,Sub ro aK→∀p∈dA K on,dz zT g (fi++[.agg ⟨cN (dv K r i p)⟩]++ca) aK (.bool (keep (dv K r i p)))):
 B4 zT 76 [pV f,.int .u8 on,.func (.func g) ⟨fi⟩ ⟨ca⟩] ro [] (fun v Y=>∃zs,zs.Perm (eW K on keep rows)∧az v 8 124 cN zs Y):=
 fun fr=>Fn.mono (aye (fr:=fr) hV hF hR FW gN) fun en s' ⟨v,Y,zs,h1,h2,h3,h4⟩=>⟨v,Y,h1,by rw[h2];exact St.le_refl _,zs,h3,h4⟩
theorem UU{rows:List bK}{on:Int}{ro:Nat→Option Obj}(hV:fH K)(hF:oX ro f K rows)(hR:rows.length≤2):
 B4 zT 40 [pV f,.int .u8 on] ro [] (fun v Y=>∃zs,zs.Perm (eW K on (di K.gone K.new K.af) rows)∧az v 8 124 cN zs Y):=by
 refine zo au [] [] bn fun fr=>zD 10<|Kx (vs:=[pV f,.int .u8 on,.func (.func 73) ⟨[pV f]⟩ ⟨[]⟩]) [] (fun _ _ h=>h) (ace (keep:=di K.gone K.new K.af) hV hF hR (by kernel_rfl) fun i r hr aK hs p hp=>?_) ?_
 ·obtain⟨c0,c1,c2,vc,vh,vr,vb,va,vf,vt,hv,hf,_⟩:=hF.up hs
  exact aca hf
 rintro v Y ⟨zs,hz,ho⟩
 refine zD 3<|UZ qC v [0,1] Y (Sub.refl _) ⟨zs,hz,ho⟩
theorem ath{x:Int}(h:0≤x∧x≤4):iH x 0 4=true:=by simp only[iH,Bool.and_eq_true,decide_eq_true_eq];omega
theorem abl:qV (bs [97]):=⟨by decide,.inl (by decide)⟩
def agb(ro:Nat→Option Obj)(v:Value)(W:List (List Int)):Prop:=∃ws,bI ro v 1 iQ ws∧dD (fun w l=>bI ro w 1 cJ l) ws W
def qk(ro:Nat→Option Obj)(l:List Value)(W:List (List Int)):Prop:=∀aA,Sub ro aA→eo zT 85 [.agg ⟨l.take 3⟩] aA [] (fun r Y=>∃a n c,r= .tuple ⟨[.slice a n c,zI 0]⟩∧n=W.length∧∀lB,Knows lB Y→agb lB (.slice a n c) W)
theorem ap1{W:List (List Int)}{ro:Nat→Option Obj}(hK:gh ro l K)(hO:n9 K)(hV:fH K)(hW:1≤W.length∧W.length≤4)(h76:qk ro l W):eo zT 63 [.agg ⟨l⟩] ro [] (fun r Y=>∃a n c,r= .slice a n c∧n=W.length∧∀lB,Knows lB Y→agb lB r W):=by
 have Vu:=hK
 obtain⟨vS,vT,vc,vh,vr,vb,va,vf,fa,fc,hv,rfl,hS,hT,rC,oe,hr,hb,ha,hf⟩:=hK
 obtain⟨iL,hs,fF⟩:=id hS
 obtain⟨jB,ht,fu⟩:=id hT
 obtain⟨hc,hh,F7⟩:=id rC
 have uL:=hr
 have uB:=hb
 have ha0:=ha
 have hf0:=hf
 obtain⟨mB,Uh,Uf,lP,rfl,Ug,Nh,Ng⟩:=hs
 obtain⟨eT,AM,AJ,dY,rfl,AK,sS,sR⟩:=ht
 obtain⟨eC,AO,AN,ek,rfl,C5,yI,yH⟩:=hc
 obtain⟨dJ,uK,uJ,dr,rfl,wZ,qB,qA⟩:=hh
 obtain⟨lR,JX,JW,lQ,rfl,Ni,Is,Ir⟩:=hr
 obtain⟨pF,WV,WT,oZ,rfl,WU,Uj,Ui⟩:=hb
 obtain⟨pd,Um,Uk,oN,rfl,Ul,Q6,Q5⟩:=ha
 obtain⟨nO,Hu,Ht,mf,rfl,Mh,Bb,Ba⟩:=hf
 have Cr:=hO.rules
 have qt:=hO.before.1
 have Ox:=hO.after.1
 have Ow:=hO.facts.1
 have Ov:=hO.ways.1
 have HG:=fF.len
 have D6:=fu.len
 have XL:=hO.r8.two
 have hl9:=hO.eE.nh
 have PQ:∀(i:Nat) (p:ei),([]:List ei)[i]?=some p→cg ⟨ro,[]⟩ 0 (0+i*6) 6 (n5 p):=fun _ _ h=>oG h
 have hgl:=hO.Bt
 refine bA au [] [] bn<|zD 2<|jn fun b1=>jd 6 [0]<|jc (vs:=[.agg ⟨[.slice mB iL.length lP,.slice eT jB.length dY,.slice fa 0 fc]⟩]) [] (h76 _ (Sub.refl _)) ?_
 rintro _ Y3 ⟨a10,n10,c10,rfl,aOd,acE⟩
 refine zD 9<|jp (vs:=[zI 0]) [] [] (fun aA hs hZ=>zn)<|zD 10<|zJ 15 ((n10:Int)=0) (fun h1=>?_) fun h1=>?_
 ·
  exfalso;omega
 refine zD 8<|zJ 20 ((n10:Int)>4) (fun h2=>?_) fun h2=>?_
 ·
  exfalso;omega
 refine jd 6 [1]<|jp (vs:=[.agg ⟨[.slice eC K.cs.length ek,.slice dJ hv.length dr]⟩]) [] [] (fun aA hs hZ=>aof (rC.up hs) oe hV.eE)<|jp (vs:=[zI 0]) [] [] (fun aA hs hZ=>zn)<|jd 5 [1]<|jp (vs:=[.slice lR K.rules.length lQ,.string (bs [97]),.string (bs [97])]) [] [] (fun aA hs hZ=>NL (uL.up hs) hV.rules.2 hV.rules.1 abl abl)<|zD 8<|jp (vs:=[zI 0]) [] [] (fun aA hs hZ=>zn)<|jd 6 [1,1]<|jp (vs:=[.agg ⟨[.slice mB iL.length lP,.slice eT jB.length dY,.slice fa 0 fc,.slice eC K.cs.length ek,.slice dJ hv.length dr,.slice lR K.rules.length lQ,.slice pF K.before.length oZ,.slice pd K.after.length oN,zI K.gone,zI K.new,zI K.af,.slice nO K.facts.length mf]⟩,.slice pF K.before.length oZ,.bool true]) [] [] (fun aA hs hZ=>ab7 (Vu.up hs) hO (uB.up hs))<|jp (vs:=[zI 0]) [] [] (fun aA hs hZ=>zn)<|jd 6 [1,1]<|jp (vs:=[.agg ⟨[.slice mB iL.length lP,.slice eT jB.length dY,.slice fa 0 fc,.slice eC K.cs.length ek,.slice dJ hv.length dr,.slice lR K.rules.length lQ,.slice pF K.before.length oZ,.slice pd K.after.length oN,zI K.gone,zI K.new,zI K.af,.slice nO K.facts.length mf]⟩,.slice pd K.after.length oN,.bool false]) [] [] (fun aA hs hZ=>ab8 (Vu.up hs) hO (ha0.up hs))<|jp (vs:=[zI 0]) [] [] (fun aA hs hZ=>zn)<|jd 6 [1]<|jp (vs:=[zI K.gone,zI 0,zI 4]) [] [] (fun aA hs hZ=>fR)<|zD 2<|jj 5 [(1,zP b1),(2,zS),(3,.slice a10 n10 c10),(56,.bool ((!(iH K.gone 0 4))||(!(iH K.new 0 4))))] (fun gD=>?_) (fun hj=>?_)
 rotate_left
 refine js 51 (!(iH K.gone 0 4)) (fun h3=>?_) (fun h3=>?_)
 ·
  have sC:=h3
  try simp only[zB] at sC
  refine zD 5<|jw 56 (.bool ((!(iH K.gone 0 4))||(!(iH K.new 0 4)))) (w:= .bool true) (by rw[h3]<;>rfl) ?_
  exact hj _ (by kernel_rfl) (by kernel_rfl)
 ·
  have sC:=h3
  try simp only[zB] at sC
  refine jd 2 [1]<|jp (vs:=[zI K.new,zI 0,zI 4]) [] [] (fun aA hs hZ=>fR)<|zD 2<|jw 56 (.bool ((!(iH K.gone 0 4))||(!(iH K.new 0 4)))) (w:= .bool (!(iH K.new 0 4))) (by rw[h3]<;>rfl) ?_
  exact hj _ (by kernel_rfl) (by kernel_rfl)
 refine zD 1<|jj 5 [(1,zP b1),(2,zS),(3,.slice a10 n10 c10),(62,.bool (((!(iH K.gone 0 4))||(!(iH K.new 0 4)))||(!(iH K.af 0 4))))] (fun gD=>?_) (fun hj=>?_)
 rotate_left
 refine js 57 ((!(iH K.gone 0 4))||(!(iH K.new 0 4))) (fun h4=>?_) (fun h4=>?_)
 ·
  have xC:=h4
  try simp only[zB] at xC
  refine zD 5<|jw 62 (.bool (((!(iH K.gone 0 4))||(!(iH K.new 0 4)))||(!(iH K.af 0 4)))) (w:= .bool true) (by rw[h4]<;>rfl) ?_
  exact hj _ (by kernel_rfl) (by kernel_rfl)
 ·
  have xC:=h4
  try simp only[zB] at xC
  refine jd 2 [1]<|jp (vs:=[zI K.af,zI 0,zI 4]) [] [] (fun aA hs hZ=>fR)<|zD 2<|jw 62 (.bool (((!(iH K.gone 0 4))||(!(iH K.new 0 4)))||(!(iH K.af 0 4)))) (w:= .bool (!(iH K.af 0 4))) (by rw[h4]<;>rfl) ?_
  exact hj _ (by kernel_rfl) (by kernel_rfl)
 refine zD 1<|js 62 (((!(iH K.gone 0 4))||(!(iH K.new 0 4)))||(!(iH K.af 0 4))) (fun h5=>?_) (fun h5=>?_)
 ·
  try simp only[zB] at h5
  exfalso;simp[ath hgl.1,ath hgl.2.1,ath hgl.2.2] at h5
 try simp only[zB] at h5
 refine jd 10 [1]<|zJ 67 ((K.facts.length:Int)>4) (fun h6=>?_) fun h6=>?_
 ·
  exfalso;omega
 refine jd 11 [1]<|ez [1,1,1,1,1,1,1,1,1,1,1,0,1,0,0] [] (fun(zz:Nat)=>[(1,zP b1),(2,zS),(3,.slice a10 n10 c10),(70,.slice nO K.facts.length mf),(71,zI (K.facts.length:Int)),(72,zI (zz:Int))]) (fun(zz:Nat)=>[.b b1 (.cells ⟨[.slice mB iL.length lP,.slice eT jB.length dY,.slice fa 0 fc,.slice eC K.cs.length ek,.slice dJ hv.length dr,.slice lR K.rules.length lQ,.slice pF K.before.length oZ,.slice pd K.after.length oN,zI K.gone,zI K.new,zI K.af,.slice nO K.facts.length mf]⟩ 38 (0,0)),.l Y3]) (fun(zz:Nat)=>zz≤K.facts.length) (fun(zz:Nat)=>K.facts.length-zz) 0 (by omega) [1,0] ?_
 rintro k hI K1 bM rest
 refine zD 5<|zJ 73 ((k:Int) <(K.facts.length:Int)) (fun h7=>?_) fun h7=>?_
 ·
  refine zD 7 ?_
  obtain⟨x75,RG⟩:=zG K.facts k
  refine ij mf 3 Bb RG<|jl 0 (Ba _ _ RG)<|jn fun b6=>jd 8 [0,1,1]<|jcH (hi:=(k:Int)) (show bI _ _ _ _ _ from ⟨nO,Hu,Ht,mf,rfl,Mh,Bb,Ba⟩) (by omega) (fun v81 aNv=>?_)
  obtain⟨alD,awD,awz,alC,rfl,awB,awC,awA⟩:=aNv
  refine jd 1 [0]<|jp (vs:=[.agg ⟨[.slice mB iL.length lP,.slice eT jB.length dY,.slice fa 0 fc,.slice eC K.cs.length ek,.slice dJ hv.length dr,.slice lR K.rules.length lQ,.slice pF K.before.length oZ,.slice pd K.after.length oN,zI K.gone,zI K.new,zI K.af,.slice nO K.facts.length mf]⟩,.slice alD ((((K.facts).take (k:Int).toNat)).length) alC,.agg ⟨[zI x75.a,zI x75.b,.bool x75.same]⟩]) [] [] (fun aA hs hZ=>ayd (Vu.up hs) hO ((show bI _ _ _ _ _ from ⟨alD,awD,awz,alC,rfl,awB,awC,awA⟩).up hs) (by simp only[List.length_take,List.length_drop];omega) (hO.facts.2 _ (List.mem_of_getElem? RG)) (ae5 hO.apart RG)) ?_
  refine jp (vs:=[zI 0]) [] [] (fun aA hs hZ=>zn)<|zD 2<|ja ((k:Int)+1) (by omega)<|zD 2<|bO bM (k+1) (by omega) (by omega) [1,2] (Sub.refl _)
 refine zD 8<|aE q0 (.slice a10 n10 c10) [] [1] Y3 (Sub.refl _) ⟨_,_,rfl,rfl,_,_,_,rfl,aOd,acE⟩
def iK(ro:Nat→Option Obj)(l:List Value)(K:aZ)(rows:List bK):Prop:=∀aA,Sub ro aA→eo zT 34 [.agg ⟨l⟩] aA [] (fun r Y=>∃f,r= .tuple ⟨[pV f,zI 0]⟩∧∀lB,Sub aA lB→Knows lB Y→oX lB f K rows)
def dg(K:aZ):Int:=IntKind.u8.wrap (dt .u8 1 (K.facts.length:Int)-1)
theorem N1{rows:List bK}{ro:Nat→Option Obj}(hV:fH K)(hF:oX ro f K rows):dz zT 37 [pV f] ro (.int .u8 (dg K)):=by
 obtain⟨c0,c1,c2,vc,vh,vr,vb,va,vf,vt,hv,hf,rC,oe,hr,Dm,HK,I0,bL⟩:=hF
 exact aMm I0 hf (by have:=hV.facts.1;omega)
theorem ab1{rows:List bK}{ro:Nat→Option Obj}(hK:gh ro l K)(hV:fH K)(hR:rows.length≤2)(hB:iK ro l K rows):
 B4 zT 11 [.agg ⟨l⟩] ro [] (fun r Y=>r= .tuple ⟨[zI ((eW K (dg K) (di K.gone K.new K.af) rows).length:Int),zI 0]⟩∧Y=[]):=by
 obtain⟨v0,v1,v3,v4,v5,v6,v7,vb,fa,fc,hv,rfl,_⟩:=hK
 refine zo au [] [] bn fun fr=>zD 2<|jn fun b1=>jd 6 [0]<|jc (vs:=[Value.agg ⟨[v0,v1,.slice fa 0 fc,v3,v4,v5,v6,v7,zI K.gone,zI K.new,zI K.af,vb]⟩]) [] (hB _ (Sub.refl _)) ?_
 rintro _ Y ⟨f,rfl,hF⟩
 refine jf [0] Y (fun aA hs hk=>?_)
 have HL:=hF aA hs hk
 refine zD 18<|jp (vs:=[pV f]) [] [] (fun AI G4 hZ=>N1 hV (HL.up G4))<|Kx (vs:=[pV f,.int .u8 (dg K)]) [] (fun _ _ h=>h) (UU hV HL hR) ?_
 rintro v Y2 ⟨zs,hz,ho⟩
 obtain⟨a,c,rfl⟩:=ho.form
 refine zD 5<|UZ qC.a (.tuple ⟨[zI (zs.length:Int),zI 0]⟩) [2] [] hs ⟨by rw[hz.length_eq],rfl⟩
theorem kS{on:Int}{keep:av→Bool}{rows:List bK}{x:av}(h:x∈eW K on keep rows):∃i r p,rows[i]?=some r∧p∈dA K on∧x=dv K r i p∧keep x=true:=by
 obtain⟨l,hl,hx⟩:=List.mem_flatten.1 h
 obtain⟨i,hi,rfl⟩:=List.mem_map.1 hl
 have hi:=List.mem_range.1 hi
 obtain⟨h1,h2⟩:=List.mem_filter.1 hx
 obtain⟨p,hp,rfl⟩:=List.mem_map.1 h1
 rw[List.getElem?_eq_getElem hi] at h2 ⊢
 exact⟨i,rows[i],p,List.getElem?_eq_getElem hi,hp,rfl,h2⟩
theorem UE(r:bK)(p:Nat→Int):∀k,0≤pJ r p k∧pJ r p k≤k
 |0=>by simp[pJ]
 |k+1=>by
  have:=UE r p k
  simp only[pJ]
  cases decide (p k>0)&& !r.c k (p k-1).toNat with
  |true=>simp only[cond_true];omega
  |false=>simp only[cond_false];omega
theorem lG(hV:fH K)(r:bK)(i:Nat)(p:Nat→Int):(-4≤(dv K r i p).gone∧(dv K r i p).gone≤4)∧(-4≤(dv K r i p).new∧(dv K r i p).new≤4)∧(0≤(dv K r i p).af∧(dv K r i p).af≤4):=by
 have h1:=Uq p
 have h2:=UE r p 4
 have h3:=hV.before.1
 have h4:=hV.after.1
 simp only[dv]
 omega
def Ex(x:av):Int:=x.gone+x.new+x.af
theorem apS{rows:List bK}{ro:Nat→Option Obj}(hK:gh ro l K)(hV:fH K)(hR:rows.length≤2)(hB:iK ro l K rows):B4 zT 44 [.agg ⟨l⟩] ro [] (fun r Y=>∃zs,zs.Perm (eW K (dg K) (fun _=>true) rows)∧Y=[]∧((zs=[]∧r= .tuple ⟨[zI 0,zI 9]⟩)∨(zs≠[]∧r= .tuple ⟨[zI (iD (zs.map Ex)),zI 0]⟩))):=by
 obtain⟨v0,v1,v3,v4,v5,v6,v7,vb,fa,fc,hv,rfl,_⟩:=hK
 refine zo au [] [] bn fun fr=>zD 2<|jn fun b1=>jd 6 [0]<|jc (vs:=[.agg ⟨[v0,v1,.slice fa 0 fc,v3,v4,v5,v6,v7,zI K.gone,zI K.new,zI K.af,vb]⟩]) [] (hB _ (Sub.refl _)) ?_
 rintro _ Y12 ⟨f12,rfl,aQ5⟩
 refine zD 5<|jf [0] Y12 (fun AI bV iT=>?_)
 have HL:=aQ5 _ bV iT
 refine zD 13<|jp (vs:=[zP f12]) [] [] (fun aA hs hZ=>N1 hV (HL.up hs))<|Kx (vs:=[zP f12,.int .u8 (dg K),.func (.func 81) ⟨[]⟩ ⟨[]⟩]) [] (fun _ _ h=>h) (ace (keep:=fun _=>true) hV HL hR (by kernel_rfl) (fun i r hr aK hs p hp=>ajd)) ?_
 rintro v21 Y21 ⟨zs,ajs,azg⟩
 have XA:∀x∈zs,(-4≤x.gone∧x.gone≤4)∧(-4≤x.new∧x.new≤4)∧(0≤x.af∧x.af≤4):=fun x hx=>by obtain⟨i,r,p,_,_,rfl,_⟩:=kS (ajs.mem_iff.1 hx);exact lG hV r i p
 have Xs:zs.length≤1250:=by rw[ajs.length_eq];exact qj hV _ _ hR
 refine zD 6<|DX azg<|zD 1<|jf [0] Y21 (fun ro6 kD YU=>?_)
 have hZ1:=azg.ma YU
 obtain⟨u1,Q9,Q7,ri,rfl,Q8,ET,ES⟩:=hZ1
 refine zD 1<|zJ 24 ((zs.length:Int)=0) (fun h7=>?_) fun h7=>?_
 ·
  refine zD 7<|UZ qC.a.a (.tuple ⟨[zI 0,zI 9]⟩) [1] [] (bV.trans kD) ⟨zs,ajs,rfl,.inl ⟨List.eq_nil_of_length_eq_zero (by omega),rfl⟩⟩
 refine zD 14<|pQ<|ez [1,1,1,1,1,1,0,1,0,0] [] (fun(zz:Nat×Value×Cells)=>[(2,zI 0),(3,zI 0),(7,zz.2.1),(25,.slice u1 zs.length ri),(26,zI (zs.length:Int)),(27,zI (zz.1:Int))]) (fun(zz:Nat×Value×Cells)=>[.l zz.2.2,.b b1 (.cells ⟨[v0,v1,.slice fa 0 fc,v3,v4,v5,v6,v7,zI K.gone,zI K.new,zI K.af,vb]⟩ 38 (0,0)),.l fr]) (fun(zz:Nat×Value×Cells)=>zz.1≤zs.length∧az zz.2.1 1 3 cJ ((zs.take zz.1).map Ex) zz.2.2) (fun(zz:Nat×Value×Cells)=>zs.length-zz.1) (⟨0,zS,[]⟩) ⟨by dsimp only;omega,az.nil _ _ _⟩ [0,1,2] ?_
 rintro⟨k,vS,LS⟩ hI K1 bM rest
 dsimp only at hI
 refine zD 5<|zJ 28 ((k:Int) <(zs.length:Int)) (fun h8=>?_) fun h8=>?_
 ·
  refine zD 6 ?_
  obtain⟨CQ,zp⟩:=zG zs k
  refine ij ri 8 ET zp<|jl 0 (ES _ _ zp)<|jn fun b9=>jd 2 [0] ?_
  have hg:=XA _ (List.mem_of_getElem? zp)
  refine jd 6 [0,0]<|ja (CQ.gone+CQ.new) (by omega)<|jd 2 [0]<|ja ((CQ.gone+CQ.new)+CQ.af) (by omega)<|jn fun c8=>ku (sz:=1) (ps:=((zs.take k).map Ex)) (qs:=[((CQ.gone+CQ.new)+CQ.af)]) (enc:=cJ) (w:= .slice (some ⟨c8,0,none⟩) 1 1) [2] [0] [(c8,.cells ⟨([((CQ.gone+CQ.new)+CQ.af)].map cJ).flatten⟩ 3 (0,0))] (hI.2) (fun s _ hZ=>bX [((CQ.gone+CQ.new)+CQ.af)] (hZ _ (.head _)) (by intro p hp;rfl)) (fun p _=>an rfl) (by simp only[List.length_map,List.length_take,List.length_cons,List.length_nil];omega) (fun v41 L41 ac1=>?_)
  obtain⟨anQ,anG,arJ⟩:=ac1.form
  subst arJ
  refine zD 3<|ja ((k:Int)+1) (by omega)<|zD 2<|bO bM (⟨k+1,(.slice anQ ((((zs.take k).map Ex)++[((CQ.gone+CQ.new)+CQ.af)])).length anG),L41⟩) ⟨by dsimp only;omega,by rw[gA zp,List.map_append];exact ac1⟩ (by dsimp only;omega) [0,3,4] (Sub.refl _)
 refine zD 5<|jp (vs:=[vS]) [0] LS (fun aA hs hZ=>UW (hI.2.ma hZ) ⟨by simp only[List.length_map,List.length_take];omega,by simp only[List.length_map,List.length_take];omega⟩) ?_
 refine zD 5<|UZ qC.a.a (.tuple ⟨[zI (iD ((zs.take k).map Ex)),zI 0]⟩) [2] [] (bV.trans kD) ⟨zs,ajs,rfl,.inr ⟨fun e=>by subst e;simp at*,by rw[show k=zs.length by omega,List.take_length]⟩⟩
end Go.L
