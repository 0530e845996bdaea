/- Part 9 of the proof. -/
import Derived.Test.YthegconjacjohaaGreatDoorK8
set_option maxRecDepth 100000
set_option linter.all false
namespace Go.L
open Go Go.Conc Go.Proofs
variable {ro:Nat→Option Obj} {K:aC} {l fi ca:List Value} {W:List (List Int)} {Z LM Z2:Cells} {F:Nat→Nat→Bool} {i k f s rm:Nat} {α κ:Type} {n b ck c5 c6:Int} {g:FuncId} {xs:List Int}
def aJj(n:Nat):Prop:=∀(ro:Nat→Option Obj) (v:Value) (xs:List aj) (L:Cells) (a m b:Int),aw v 8 138 cR xs L→xs.length≤100000→gu xs→(0≤a∧a <m∧m <b∧b≤xs.length)→(b-a).toNat=n→
 dG zT 219 [v,zI a,zI m,zI b,.func (.func 119) ⟨[]⟩ ⟨[]⟩] ro L (fun _ Y=>xc v xs Y)
theorem aeO{v:Value}{xs:List aj}{L:Cells}{a:Int}(ho:aw v 8 138 cR xs L)(hN:xs.length≤100000)(hP:gu xs)(zg:(0≤a∧0≤b∧0≤n)∧a+n≤xs.length∧b+n≤xs.length∧a≠b):dG zT 291 [v,zI a,zI b,zI n,.func (.func 119) ⟨[]⟩ ⟨[]⟩] ro L (fun r Y=>xc v xs Y):=by
 refine zC [.l L]<|zD 5<|dw [1,0,0] [] (fun(zz:Int×(List aj)×Cells)=>[(0,v),(1,zI a),(2,zI b),(3,zI n),(10,zI zz.1)]) (fun zz=>[.l zz.2.2]) (fun zz=>(0≤zz.1∧zz.1≤n)∧aw v 8 138 cR zz.2.1 zz.2.2∧zz.2.1.Perm xs) (fun zz=>(n-zz.1).toNat) (⟨0,xs,L⟩) ⟨by dsimp only;omega,ho,.refl _⟩ [0] ?_
 rintro⟨i,ys,L⟩ hI K1 bG rest
 dsimp only at hI
 have Rz:=hI.2.2.length_eq
 have hyp:=hP.perm hI.2.2
 refine zD 7<|zJ 13 (i <n) (fun h1=>?_) fun h1=>?_
 ·
  refine zD 8<|ja (a+i) (by omega)<|zD 3<|ja (b+i) (by omega)<|zD 3<|ja (b+i) (by omega) ?_
  obtain⟨x28,awe⟩:=zG ys ((b+i).toNat) (by first|omega| (simp only[List.length_set];omega))
  refine mW (b+i) 8 hI.2.1 awe (Int.toNat_of_nonneg (show 0≤(b+i)∧(b+i) <((ys).length:Int) from (by first|omega| (simp only[List.length_set];omega))).1).symm (fun b28 aTh=>?_)
  refine ki 0 [0] L (fun s _ hZ=>bh hI.2.1 aTh hZ awe)<|zD 3<|ja (a+i) (by omega) ?_
  obtain⟨x34,NL⟩:=zG ys ((a+i).toNat) (by first|omega| (simp only[List.length_set];omega))
  refine mW (a+i) 8 hI.2.1 NL (Int.toNat_of_nonneg (show 0≤(a+i)∧(a+i) <((ys).length:Int) from (by first|omega| (simp only[List.length_set];omega))).1).symm (fun b34 aTe=>?_)
  refine ki 0 [0] L (fun s _ hZ=>bh hI.2.1 aTe hZ NL) ?_
  obtain⟨x36,y5⟩:=zG ys ((a+i).toNat) (by first|omega| (simp only[List.length_set];omega))
  refine mW (a+i) 8 hI.2.1 y5 (Int.toNat_of_nonneg (show 0≤(a+i)∧(a+i) <((ys).length:Int) from (by first|omega| (simp only[List.length_set];omega))).1).symm (fun q6 ax4=>?_)
  refine aS 21 fun As AA zi=>Fp 0 0 [zI x28.past,zI x28.w0,zI x28.w1,zI x28.w2,zI x28.w3,zI x28.gone,zI x28.new,zI x28.af] x28 hI.2.1 ax4 y5 rfl rfl (Nat.le_of_ble_eq_true rfl) fun L3 ho4=>gx zi [] ?_
  obtain⟨x37,abQ⟩:=zG ((ys.set ((a+i).toNat) x28)) ((b+i).toNat) (by first|omega| (simp only[List.length_set];omega))
  refine mW (b+i) 8 ho4 abQ (Int.toNat_of_nonneg (show 0≤(b+i)∧(b+i) <(((ys.set ((a+i).toNat) x28)).length:Int) from (by first|omega| (simp only[List.length_set];omega))).1).symm (fun b37 aTc=>?_)
  refine aS 23 fun oP oR nK=>Fp 0 0 [zI x34.past,zI x34.w0,zI x34.w1,zI x34.w2,zI x34.w3,zI x34.gone,zI x34.new,zI x34.af] x34 ho4 aTc abQ rfl rfl (Nat.le_of_ble_eq_true rfl) fun L6 TJ=>fW nK<|zD 3<|ja (i+1) (by omega)<|zD 2<|bF bG (⟨(i+1),((ys.set ((a+i).toNat) x28).set ((b+i).toNat) x34),L6⟩) ⟨by dsimp only;omega,TJ,(lY NL awe).trans hI.2.2⟩ (by dsimp only;omega) [0] (Sub.refl _)
 refine zD 2<|zR (.tuple ⟨[]⟩) [] [0] L ⟨ys,hI.2.2,hI.2.1⟩
theorem aM0{v:Value}{xs:List aj}{L:Cells}{a m:Int}(ho:aw v 8 138 cR xs L)(hN:xs.length≤100000)(hP:gu xs)(zg:0≤a∧a <m∧m <b∧b≤xs.length):dG zT 250 [v,zI a,zI m,zI b,.func (.func 119) ⟨[]⟩ ⟨[]⟩] ro L (fun r Y=>xc v xs Y):=by
 refine zC [.l L]<|zD 4<|ja (m-a) (by omega)<|zD 6<|ja (b-m) (by omega)<|zD 4<|dw [1,1,0,0,0] [] (fun(zz:Int×Int×(List aj)×Cells)=>[(0,v),(2,zI m),(4,.func (.func 119) ⟨[]⟩ ⟨[]⟩),(10,zI zz.1),(11,zI zz.2.1)]) (fun zz=>[.l zz.2.2.2]) (fun zz=>((0 <zz.1∧zz.1≤m-a)∧0 <zz.2.1∧zz.2.1≤b-m)∧aw v 8 138 cR zz.2.2.1 zz.2.2.2∧zz.2.2.1.Perm xs) (fun zz=>(zz.1+zz.2.1).toNat) (⟨(m-a),(b-m),xs,L⟩) ⟨by dsimp only;omega,ho,.refl _⟩ [0] ?_
 rintro⟨i,j,ys,L⟩ hI K1 bG rest
 dsimp only at hI
 have Rz:=hI.2.2.length_eq
 have hyp:=hP.perm hI.2.2
 refine zD 7<|js 20 (!decide (i=j)) (fun h1=>?_) (fun h1=>?_)
 ·
  replace h1:=of_decide_eq_false (by simpa using h1)
  refine zD 9<|zJ 23 (i>j) (fun h2=>?_) fun h2=>?_
  ·
   refine zD 6<|ja (m-i) (by omega)<|zD 3<|jc (vs:=[v,zI (m-i),zI m,zI j,.func (.func 119) ⟨[]⟩ ⟨[]⟩]) [0] (aeO hI.2.1 (by omega) hyp (by omega)) ?_
   rintro baT Y31 ⟨aLw,awG,awO⟩
   have aX3:=awG.length_eq
   have aXW:=gu.perm hyp awG
   refine zD 4<|ja (i-j) (by omega)<|zD 2<|bF bG (⟨(i-j),j,aLw,Y31⟩) ⟨by dsimp only;omega,awO,(awG.trans hI.2.2)⟩ (by dsimp only;omega) [0] (Sub.refl _)
  refine zD 6<|ja (m-i) (by omega)<|zD 2<|ja (m+j) (by omega)<|zD 1<|ja ((m+j)-i) (by omega)<|zD 2<|jc (vs:=[v,zI (m-i),zI ((m+j)-i),zI i,.func (.func 119) ⟨[]⟩ ⟨[]⟩]) [0] (aeO hI.2.1 (by omega) hyp (by omega)) ?_
  rintro baR Y46 ⟨aLu,awE,aRi⟩
  have aX1:=awE.length_eq
  have aXU:=gu.perm hyp awE
  refine zD 4<|ja (j-i) (by omega)<|zD 2<|bF bG (⟨i,(j-i),aLu,Y46⟩) ⟨by dsimp only;omega,aRi,(awE.trans hI.2.2)⟩ (by dsimp only;omega) [0] (Sub.refl _)
 replace h1:=of_decide_eq_true (by simpa using h1)
 refine zD 6<|ja (m-i) (by omega)<|zD 3<|jc (vs:=[v,zI (m-i),zI m,zI i,.func (.func 119) ⟨[]⟩ ⟨[]⟩]) [0] (aeO hI.2.1 (by omega) hyp (by omega)) ?_
 rintro baQ Y57 ⟨aZY,awC,aou⟩
 have aX0:=awC.length_eq
 have aXT:=gu.perm hyp awC
 refine zD 1<|zR (.tuple ⟨[]⟩) [] [0] Y57 ⟨_,(awC.trans hI.2.2),aou⟩
theorem aCg{n:Nat}{v:Value}{xs:List aj}{L:Cells}{a m:Int}(ih:∀k,k <n→aJj k)(ho:aw v 8 138 cR xs L)(hN:xs.length≤100000)(hP:gu xs)(zg:0≤a∧a <m∧m <b∧b≤xs.length)(hn:(b-a).toNat=n):dG zT 219 [v,zI a,zI m,zI b,.func (.func 119) ⟨[]⟩ ⟨[]⟩] ro L (fun r Y=>xc v xs Y):=by
 refine zC [.l L]<|zD 5<|ja (m-a) (by omega)<|zD 2<|zJ 28 ((m-a)=1) (fun h1=>?_) fun h1=>?_
 ·
  refine zD 13<|dw [0,1,0,1,1,0,0,0] [] (fun(zz:Int×Int)=>[(0,v),(1,zI a),(2,zI m),(3,zI b),(4,.func (.func 119) ⟨[]⟩ ⟨[]⟩),(10,zI zz.1),(11,zI zz.2)]) (fun zz=>[.l L]) (fun zz=>(m≤zz.1∧zz.1≤zz.2)∧zz.2≤b) (fun zz=>(zz.2-zz.1).toNat) (⟨m,b⟩) (by dsimp only;omega) [0] ?_
  rintro⟨i,j⟩ hI K1 bG rest
  dsimp only at hI
  refine zD 7<|zJ 33 (i <j) (fun h2=>?_) fun h2=>?_
  ·
   refine zD 7<|ja (i+j) (by omega)<|zD 6 ?_
   have hh:=Fy (x:=i+j) (by omega)
   refine zD 4 ?_
   obtain⟨x43,NJ⟩:=zG xs ((IntKind.i64.wrap (aT .u64 (IntKind.u64.wrap (i+j)) 1)).toNat) (by first|omega| (simp only[List.length_set];omega))
   refine mW (IntKind.i64.wrap (aT .u64 (IntKind.u64.wrap (i+j)) 1)) 8 ho NJ (Int.toNat_of_nonneg (show 0≤(IntKind.i64.wrap (aT .u64 (IntKind.u64.wrap (i+j)) 1))∧(IntKind.i64.wrap (aT .u64 (IntKind.u64.wrap (i+j)) 1)) <((xs).length:Int) from (by first|omega| (simp only[List.length_set];omega))).1).symm (fun b43 ax2=>?_)
   refine ki 0 [0] L (fun s _ hZ=>bh ho ax2 hZ NJ)<|zD 2 ?_
   obtain⟨x47,Vm⟩:=zG xs (a.toNat) (by first|omega| (simp only[List.length_set];omega))
   refine mW a 8 ho Vm (Int.toNat_of_nonneg (show 0≤a∧a <((xs).length:Int) from (by first|omega| (simp only[List.length_set];omega))).1).symm (fun b47 aS9=>?_)
   refine ki 0 [0] L (fun s _ hZ=>bh ho aS9 hZ Vm)<|aS 9 fun As AA zi=>jp (vs:=[.agg ⟨[zI x43.past,zI x43.w0,zI x43.w1,zI x43.w2,zI x43.w3,zI x43.gone,zI x43.new,zI x43.af]⟩,.agg ⟨[zI x47.past,zI x47.w0,zI x47.w1,zI x47.w2,zI x47.w3,zI x47.gone,zI x47.new,zI x47.af]⟩]) [] [] (fun aG hs hZ=>(an6 (x:=x43) (y:=x47) (hP _ (zL NJ)) (hP _ (zL Vm))))<|eG zi [0]<|zD 2<|zJ 50 ((x43.past-x47.past) <0) (fun h4=>?_) fun h4=>?_
   ·
    refine zD 3<|ja ((IntKind.i64.wrap (aT .u64 (IntKind.u64.wrap (i+j)) 1))+1) (by omega)<|zD 2<|bF bG (⟨((IntKind.i64.wrap (aT .u64 (IntKind.u64.wrap (i+j)) 1))+1),j⟩) (by dsimp only;omega) (by dsimp only;omega) [0] (Sub.refl _)
   refine zD 5<|bF bG (⟨i,(IntKind.i64.wrap (aT .u64 (IntKind.u64.wrap (i+j)) 1))⟩) (by dsimp only;omega) (by dsimp only;omega) [0] (Sub.refl _)
  refine zD 9<|dw [0,1,0,1,1,1,0,1,0,0] [] (fun(zz:Int×(List aj)×Cells)=>[(0,v),(1,zI a),(2,zI m),(3,zI b),(4,.func (.func 119) ⟨[]⟩ ⟨[]⟩),(10,zI i),(13,zI zz.1)]) (fun zz=>[.l zz.2.2]) (fun zz=>a≤zz.1∧aw v 8 138 cR zz.2.1 zz.2.2∧zz.2.1.Perm xs) (fun zz=>(i-zz.1).toNat) (⟨a,xs,L⟩) ⟨by dsimp only;omega,ho,.refl _⟩ [0] ?_
  rintro⟨k,ys,L⟩ hJ K3 hK3 rest
  dsimp only at hJ
  have Rz:=hJ.2.2.length_eq
  have hyp:=hP.perm hJ.2.2
  refine zD 5<|ja (i-1) (by omega)<|zD 2<|zJ 58 (k <(i-1)) (fun h5=>?_) fun h5=>?_
  ·
   refine zD 9<|ja (k+1) (by omega)<|zD 2<|ja (k+1) (by omega) ?_
   obtain⟨Ty,JI⟩:=zG ys ((k+1).toNat) (by first|omega| (simp only[List.length_set];omega))
   refine mW (k+1) 8 hJ.2.1 JI (Int.toNat_of_nonneg (show 0≤(k+1)∧(k+1) <((ys).length:Int) from (by first|omega| (simp only[List.length_set];omega))).1).symm (fun b69 axZ=>?_)
   refine ki 0 [0] L (fun s _ hZ=>bh hJ.2.1 axZ hZ JI)<|zD 2 ?_
   obtain⟨x73,abO⟩:=zG ys (k.toNat) (by first|omega| (simp only[List.length_set];omega))
   refine mW k 8 hJ.2.1 abO (Int.toNat_of_nonneg (show 0≤k∧k <((ys).length:Int) from (by first|omega| (simp only[List.length_set];omega))).1).symm (fun b73 aS4=>?_)
   refine ki 0 [0] L (fun s _ hZ=>bh hJ.2.1 aS4 hZ abO) ?_
   obtain⟨x75,Vk⟩:=zG ys (k.toNat) (by first|omega| (simp only[List.length_set];omega))
   refine mW k 8 hJ.2.1 Vk (Int.toNat_of_nonneg (show 0≤k∧k <((ys).length:Int) from (by first|omega| (simp only[List.length_set];omega))).1).symm (fun b75 aS2=>?_)
   refine aS 15 fun qU qV pK=>Fp 0 0 [zI Ty.past,zI Ty.w0,zI Ty.w1,zI Ty.w2,zI Ty.w3,zI Ty.gone,zI Ty.new,zI Ty.af] Ty hJ.2.1 aS2 Vk rfl rfl (Nat.le_of_ble_eq_true rfl) fun L7 ho8=>gx pK [] ?_
   obtain⟨x76,aES⟩:=zG ((ys.set k.toNat Ty)) ((k+1).toNat) (by first|omega| (simp only[List.length_set];omega))
   refine mW (k+1) 8 ho8 aES (Int.toNat_of_nonneg (show 0≤(k+1)∧(k+1) <(((ys.set k.toNat Ty)).length:Int) from (by first|omega| (simp only[List.length_set];omega))).1).symm (fun b76 aS1=>?_)
   refine aS 17 fun yz yF zh=>Fp 0 0 [zI x73.past,zI x73.w0,zI x73.w1,zI x73.w2,zI x73.w3,zI x73.gone,zI x73.new,zI x73.af] x73 ho8 aS1 aES rfl rfl (Nat.le_of_ble_eq_true rfl) fun L10 awP=>fW zh<|zD 3<|ja (k+1) (by omega)<|zD 2<|bF hK3 (⟨(k+1),((ys.set k.toNat Ty).set ((k+1).toNat) x73),L10⟩) ⟨by dsimp only;omega,awP,(lY abO JI).trans hJ.2.2⟩ (by dsimp only;omega) [0] (Sub.refl _)
  refine zD 3<|zR (.tuple ⟨[]⟩) [] [0] L ⟨_,hJ.2.2,hJ.2.1⟩
 refine zD 7<|ja (b-m) (by omega)<|zD 2<|zJ 80 ((b-m)=1) (fun C8=>?_) fun C8=>?_
 ·
  refine zD 13<|dw [1,0,1,0,1,1,0,0,0] [] (fun(zz:Int×Int)=>[(0,v),(1,zI a),(2,zI m),(3,zI b),(4,.func (.func 119) ⟨[]⟩ ⟨[]⟩),(14,zI zz.1),(15,zI zz.2)]) (fun zz=>[.l L]) (fun zz=>(a≤zz.1∧zz.1≤zz.2)∧zz.2≤m) (fun zz=>(zz.2-zz.1).toNat) (⟨a,m⟩) (by dsimp only;omega) [0] ?_
  rintro⟨i,j⟩ hI K6 hK6 rest
  dsimp only at hI
  refine zD 7<|zJ 85 (i <j) (fun xE=>?_) fun xE=>?_
  ·
   refine zD 7<|ja (i+j) (by omega)<|zD 6 ?_
   have hh:=Fy (x:=i+j) (by omega)
   refine zD 4 ?_
   obtain⟨x95,av9⟩:=zG xs (m.toNat) (by first|omega| (simp only[List.length_set];omega))
   refine mW m 8 ho av9 (Int.toNat_of_nonneg (show 0≤m∧m <((xs).length:Int) from (by first|omega| (simp only[List.length_set];omega))).1).symm (fun b95 aSY=>?_)
   refine ki 0 [0] L (fun s _ hZ=>bh ho aSY hZ av9)<|zD 2 ?_
   obtain⟨x99,abN⟩:=zG xs ((IntKind.i64.wrap (aT .u64 (IntKind.u64.wrap (i+j)) 1)).toNat) (by first|omega| (simp only[List.length_set];omega))
   refine mW (IntKind.i64.wrap (aT .u64 (IntKind.u64.wrap (i+j)) 1)) 8 ho abN (Int.toNat_of_nonneg (show 0≤(IntKind.i64.wrap (aT .u64 (IntKind.u64.wrap (i+j)) 1))∧(IntKind.i64.wrap (aT .u64 (IntKind.u64.wrap (i+j)) 1)) <((xs).length:Int) from (by first|omega| (simp only[List.length_set];omega))).1).symm (fun b99 axY=>?_)
   refine ki 0 [0] L (fun s _ hZ=>bh ho axY hZ abN)<|aS 9 fun ady aej N1=>jp (vs:=[.agg ⟨[zI x95.past,zI x95.w0,zI x95.w1,zI x95.w2,zI x95.w3,zI x95.gone,zI x95.new,zI x95.af]⟩,.agg ⟨[zI x99.past,zI x99.w0,zI x99.w1,zI x99.w2,zI x99.w3,zI x99.gone,zI x99.new,zI x99.af]⟩]) [] [] (fun aG hs hZ=>(an6 (x:=x95) (y:=x99) (hP _ (zL av9)) (hP _ (zL abN))))<|eG N1 [0]<|zD 3<|js 103 (!(decide ((x95.past-x99.past) <0))) (fun N8=>?_) (fun N8=>?_)
   ·
    try simp only[zB] at N8
    refine zD 3<|ja ((IntKind.i64.wrap (aT .u64 (IntKind.u64.wrap (i+j)) 1))+1) (by omega)<|zD 2<|bF hK6 (⟨((IntKind.i64.wrap (aT .u64 (IntKind.u64.wrap (i+j)) 1))+1),j⟩) (by dsimp only;omega) (by dsimp only;omega) [0] (Sub.refl _)
   try simp only[zB] at N8
   refine zD 5<|bF hK6 (⟨i,(IntKind.i64.wrap (aT .u64 (IntKind.u64.wrap (i+j)) 1))⟩) (by dsimp only;omega) (by dsimp only;omega) [0] (Sub.refl _)
  refine zD 9<|dw [1,0,1,0,1,1,1,0,1,0,0] [] (fun(zz:Int×(List aj)×Cells)=>[(0,v),(1,zI a),(2,zI m),(3,zI b),(4,.func (.func 119) ⟨[]⟩ ⟨[]⟩),(14,zI i),(17,zI zz.1)]) (fun zz=>[.l zz.2.2]) (fun zz=>(a≤i∧zz.1≤m)∧aw v 8 138 cR zz.2.1 zz.2.2∧zz.2.1.Perm xs) (fun zz=>(zz.1-i).toNat) (⟨m,xs,L⟩) ⟨by dsimp only;omega,ho,.refl _⟩ [0] ?_
  rintro⟨k,ys,L⟩ hJ K8 hK8 rest
  dsimp only at hJ
  have Rz:=hJ.2.2.length_eq
  have hyp:=hP.perm hJ.2.2
  refine zD 7<|zJ 110 (k>i) (fun JY=>?_) fun JY=>?_
  ·
   refine zD 9<|ja (k-1) (by omega)<|zD 2<|ja (k-1) (by omega) ?_
   obtain⟨B0,ahl⟩:=zG ys ((k-1).toNat) (by first|omega| (simp only[List.length_set];omega))
   refine mW (k-1) 8 hJ.2.1 ahl (Int.toNat_of_nonneg (show 0≤(k-1)∧(k-1) <((ys).length:Int) from (by first|omega| (simp only[List.length_set];omega))).1).symm (fun bfU aG9=>?_)
   refine ki 0 [0] L (fun s _ hZ=>bh hJ.2.1 aG9 hZ ahl)<|zD 2 ?_
   obtain⟨Jo,ahk⟩:=zG ys (k.toNat) (by first|omega| (simp only[List.length_set];omega))
   refine mW k 8 hJ.2.1 ahk (Int.toNat_of_nonneg (show 0≤k∧k <((ys).length:Int) from (by first|omega| (simp only[List.length_set];omega))).1).symm (fun bfT aG8=>?_)
   refine ki 0 [0] L (fun s _ hZ=>bh hJ.2.1 aG8 hZ ahk) ?_
   obtain⟨aZ5,aru⟩:=zG ys (k.toNat) (by first|omega| (simp only[List.length_set];omega))
   refine mW k 8 hJ.2.1 aru (Int.toNat_of_nonneg (show 0≤k∧k <((ys).length:Int) from (by first|omega| (simp only[List.length_set];omega))).1).symm (fun bfS aG7=>?_)
   refine aS 15 fun TX Ub Sn=>Fp 0 0 [zI B0.past,zI B0.w0,zI B0.w1,zI B0.w2,zI B0.w3,zI B0.gone,zI B0.new,zI B0.af] B0 hJ.2.1 aG7 aru rfl rfl (Nat.le_of_ble_eq_true rfl) fun L18 aow=>gx Sn [] ?_
   obtain⟨aZ4,ahj⟩:=zG ((ys.set k.toNat B0)) ((k-1).toNat) (by first|omega| (simp only[List.length_set];omega))
   refine mW (k-1) 8 aow ahj (Int.toNat_of_nonneg (show 0≤(k-1)∧(k-1) <(((ys.set k.toNat B0)).length:Int) from (by first|omega| (simp only[List.length_set];omega))).1).symm (fun OI aG6=>?_)
   refine aS 17 fun FI Ge wC=>Fp 0 0 [zI Jo.past,zI Jo.w0,zI Jo.w1,zI Jo.w2,zI Jo.w3,zI Jo.gone,zI Jo.new,zI Jo.af] Jo aow aG6 ahj rfl rfl (Nat.le_of_ble_eq_true rfl) fun L21 aov=>fW wC<|zD 3<|ja (k-1) (by omega)<|zD 2<|bF hK8 (⟨(k-1),((ys.set k.toNat B0).set ((k-1).toNat) Jo),L21⟩) ⟨by dsimp only;omega,aov,(lY ahk ahl).trans hJ.2.2⟩ (by dsimp only;omega) [0] (Sub.refl _)
  refine zD 3<|zR (.tuple ⟨[]⟩) [] [0] L ⟨_,hJ.2.2,hJ.2.1⟩
 refine zD 6<|ja (a+b) (by omega)<|zD 6 ?_
 have bdU:=Fy (x:=a+b) (by omega)
 refine zD 3<|ja ((IntKind.i64.wrap (aT .u64 (IntKind.u64.wrap (a+b)) 1))+m) (by omega)<|zD 14<|EG [1,1,1,1,1,1] [] (fun(zz:Int×Int)=>[(0,v),(1,zI a),(2,zI m),(3,zI b),(4,.func (.func 119) ⟨[]⟩ ⟨[]⟩),(18,zI (IntKind.i64.wrap (aT .u64 (IntKind.u64.wrap (a+b)) 1))),(19,zI ((IntKind.i64.wrap (aT .u64 (IntKind.u64.wrap (a+b)) 1))+m)),(20,zI zz.1),(21,zI zz.2)]) (fun zz=>[.l L]) (fun zz=>(a≤zz.1∧zz.1≤zz.2)∧zz.2≤b∧a≤((IntKind.i64.wrap (aT .u64 (IntKind.u64.wrap (a+b)) 1))+m)-zz.2∧((IntKind.i64.wrap (aT .u64 (IntKind.u64.wrap (a+b)) 1))+m)-zz.1≤b) ?_ (fun K11 aHr=>?_)
 ·
  rintro⟨s0,r0⟩ hC rest
  dsimp only at hC
  refine zD 3<|ja (((IntKind.i64.wrap (aT .u64 (IntKind.u64.wrap (a+b)) 1))+m)-1) (by omega)<|zD 4<|dw [1,1,1,1,1,1,1,0,0,0] [] (fun(zz:Int×Int)=>[(0,v),(1,zI a),(2,zI m),(3,zI b),(4,.func (.func 119) ⟨[]⟩ ⟨[]⟩),(18,zI (IntKind.i64.wrap (aT .u64 (IntKind.u64.wrap (a+b)) 1))),(19,zI ((IntKind.i64.wrap (aT .u64 (IntKind.u64.wrap (a+b)) 1))+m)),(20,zI zz.1),(21,zI zz.2),(22,zI (((IntKind.i64.wrap (aT .u64 (IntKind.u64.wrap (a+b)) 1))+m)-1))]) (fun zz=>[.l L]) (fun zz=>(a≤zz.1∧zz.1≤zz.2)∧zz.2≤b∧a≤((IntKind.i64.wrap (aT .u64 (IntKind.u64.wrap (a+b)) 1))+m)-zz.2∧((IntKind.i64.wrap (aT .u64 (IntKind.u64.wrap (a+b)) 1))+m)-zz.1≤b) (fun zz=>(zz.2-zz.1).toNat) (⟨s0,r0⟩) hC [0] ?_
  rintro⟨sx,r⟩ hK K12 ao4 rest
  dsimp only at hK
  refine zD 7<|zJ 151 (sx <r) (fun Fz=>?_) fun Fz=>?_
  ·
   refine zD 7<|ja (sx+r) (by omega)<|zD 6 ?_
   have hsr:=Fy (x:=sx+r) (by omega)
   refine zD 5<|ja ((((IntKind.i64.wrap (aT .u64 (IntKind.u64.wrap (a+b)) 1))+m)-1)-(IntKind.i64.wrap (aT .u64 (IntKind.u64.wrap (sx+r)) 1))) (by omega) ?_
   obtain⟨Jn,ahh⟩:=zG xs (((((IntKind.i64.wrap (aT .u64 (IntKind.u64.wrap (a+b)) 1))+m)-1)-(IntKind.i64.wrap (aT .u64 (IntKind.u64.wrap (sx+r)) 1))).toNat) (by first|omega| (simp only[List.length_set];omega))
   refine mW ((((IntKind.i64.wrap (aT .u64 (IntKind.u64.wrap (a+b)) 1))+m)-1)-(IntKind.i64.wrap (aT .u64 (IntKind.u64.wrap (sx+r)) 1))) 8 ho ahh (Int.toNat_of_nonneg (show 0≤((((IntKind.i64.wrap (aT .u64 (IntKind.u64.wrap (a+b)) 1))+m)-1)-(IntKind.i64.wrap (aT .u64 (IntKind.u64.wrap (sx+r)) 1)))∧((((IntKind.i64.wrap (aT .u64 (IntKind.u64.wrap (a+b)) 1))+m)-1)-(IntKind.i64.wrap (aT .u64 (IntKind.u64.wrap (sx+r)) 1))) <((xs).length:Int) from (by first|omega| (simp only[List.length_set];omega))).1).symm (fun bfP aG2=>?_)
   refine ki 0 [0] L (fun s _ hZ=>bh ho aG2 hZ ahh)<|zD 2 ?_
   obtain⟨Jm,ahg⟩:=zG xs ((IntKind.i64.wrap (aT .u64 (IntKind.u64.wrap (sx+r)) 1)).toNat) (by first|omega| (simp only[List.length_set];omega))
   refine mW (IntKind.i64.wrap (aT .u64 (IntKind.u64.wrap (sx+r)) 1)) 8 ho ahg (Int.toNat_of_nonneg (show 0≤(IntKind.i64.wrap (aT .u64 (IntKind.u64.wrap (sx+r)) 1))∧(IntKind.i64.wrap (aT .u64 (IntKind.u64.wrap (sx+r)) 1)) <((xs).length:Int) from (by first|omega| (simp only[List.length_set];omega))).1).symm (fun bfO aG1=>?_)
   refine ki 0 [0] L (fun s _ hZ=>bh ho aG1 hZ ahg)<|aS 11 fun aqj aqE N4=>jp (vs:=[.agg ⟨[zI Jn.past,zI Jn.w0,zI Jn.w1,zI Jn.w2,zI Jn.w3,zI Jn.gone,zI Jn.new,zI Jn.af]⟩,.agg ⟨[zI Jm.past,zI Jm.w0,zI Jm.w1,zI Jm.w2,zI Jm.w3,zI Jm.gone,zI Jm.new,zI Jm.af]⟩]) [] [] (fun aG hs hZ=>(an6 (x:=Jn) (y:=Jm) (hP _ (zL ahh)) (hP _ (zL ahg))))<|eG N4 [0]<|zD 3<|js 171 (!(decide ((Jn.past-Jm.past) <0))) (fun h25=>?_) (fun h25=>?_)
   ·
    try simp only[zB] at h25
    refine zD 3<|ja ((IntKind.i64.wrap (aT .u64 (IntKind.u64.wrap (sx+r)) 1))+1) (by omega)<|zD 2<|bF ao4 (⟨((IntKind.i64.wrap (aT .u64 (IntKind.u64.wrap (sx+r)) 1))+1),r⟩) (by dsimp only;omega) (by dsimp only;omega) [0] (Sub.refl _)
   try simp only[zB] at h25
   refine zD 5<|bF ao4 (⟨sx,(IntKind.i64.wrap (aT .u64 (IntKind.u64.wrap (sx+r)) 1))⟩) (by dsimp only;omega) (by dsimp only;omega) [0] (Sub.refl _)
  refine zD 6<|ja (((IntKind.i64.wrap (aT .u64 (IntKind.u64.wrap (a+b)) 1))+m)-sx) (by omega)<|zD 9<|jj 4 [(0,v),(1,zI a),(2,zI m),(3,zI b),(4,.func (.func 119) ⟨[]⟩ ⟨[]⟩),(18,zI (IntKind.i64.wrap (aT .u64 (IntKind.u64.wrap (a+b)) 1))),(20,zI sx),(24,zI (((IntKind.i64.wrap (aT .u64 (IntKind.u64.wrap (a+b)) 1))+m)-sx)),(185,.bool ((decide (sx <m))&&(decide (m <(((IntKind.i64.wrap (aT .u64 (IntKind.u64.wrap (a+b)) 1))+m)-sx)))))] (fun gI=>?_) (fun hj=>?_)
  rotate_left
  refine js 181 (decide (sx <m)) (fun h26=>?_) (fun h26=>?_)
  ·
   have ajm:=h26
   replace ajm:=of_decide_eq_true ajm
   refine zD 4<|jw 185 (.bool ((decide (sx <m))&&(decide (m <(((IntKind.i64.wrap (aT .u64 (IntKind.u64.wrap (a+b)) 1))+m)-sx))))) (w:= .bool (decide (m <(((IntKind.i64.wrap (aT .u64 (IntKind.u64.wrap (a+b)) 1))+m)-sx)))) (by rw[h26]<;>rfl) ?_
   exact zK hj
  ·
   have ajm:=h26
   replace ajm:=of_decide_eq_false ajm
   refine zD 4<|jw 185 (.bool ((decide (sx <m))&&(decide (m <(((IntKind.i64.wrap (aT .u64 (IntKind.u64.wrap (a+b)) 1))+m)-sx))))) (w:= .bool false) (by rw[h26]<;>rfl) ?_
   exact zK hj
  refine zD 1<|EG [1,1,1,1,1,1,1,1,1,1] [] (fun(zz:(List aj)×Cells)=>[(0,v),(1,zI a),(3,zI b),(4,.func (.func 119) ⟨[]⟩ ⟨[]⟩),(18,zI (IntKind.i64.wrap (aT .u64 (IntKind.u64.wrap (a+b)) 1))),(20,zI sx),(24,zI (((IntKind.i64.wrap (aT .u64 (IntKind.u64.wrap (a+b)) 1))+m)-sx))]) (fun zz=>[.l zz.2]) (fun zz=>zz.1.Perm xs∧aw v 8 138 cR zz.1 zz.2) ?_ (fun K14 JX=>?_)
  ·
   rintro⟨ys,L⟩ hA rest
   dsimp only at hA
   have Rz:=hA.1.length_eq
   have hyp:=hP.perm hA.1
   refine zD 7<|jj 4 [(0,v),(1,zI a),(3,zI b),(4,.func (.func 119) ⟨[]⟩ ⟨[]⟩),(18,zI (IntKind.i64.wrap (aT .u64 (IntKind.u64.wrap (a+b)) 1))),(20,zI sx),(24,zI (((IntKind.i64.wrap (aT .u64 (IntKind.u64.wrap (a+b)) 1))+m)-sx)),(199,.bool ((decide (a <sx))&&(decide (sx <(IntKind.i64.wrap (aT .u64 (IntKind.u64.wrap (a+b)) 1))))))] (fun gI=>?_) (fun hj=>?_)
   rotate_left
   refine js 195 (decide (a <sx)) (fun h27=>?_) (fun h27=>?_)
   ·
    have ajl:=h27
    replace ajl:=of_decide_eq_true ajl
    refine zD 4<|jw 199 (.bool ((decide (a <sx))&&(decide (sx <(IntKind.i64.wrap (aT .u64 (IntKind.u64.wrap (a+b)) 1)))))) (w:= .bool (decide (sx <(IntKind.i64.wrap (aT .u64 (IntKind.u64.wrap (a+b)) 1))))) (by rw[h27]<;>rfl) ?_
    exact zK hj
   ·
    have ajl:=h27
    replace ajl:=of_decide_eq_false ajl
    refine zD 4<|jw 199 (.bool ((decide (a <sx))&&(decide (sx <(IntKind.i64.wrap (aT .u64 (IntKind.u64.wrap (a+b)) 1)))))) (w:= .bool false) (by rw[h27]<;>rfl) ?_
    exact zK hj
   refine zD 1<|EG [1,1,1,1,1,1,1,1,1,1,1] [] (fun(zz:(List aj)×Cells)=>[(0,v),(3,zI b),(4,.func (.func 119) ⟨[]⟩ ⟨[]⟩),(18,zI (IntKind.i64.wrap (aT .u64 (IntKind.u64.wrap (a+b)) 1))),(24,zI (((IntKind.i64.wrap (aT .u64 (IntKind.u64.wrap (a+b)) 1))+m)-sx))]) (fun zz=>[.l zz.2]) (fun zz=>zz.1.Perm xs∧aw v 8 138 cR zz.1 zz.2) ?_ (fun K15 aHq=>?_)
   ·
    rintro⟨ys,L⟩ hB rest
    dsimp only at hB
    have Rz:=hB.1.length_eq
    have hyp:=hP.perm hB.1
    refine zD 6<|jj 4 [(0,v),(3,zI b),(4,.func (.func 119) ⟨[]⟩ ⟨[]⟩),(18,zI (IntKind.i64.wrap (aT .u64 (IntKind.u64.wrap (a+b)) 1))),(24,zI (((IntKind.i64.wrap (aT .u64 (IntKind.u64.wrap (a+b)) 1))+m)-sx)),(213,.bool ((decide ((IntKind.i64.wrap (aT .u64 (IntKind.u64.wrap (a+b)) 1)) <(((IntKind.i64.wrap (aT .u64 (IntKind.u64.wrap (a+b)) 1))+m)-sx)))&&(decide ((((IntKind.i64.wrap (aT .u64 (IntKind.u64.wrap (a+b)) 1))+m)-sx) <b))))] (fun gI=>?_) (fun hj=>?_)
    rotate_left
    refine js 209 (decide ((IntKind.i64.wrap (aT .u64 (IntKind.u64.wrap (a+b)) 1)) <(((IntKind.i64.wrap (aT .u64 (IntKind.u64.wrap (a+b)) 1))+m)-sx))) (fun h28=>?_) (fun h28=>?_)
    ·
     have ajk:=h28
     replace ajk:=of_decide_eq_true ajk
     refine zD 4<|jw 213 (.bool ((decide ((IntKind.i64.wrap (aT .u64 (IntKind.u64.wrap (a+b)) 1)) <(((IntKind.i64.wrap (aT .u64 (IntKind.u64.wrap (a+b)) 1))+m)-sx)))&&(decide ((((IntKind.i64.wrap (aT .u64 (IntKind.u64.wrap (a+b)) 1))+m)-sx) <b)))) (w:= .bool (decide ((((IntKind.i64.wrap (aT .u64 (IntKind.u64.wrap (a+b)) 1))+m)-sx) <b))) (by rw[h28]<;>rfl) ?_
     exact zK hj
    ·
     have ajk:=h28
     replace ajk:=of_decide_eq_false ajk
     refine zD 4<|jw 213 (.bool ((decide ((IntKind.i64.wrap (aT .u64 (IntKind.u64.wrap (a+b)) 1)) <(((IntKind.i64.wrap (aT .u64 (IntKind.u64.wrap (a+b)) 1))+m)-sx)))&&(decide ((((IntKind.i64.wrap (aT .u64 (IntKind.u64.wrap (a+b)) 1))+m)-sx) <b)))) (w:= .bool false) (by rw[h28]<;>rfl) ?_
     exact zK hj
    refine zD 1<|js 213 ((decide ((IntKind.i64.wrap (aT .u64 (IntKind.u64.wrap (a+b)) 1)) <(((IntKind.i64.wrap (aT .u64 (IntKind.u64.wrap (a+b)) 1))+m)-sx)))&&(decide ((((IntKind.i64.wrap (aT .u64 (IntKind.u64.wrap (a+b)) 1))+m)-sx) <b))) (fun h29=>?_) (fun h29=>?_)
    ·
     try simp only[zB] at h29
     refine zD 7<|jc (vs:=[v,zI (IntKind.i64.wrap (aT .u64 (IntKind.u64.wrap (a+b)) 1)),zI (((IntKind.i64.wrap (aT .u64 (IntKind.u64.wrap (a+b)) 1))+m)-sx),zI b,.func (.func 119) ⟨[]⟩ ⟨[]⟩]) [0] (ih _ (show (b-(IntKind.i64.wrap (aT .u64 (IntKind.u64.wrap (a+b)) 1))).toNat <n by omega) _ _ _ _ _ _ _ hB.2 (by omega) hyp (by omega) rfl) ?_
     rintro aW4 aVt ⟨aWy,ahz,aFG⟩
     have aP7:=ahz.length_eq
     have aP4:=gu.perm hyp ahz
     refine zD 1<|zR (.tuple ⟨[]⟩) [] [0] aVt ⟨_,(ahz.trans hB.1),aFG⟩
    try simp only[zB] at h29
    refine zD 2<|zR (.tuple ⟨[]⟩) [] [0] L ⟨_,hB.1,hB.2⟩
   refine js 199 ((decide (a <sx))&&(decide (sx <(IntKind.i64.wrap (aT .u64 (IntKind.u64.wrap (a+b)) 1))))) (fun h30=>?_) (fun h30=>?_)
   ·
    try simp only[zB] at h30
    refine zD 7<|jc (vs:=[v,zI a,zI sx,zI (IntKind.i64.wrap (aT .u64 (IntKind.u64.wrap (a+b)) 1)),.func (.func 119) ⟨[]⟩ ⟨[]⟩]) [0] (ih _ (show ((IntKind.i64.wrap (aT .u64 (IntKind.u64.wrap (a+b)) 1))-a).toNat <n by omega) _ _ _ _ _ _ _ hA.2 (by omega) hyp (by omega) rfl) ?_
    rintro aW5 aVu ⟨aAV,ahA,aFI⟩
    have aP8:=ahA.length_eq
    have aP5:=gu.perm hyp ahA
    refine zD 1<|bF aHq ⟨aAV,aVu⟩ ⟨(ahA.trans hA.1),aFI⟩ Nat.zero_lt_one [0] (Sub.refl _)
   try simp only[zB] at h30
   refine zD 2<|bF aHq ⟨ys,L⟩ ⟨hA.1,hA.2⟩ Nat.zero_lt_one [0] (Sub.refl _)
  refine js 185 ((decide (sx <m))&&(decide (m <(((IntKind.i64.wrap (aT .u64 (IntKind.u64.wrap (a+b)) 1))+m)-sx)))) (fun h31=>?_) (fun h31=>?_)
  ·
   try simp only[zB] at h31
   refine zD 7<|jc (vs:=[v,zI sx,zI m,zI (((IntKind.i64.wrap (aT .u64 (IntKind.u64.wrap (a+b)) 1))+m)-sx),.func (.func 119) ⟨[]⟩ ⟨[]⟩]) [0] (aM0 ho (by omega) hP (by omega)) ?_
   rintro aW6 aVv ⟨aAW,ahB,aFJ⟩
   have aP9:=ahB.length_eq
   have aP6:=gu.perm hP ahB
   refine zD 1<|bF JX ⟨aAW,aVv⟩ ⟨(ahB.trans (.refl _)),aFJ⟩ Nat.zero_lt_one [0] (Sub.refl _)
  try simp only[zB] at h31
  refine zD 2<|bF JX ⟨xs,L⟩ ⟨(.refl _),ho⟩ Nat.zero_lt_one [0] (Sub.refl _)
 refine zJ 140 (m>(IntKind.i64.wrap (aT .u64 (IntKind.u64.wrap (a+b)) 1))) (fun h32=>?_) fun h32=>?_
 ·
  refine zD 5<|ja (((IntKind.i64.wrap (aT .u64 (IntKind.u64.wrap (a+b)) 1))+m)-b) (by omega)<|zD 6<|bF aHr ⟨(((IntKind.i64.wrap (aT .u64 (IntKind.u64.wrap (a+b)) 1))+m)-b),(IntKind.i64.wrap (aT .u64 (IntKind.u64.wrap (a+b)) 1))⟩ (by dsimp only;omega) Nat.zero_lt_one [0] (Sub.refl _)
 refine zD 10<|bF aHr ⟨a,m⟩ (by dsimp only;omega) Nat.zero_lt_one [0] (Sub.refl _)
theorem aMZ:∀n,aJj n:=by
 intro n
 induction n using Nat.strongRecOn with
 |_ n ih=>exact fun ro v xs L a m b ho hN hP zg hn=>aCg ih ho hN hP zg hn
theorem aqO{v:Value}{xs:List aj}{L:Cells}{a m:Int}(ho:aw v 8 138 cR xs L)(hN:xs.length≤100000)(hP:gu xs)(zg:0≤a∧a <m∧m <b∧b≤xs.length):dG zT 219 [v,zI a,zI m,zI b,.func (.func 119) ⟨[]⟩ ⟨[]⟩] ro L (fun _ Y=>xc v xs Y):=
 aMZ _ ro v xs L a m b ho hN hP zg rfl
theorem aCh{v:Value}{xs:List aj}{L:Cells}(ho:aw v 8 138 cR xs L)(hN:xs.length≤100000)(hP:gu xs)(hn:n=xs.length):dG zT 168 [v,zI n,.func (.func 119) ⟨[]⟩ ⟨[]⟩] ro L (fun r Y=>xc v xs Y):=by
 refine zC [.l L]<|zD 12<|dw [1,1,0,0,0] [] (fun(zz:Int×Int×(List aj)×Cells)=>[(0,v),(1,zI n),(2,.func (.func 119) ⟨[]⟩ ⟨[]⟩),(6,zI 20),(7,zI zz.1),(8,zI zz.2.1)]) (fun zz=>[.l zz.2.2.2]) (fun zz=>(zz.2.1=zz.1+20∧0≤zz.1∧zz.1≤n)∧aw v 8 138 cR zz.2.2.1 zz.2.2.2∧zz.2.2.1.Perm xs) (fun zz=>(n-zz.1).toNat) (⟨0,20,xs,L⟩) ⟨by dsimp only;omega,ho,.refl _⟩ [0] ?_
 rintro⟨a,b,ys,L⟩ hI K1 bG rest
 dsimp only at hI
 have Rz:=hI.2.2.length_eq
 have hyp:=hP.perm hI.2.2
 refine zD 7<|zJ 13 (b≤n) (fun h1=>?_) fun h1=>?_
 ·
  refine zD 9<|jc (vs:=[v,zI a,zI b,.func (.func 119) ⟨[]⟩ ⟨[]⟩]) [0] (aCj hI.2.1 (by omega) hyp (by omega)) ?_
  rintro baV Y18 ⟨aLx,RP,abW⟩
  have aX5:=RP.length_eq
  have aXY:=gu.perm hyp RP
  refine zD 9<|ja (b+20) (by omega)<|zD 2<|bF bG (⟨b,(b+20),aLx,Y18⟩) ⟨by dsimp only;omega,abW,(RP.trans hI.2.2)⟩ (by dsimp only;omega) [0] (Sub.refl _)
 refine zD 8<|jc (vs:=[v,zI a,zI n,.func (.func 119) ⟨[]⟩ ⟨[]⟩]) [0] (aCj hI.2.1 (by omega) hyp (by omega)) ?_
 rintro baU Y27 ⟨aZZ,awH,aRm⟩
 have aX4:=awH.length_eq
 have aXX:=gu.perm hyp awH
 refine zD 2<|dw [1,1,1,1,0,0] [] (fun(zz:Int×(List aj)×Cells)=>[(0,v),(1,zI n),(2,.func (.func 119) ⟨[]⟩ ⟨[]⟩),(6,zI zz.1)]) (fun zz=>[.l zz.2.2]) (fun zz=>(20≤zz.1∧zz.1≤1000000)∧aw v 8 138 cR zz.2.1 zz.2.2∧zz.2.1.Perm xs) (fun zz=>(n-zz.1).toNat) (⟨20,_,_⟩) ⟨by dsimp only;omega,aRm,awH.trans hI.2.2⟩ [0] ?_
 rintro⟨bz,ys,L⟩ hJ K2 jV rest
 dsimp only at hJ
 have Rz:=hJ.2.2.length_eq
 have hyp:=hP.perm hJ.2.2
 refine zD 7<|zJ 30 (bz <n) (fun h2=>?_) fun h2=>?_
 ·
  refine zD 6<|ja (2*bz) (by omega)<|zD 5<|dw [1,1,1,1,0,0,1,0,1,0,0,0] [K2] (fun(zz:Int×Int×(List aj)×Cells)=>[(0,v),(1,zI n),(2,.func (.func 119) ⟨[]⟩ ⟨[]⟩),(6,zI bz),(7,zI zz.1),(8,zI zz.2.1)]) (fun zz=>[.l zz.2.2.2]) (fun zz=>(zz.2.1=zz.1+2*bz∧0≤zz.1∧zz.1≤n)∧aw v 8 138 cR zz.2.2.1 zz.2.2.2∧zz.2.2.1.Perm xs) (fun zz=>(n-zz.1).toNat) (⟨0,(2*bz),ys,L⟩) ⟨by dsimp only;omega,hJ.2⟩ [0] ?_
  rintro⟨a,b,ys,L⟩ hK K3 hK3 rest
  dsimp only at hK
  have Rz:=hK.2.2.length_eq
  have hyp:=hP.perm hK.2.2
  refine zD 7<|zJ 35 (b≤n) (fun h3=>?_) fun h3=>?_
  ·
   refine zD 9<|ja (a+bz) (by omega)<|zD 2<|jc (vs:=[v,zI a,zI (a+bz),zI b,.func (.func 119) ⟨[]⟩ ⟨[]⟩]) [0] (aqO hK.2.1 (by omega) hyp (by omega)) ?_
   rintro baS Y43 ⟨aLv,awF,aRj⟩
   have aX2:=awF.length_eq
   have aXV:=gu.perm hyp awF
   refine zD 9<|ja (2*bz) (by omega)<|ja (b+(2*bz)) (by omega)<|zD 2<|bF hK3 (⟨b,(b+(2*bz)),aLv,Y43⟩) ⟨by dsimp only;omega,aRj,(awF.trans hK.2.2)⟩ (by dsimp only;omega) [0] (Sub.refl _)
  refine zD 7<|ja (a+bz) (by omega)<|zD 8<|zJ 54 ((a+bz) <n) (fun h4=>?_) fun h4=>?_
  ·
   refine zD 7<|jc (vs:=[v,zI a,zI (a+bz),zI n,.func (.func 119) ⟨[]⟩ ⟨[]⟩]) [0] (aqO hK.2.1 (by omega) hyp (by omega)) ?_
   rintro baP Y60 ⟨aLt,ahy,NP⟩
   have aXZ:=ahy.length_eq
   have aXS:=gu.perm hyp ahy
   refine zD 3<|ja (bz*2) (by omega)<|zD 2<|bF jV (⟨(bz*2),aLt,Y60⟩) ⟨by dsimp only;omega,NP,(ahy.trans hK.2.2)⟩ (by dsimp only;omega) [0] (Sub.refl _)
  refine zD 4<|ja (bz*2) (by omega)<|zD 2<|bF jV (⟨(bz*2),ys,L⟩) ⟨by dsimp only;omega,hK.2.1,hK.2.2⟩ (by dsimp only;omega) [0] (Sub.refl _)
 refine zD 2<|zR (.tuple ⟨[]⟩) [] [0] L ⟨_,hJ.2.2,hJ.2.1⟩
theorem Qj{v:Value}{xs:List aj}{L:Cells}(ho:aw v 8 138 cR xs L)(hN:xs.length≤100000)(hP:gu xs):dG zT 118 [v,.func (.func 119) ⟨[]⟩ ⟨[]⟩] ro L (fun r Y=>xc v xs Y):=by
 refine zC [.l L]<|zD 3<|BQ ho<|zD 1<|jc (vs:=[v,zI (xs.length:Int),.func (.func 119) ⟨[]⟩ ⟨[]⟩]) [0] (aCh ho (by omega) hP rfl) ?_
 rintro rv8 Y8 ⟨ys8,hp8,ho8⟩
 have bcO:=hp8.length_eq
 have bcN:=gu.perm hP hp8
 refine zD 1<|zR (.tuple ⟨[]⟩) [] [0] Y8 ⟨_,hp8,ho8⟩
open Go.ConcR (KK wgBlock WgAt stA smA rd wr)
def akO(o:Oper):Array TypeId:=match o.op with
 | .call c=>c.argTypes
 | .go c=>c.argTypes
 | .defer c=>c.argTypes
 |_=> #[]
noncomputable def kE:rO:=ayV zT 60 2
theorem aEA:kE.cl.OK zT 216 where
 ff:=by kernel_rfl
 fn:=⟨(Tryz.prog.funcs[116]?).getD default,by kernel_rfl,by kernel_rfl,by kernel_rfl⟩
 bf:=⟨by kernel_rfl,by kernel_rfl,by kernel_rfl⟩
 enter:=fun p1 p2=>by kernel_rfl
 op0:=by kernel_rfl
 rest:=⟨1,by kernel_rfl⟩
 size:=by kernel_rfl
 op:=⟨by kernel_rfl,by kernel_rfl,akO kE.cl.oc,by kernel_rfl⟩
theorem avU:∀v,v <2→∀W,∃k,Iv zT 216 v (Frame.enter zT 113 #[zP W,zI 1] .normal)=some (List.replicate k W):=by
 intro v hv W
 match v,hv with
 |0,_=>exact⟨7,by kernel_rfl⟩
 |1,_=>exact⟨4,by kernel_rfl⟩
theorem an5:∀W,∃k,xM zT 216 2 (Frame.enter zT 115 #[zP W] .deferred)=some (List.replicate k W):=fun W=>⟨27,by kernel_rfl⟩
theorem an4:∀W,∃k,Bx zT 216 2 (Frame.enter zT 117 #[zP W] .normal)=some (List.replicate k W):=fun W=>⟨164,by kernel_rfl⟩
noncomputable def nu(Wg Ch:Nat)(gJ:Os)(cB:Array (Nat×ByteArray)):dO (List aj):=⟨zT,216,Wg,Ch,2,zS,gJ,cB,fun l v X=>aw v 8 138 cR l X⟩
theorem HZ(K:aC)(on:Int)(hb:K.after.length≤4):∀(n a:Nat) (p:Nat→Int),(∀i,0≤p i∧p i≤4)→(gB K on n a p).length≤5^n∧∀q∈gB K on n a p,∀i,0≤q i∧q i≤4
 |0,a,p,hp=>by
  simp only[gB]
  cases j7 on p K.facts 0 with
  |true=>exact⟨by simp,fun q hq=>by simp only[cond_true,List.mem_singleton] at hq;subst hq;exact hp⟩
  |false=>exact⟨by simp,fun q hq=>by simp at hq⟩
 |n+1,a,p,hp=>by
  obtain⟨h1,h2⟩:=HZ K on hb n (a+1) p hp
  have hg:∀b,b <K.after.length→(nq K on n a p b).length≤5^n∧∀q∈nq K on n a p b,∀i,0≤q i∧q i≤4:=fun b cJ=>by
   simp only[nq]
   cases !dc K on a b||qx p a ((b:Int)+1) with
   |true=>exact⟨by simp,fun q hq=>by simp at hq⟩
   |false=>
    simp only[cond_false]
    refine HZ K on hb n (a+1) _ fun i=>?_
    simp only[ij]
    split
    ·omega
    exact hp i
  rw[qA]
  refine⟨?_,fun q hq=>?_⟩
  ·rw[List.length_append,List.length_flatMap]
   have:((List.range K.after.length).map fun b=>(nq K on n a p b).length).sum≤K.after.length*5^n:=by
    have key:∀l:List Nat,(∀b∈l,b <K.after.length)→(l.map fun b=>(nq K on n a p b).length).sum≤l.length*5^n:=by
     intro l
     induction l with
     |nil=>intro _;simp
     |cons b l ih=>
      intro hl
      have:=ih fun x hx=>hl x (List.mem_cons_of_mem _ hx)
      have:=(hg b (hl b List.mem_cons_self)).1
      simp only[List.map_cons,List.sum_cons,List.length_cons,Nat.succ_mul]
      omega
    have:=key (List.range K.after.length) fun b hb=>List.mem_range.1 hb
    simpa using this
   have h5:K.after.length*5^n≤4*5^n:=Nat.mul_le_mul_right _ hb
   rw[Nat.pow_succ]
   omega
  rcases List.mem_append.1 hq with hq|hq
  ·exact h2 q hq
  obtain⟨b,mv,hq⟩:=List.mem_flatMap.1 hq
  exact(hg b (List.mem_range.1 mv)).2 q hq
theorem iR(hV:ee K)(on:Int):(aI K on).length≤625∧∀q∈aI K on,∀i,0≤q i∧q i≤4:=by
 obtain⟨h1,h2⟩:=HZ K on hV.after.1 K.before.length 0 (fun _=>0) fun _=>by omega
 refine⟨Nat.le_trans h1 ?_,h2⟩
 have:=Nat.pow_le_pow_right (n:=5) (by omega) hV.before.1
 omega
abbrev pV(b:Nat):Value:= zP b
noncomputable def ED(f i:Nat):Array Oper:=cP (codeOf zT f) i
noncomputable def aUZ(f i:Nat):Code:=((codeOf zT f)[i]?).getD .skip
def mB(K:aC)(on:Int)(keep:aj→Bool)(r:bD)(past:Nat):List aj:=((aI K on).map (cv K r past)).filter keep
noncomputable def ZZ(f:Nat):Code:=(((Tryz.prog.funcs[f]?).getD default).body).getD .skip
theorem iB{l:List α}{x:α}(h:l[k]?=some x):l.take (k+1)=l.take k++[x]:=by rw[List.take_succ,h];rfl
theorem ayM:gE [ZZ 114]=[.region 0 (ED 114 0) false,.region 1 (ED 114 1) false,.region 2 (ED 114 2) false,aUZ 114 3,.region 7 (ED 114 4) false]:=by kernel_rfl
theorem aEr{rows:List bD}{on:Int}{past:Nat}{Jq:bD}{keep:aj→Bool}{Wg Ch:Nat}{gJ:Os}{cB:Array (Nat×ByteArray)}{b3 b4 b5 b7 b9:Nat}(hV:ee K)(hF:nY ro f K rows)(CU:rows[past]?=some Jq) (HI:BU zT g=true)
 (ia:∀aD,Sub ro aD→∀p∈aI K on,du zT g (fi++[.agg ⟨cR (cv K Jq past p)⟩]++ca) aD (.bool (keep (cv K Jq past p))))
 (g3:ro b3=some (.cells ⟨[pV f]⟩ 106 (0,0))) (g4:ro b4=some (.cells ⟨[.int .u8 on]⟩ 111 (0,0))) (g9:ro b9=some (.cells ⟨[zI (past:Int)]⟩ 3 (0,0))) (g5:ro b5=some (.cells ⟨[.func (.func g) ⟨fi⟩ ⟨ca⟩]⟩ 139 (0,0))) (g7:ro b7=some (.cells ⟨[.chan (some Ch)]⟩ 207 (0,0))):
 eJ zT false ((nu Wg Ch gJ cB).J7 (mB K on keep Jq past)) (born zT {target:= .fn (.func 114) ⟨[pV Wg,pV b3,pV b4,pV b9,pV b5,pV b7]⟩,args:= #[]}) ⟨ro,[]⟩:=by
 have hT:Closed zT false (eJ zT false ((nu Wg Ch gJ cB).J7 (mB K on keep Jq past))):=dQ _ _ _
 refine aB8 (fn:=(Tryz.prog.funcs[114]?).getD default) (c:=ZZ 114) (n:=26) (by kernel_rfl) (by kernel_rfl) (by kernel_rfl) (by kernel_rfl) (by rfl)<|qd hT ayM fun l1 C2=>?_
 refine atI hT (a:=eF (ED 114 0) 0) (f:=115) (xs:= #[.tmp 0]) (vs:=[pV Wg]) (ats:=akO (eF (ED 114 0) 0)) (by kernel_rfl) (by kernel_rfl) (by kernel_rfl) (by decide) rfl<|qd hT C2 fun l2 qT=>?_
 refine vL ar hT<|jn fun b6=>zD 1<|xV<|qd hT qT fun l3 Ph=>?_
 refine vL ar hT<|jl (b:=b3) (off:=0) (m:=1) (vs:=[pV f]) 0 ⟨_,_,_,.inl g3,rfl⟩<|jl (b:=b4) (off:=0) (m:=1) (vs:=[.int .u8 on]) 0 ⟨_,_,_,.inl g4,rfl⟩<|jc [] (Lq (on:=on) hF hV) ?_
 rintro _ _ ⟨q1,q2,q3,q4,rfl,rfl⟩
 refine jf [0] [(q1,.cells ⟨[pV f]⟩ 106 (0,0)),(q2,.cells ⟨[.func (.func 137) ⟨[]⟩ ⟨[pV q1,pV q4]⟩]⟩ 239 (0,0)),(q3,.cells ⟨Bt ⟨dc K on⟩⟩ 162 (0,0)),(q4,.cells ⟨[.int .u8 on]⟩ 111 (0,0))] fun aG bZ hk1=>zD 1<|aB6<|aqI hT Ph fun l4 Pg=>?_
 refine aB7 ar hT ?_
 have Ao:=hF.up bZ
 refine zD 1<|nI ?_
 refine jrf [] (YL (on:=on) Ao hV (hk1 _ (.head _)) (hk1 _ (.tail _ (.head _))) (hk1 _ (.tail _ (.tail _ (.head _)))) (hk1 _ (.tail _ (.tail _ (.tail _ (.head _)))))) (by rintro _ _ _ _ ⟨_,_,rfl,_⟩;rfl)
  (fun(zz:Value×Cells)=>[.b b6 (.cells ⟨[zz.1]⟩ 115 (0,0)),.l zz.2]) (fun kk=>(fun(zz:Value×Cells)=>aw zz.1 8 138 cR ((((aI K on).take kk).map (cv K Jq past)).filter keep) zz.2)) (fun jump=>(fun(zz:Value×Cells)=>False)) (⟨zS,[]⟩) (aw.nil _ _ _) [1,0] ?_ ?_ ?_
 ·rintro bl bd kk vs LL ⟨v,Lb⟩ lq iL ⟨p,hp,rfl,rfl⟩ hI oO
  dsimp only at hI
  have aFs:=zL hp
  have hp4:=(iR hV on).2 p aFs
  have ahs:=Sub.trans bZ oO
  have hlen:((((aI K on).take kk).map (cv K Jq past)).filter keep).length≤625:=by
   refine Nat.le_trans (List.length_filter_le _ _) ?_
   rw[List.length_map,List.length_take]
   have:=(iR hV on).1
   omega
  refine zD 1<|jn fun wX=>jd 2 [0]<|jbI 1<|zD 3<|jl (b:=b3) (off:=0) (m:=1) (vs:=[pV f]) 0 ⟨_,_,_,.inl (ahs _ _ g3),rfl⟩<|jl (b:=b9) (off:=0) (m:=1) (vs:=[zI (past:Int)]) 0 ⟨_,_,_,.inl (ahs _ _ g9),rfl⟩<|jd 1 [0]<|jp (vs:=[pV f,zI (past:Int),.agg ⟨eP4 p⟩]) [] [] (fun yN hs hZ=>arp (hF.up (Sub.trans ahs hs)) hV CU hp4)<|jn fun vz=>jd 4 [0]<|jl (b:=b5) (off:=0) (m:=1) (vs:=[.func (.func g) ⟨fi⟩ ⟨ca⟩]) 0 ⟨_,_,_,.inl (ahs _ _ g5),rfl⟩<|jd 1 [0]<|jpF (f:=g) (V:= .bool (keep (cv K Jq past p))) (vs:=fi++[Value.agg ⟨cR (cv K Jq past p)⟩]++ca) [] [] HI (fun yN hs hZ=>ia _ (Sub.trans ahs hs) p aFs)<|zD 1<|js 19 (keep (cv K Jq past p)) (fun h5=>?_) (fun h5=>?_)
  ·refine jd 4 [3,0]<|jn fun OH=>iK (sz:=8) (ps:=(((aI K on).take kk).map (cv K Jq past)).filter keep) (qs:=[cv K Jq past p]) (enc:=cR) (w:= .slice (some ⟨OH,0,none⟩) 1 1) [5] [0] [(OH,.cells ⟨([cv K Jq past p].map cR).flatten⟩ 138 (0,0))] hI (fun s _ hZ=>bV [cv K Jq past p] (hZ _ (.head _)) (by intro p hp;rfl)) (fun p _=>ai rfl) (by simp only[List.length_cons,List.length_nil];omega) (fun v23 L23 y9=>?_)
   obtain⟨va,vc,he⟩:=y9.form
   subst he
   refine jd 2 [5]<|jyn qy0 (Sub.refl _) ⟨.slice va _ vc,L23⟩ (by dsimp only;rw[iB hp,List.map_append,List.filter_append,List.map_cons,List.map_nil,List.filter_cons_of_pos h5,List.filter_nil];exact y9) [4,5,0]
  refine zD 2<|jyn qy0 (Sub.refl _) ⟨v,Lb⟩ (by dsimp only;rw[iB hp,List.map_append,List.filter_append,List.map_cons,List.map_nil,List.filter_cons_of_neg (by rw[h5];simp),List.filter_nil,List.append_nil];exact hI) [2,3,4]
 ·rintro bd ⟨v,Lb⟩ Z hI rfl
  dsimp only at hI
  rw[List.take_length] at hI
  refine aB5<|qd hT Pg fun l5 Pf=>?_
  have:=gk Pf
  subst this
  show TT _ _ (.inRegion (ED 114 4) (0::[1,2])::[]) _ _ _ _ _
  refine tLd hT (.chan (some Ch)) (a:=eF (ED 114 4) 0) (x:= .tmp 5) (U:=207) (q:=b7) (by kernel_rfl) (by kernel_rfl) (by kernel_rfl) (by kernel_rfl) (by decide) rfl (fun _ _ _ _=> .inl (bZ _ _ g7))<|aML hT v (a:=eF (ED 114 4) 1) (x:= .tmp 6) (U:=115) (q:=b6) (by kernel_rfl) (by kernel_rfl) (by kernel_rfl) (by kernel_rfl) (by decide) rfl [2] 115<|aB0 (E:=nu Wg Ch gJ cB) (a:=eF (ED 114 4) 2) (sc:= .tmp 24) (sv:= .tmp 25) (v:=v) (Y:=Lb) [3] (by kernel_rfl) (by kernel_rfl) (fun ρ=>by kernel_rfl) (by decide) rfl hI<|XB (dQ _ _ _)<|atE (E:=nu Wg Ch gJ cB) (fn:=(Tryz.prog.funcs[114]?).getD default) (dn:=115) (bd:=bd) (by kernel_rfl) (by kernel_rfl) (by kernel_rfl) (an5 Wg).choose_spec xo [0] rfl rfl
 rintro bd ⟨v,Lb⟩ Z jump hS hZ
 exact hS.elim
theorem f26:gE [ZZ 60]=[.region 0 kE.o0 false,.region 1 kE.o1 false,.region 2 kE.o2 false,.region 3 kE.o3 false,.block 0 (.loop kE.lb),.region 9 kE.o9 false,.region 10 kE.o10 false,.region 11 kE.o11 false,.block 2 (.loop kE.rb),.region 15 (ED 60 9) false,.region 16 (ED 60 10) false,.ret]:=by kernel_rfl
theorem aIg:gE [kE.lb]=[.region 4 kE.o4 false,.cond (.tmp 19) .skip (.exit 0),.block 1 kE.DV,.region 8 kE.o8 false]:=by kernel_rfl
theorem aUL:gE [kE.DV]=[.region 5 kE.o5 false,.region 6 kE.o6 false,.region 7 kE.o7 false]:=by kernel_rfl
theorem aIf:gE [kE.rb]=[.region 12 kE.Cp false,.cond (.tmp 27) .skip (.exit 2),.block 3 kE.uM]:=by kernel_rfl
theorem aUK:gE [kE.uM]=[.region 13 kE.o13 false,.region 14 kE.o14 false]:=by kernel_rfl
def iA(K:aC)(on:Int)(keep:aj→Bool)(rows:List bD)(n:Nat):List (List aj):=(List.range n).map fun i=>mB K on keep ((rows[i]?).getD ⟨fun _ _=>false⟩) i
theorem PB{on:Int}{keep:aj→Bool}{rows:List bD}{n:Nat}{r:bD}(h:rows[n]?=some r):iA K on keep rows (n+1)=iA K on keep rows n++[mB K on keep r n]:=by
 simp only[iA,List.range_succ,List.map_append,List.map_cons,List.map_nil,h,Option.getD_some]
theorem yA(K:aC)(on:Int)(keep:aj→Bool)(rows:List bD)(n:Nat):(iA K on keep rows n).length=n:=by simp[iA]
def cU(K:aC)(on:Int)(keep:aj→Bool)(rows:List bD):List aj:=(iA K on keep rows rows.length).flatten
theorem oM(hV:ee K)(on:Int)(keep:aj→Bool){rows:List bD}(hR:rows.length≤2):(cU K on keep rows).length≤1250:=by
 have h1:∀r i,(mB K on keep r i).length≤625:=fun r i=>Nat.le_trans (List.length_filter_le _ _) (by rw[List.length_map];exact(iR hV on).1)
 have key:∀n,(iA K on keep rows n).flatten.length≤n*625:=by
  intro n
  induction n with
  |zero=>simp[iA]
  |succ n ih=>
   have:=h1 ((rows[n]?).getD ⟨fun _ _=>false⟩) n
   simp only[iA,List.range_succ,List.map_append,List.map_cons,List.map_nil,List.flatten_append,List.length_append,List.flatten_cons,List.flatten_nil,List.append_nil] at ih ⊢
   omega
 have:=key rows.length
 have h2:rows.length*625≤2*625:=Nat.mul_le_mul_right _ hR
 exact Nat.le_trans this h2
theorem acY{on:Int}{keep:aj→Bool}{rows:List bD}(hR:rows.length≤2):gu (cU K on keep rows):=by
 intro x hx
 obtain⟨l,hl,hx⟩:=List.mem_flatten.1 hx
 obtain⟨i,hi,rfl⟩:=List.mem_map.1 hl
 have hi:=List.mem_range.1 hi
 obtain⟨p,_,rfl⟩:=List.mem_map.1 (List.mem_filter.1 hx).1
 simp only[cv]
 omega
theorem ajL(a:List (List α))(o:List α)(b:List (List α))(zs:List α):((zs++o)++(a++b).flatten).Perm (zs++(a++o::b).flatten):=by
 simp only[List.flatten_append,List.flatten_cons,List.append_assoc]
 refine .append_left _ ?_
 rw[←List.append_assoc,←List.append_assoc]
 exact .append_right _ List.perm_append_comm
theorem aEz{rows:List bD}{on:Int}{keep:aj→Bool}{fr:Cells}(hV:ee K)(hF:nY ro f K rows)(hR:rows.length≤2)(HI:BU zT g=true)
 (ia:∀i r,rows[i]?=some r→∀aD,Sub ro aD→∀p∈aI K on,du zT g (fi++[.agg ⟨cR (cv K r i p)⟩]++ca) aD (.bool (keep (cv K r i p)))):
 Fn (C0 zT) zT 60 ⟨[pV f,.int .u8 on,.func (.func g) ⟨fi⟩ ⟨ca⟩]⟩ ⟨ro,fr⟩ (fun en s'=>∃v Y zs,en= .returned v∧s'=⟨ro,Y++fr⟩∧zs.Perm (cU K on keep rows)∧aw v 8 138 cR zs Y):=by
 rintro main T ⟨rfl,gJ,cB,Post,rfl⟩ cl Ou kr _
 have hT:=sQ zT gJ cB Post
 obtain⟨c0,c1,c2,vc,vh,vr,vb,va,vf,vt,hv,hf,pY,nn,hr,C3,HR,JU,bW⟩:=id hF
 obtain⟨nE,Ex,Ew,mV,rfl,Qp,M4,M3⟩:=bW
 refine atD (fn:=(Tryz.prog.funcs[60]?).getD default) (c:=ZZ 60) (n:=35) (by kernel_rfl) (by kernel_rfl) (by kernel_rfl) (by rfl)<|qd hT f26 fun l1 C2=>?_
 refine vL ar hT<|jn fun b3=>jn fun b4=>jn fun b5=>zD 2<|xV<|qd hT C2 fun l2 qT=>?_
 show TT _ _ (.inRegion kE.o1 (0::[1,2])::_) _ _ _ _ _
 refine aB1 hT (a:=kE.a1) (f:=fun q=> .chan (some q)) (ob:= .chan 0 #[] false 0 0 false) (by kernel_rfl) (by kernel_rfl) (fun e q=>by kernel_rfl) (by decide) rfl fun Ch=>?_
 refine vL ar hT<|jn fun b7=>jd 2 [0]<|xV<|qd hT qT fun l3 Ph=>?_
 show TT _ _ (.inRegion kE.o2 (0::[])::_) _ _ _ _ _
 refine aB1 hT (a:=kE.a2) (f:=fun q=> zP q) (ob:=wgBlock 216 0 0) (by kernel_rfl) (by kernel_rfl) (fun e q=>by kernel_rfl) (by decide) rfl fun Wg=>?_
 refine XB hT<|atH (E:=nu Wg Ch gJ cB) (Q:=Good zT Post) (tm:=false) 0 2 ((b7,.cells ⟨[.chan (some Ch)]⟩ 207 (0,0))::(b5,.cells ⟨[.func (.func g) ⟨fi⟩ ⟨ca⟩]⟩ 139 (0,0))::(b4,.cells ⟨[.int .u8 on]⟩ 111 (0,0))::(b3,.cells ⟨[pV f]⟩ 106 (0,0))::fr) hT (fun L aG hl dI V4=>?_)
 have h7:=hl.kn _ (.head _)
 have h5:=hl.kn _ (.tail _ (.head _))
 have h4:=hl.kn _ (.tail _ (.tail _ (.head _)))
 have h3:=hl.kn _ (.tail _ (.tail _ (.tail _ (.head _))))
 dsimp only at h7 h5 h4 h3
 have hM:∀pend os,Closed zT true (TM (nu Wg Ch gJ cB) L (Good zT Post) pend false os 0):=fun pend os=>e8 (E:=nu Wg Ch gJ cB) false os (fun e=>(by cases e))
 have hC:∀os,Closed zT true (TM (nu Wg Ch gJ cB) L (Good zT Post) 0 true os 0):=fun os=>e8 (E:=nu Wg Ch gJ cB) true os (fun _=>rfl)
 refine qd (hM 0 []) Ph fun l4 Pg=>?_
 refine vL ar (hM 0 [])<|jl (b:=b3) (off:=0) (m:=1) (vs:=[pV f]) 0 ⟨_,_,_,.inl h3,rfl⟩<|zD 2<|jl (b:=f) (off:=0) (m:=13) (vs:=[c0,c1,c2,vc,vh,vr,vb,va,zI K.gone,zI K.new,zI K.af,vf,.slice nE rows.length mV]) 12 ⟨_,_,_,.inl (hl.sub _ _ hf),rfl⟩<|zD 3<|xV<|MJ (hM 0 []) Pg fun l5 Pf=>?_
 refine aqH (hM 0 []) (rest:=[]) rfl fun l6 I9=>?_
 have:=gk I9
 subst this
 have loop:∀m i lq,m+i=rows.length→Sub aG lq→(∀lq rest,Sub aG lq→TT (TM (nu Wg Ch gJ cB) L (Good zT Post) 0 false (iA K on keep rows rows.length) 0) (fr0 60 .normal) (l5.map .code++[]) (cl::Ou) 35 [] lq (some ⟨.fin .normal,[(7,pV b7),(8,pV Wg)]++rest,[],⟨[],[]⟩⟩))→
  ∀rest,TT (TM (nu Wg Ch gJ cB) L (Good zT Post) 0 false (iA K on keep rows i) 0) (fr0 60 .normal) ([kE.lb].map .code++(.inLoop kE.lb::(.inBlock 0::(l5.map .code++[])))) (cl::Ou) 35 [] lq (some ⟨.fin .normal,[(3,pV b3),(4,pV b4),(5,pV b5),(7,pV b7),(8,pV Wg),(17,zI (rows.length:Int)),(18,zI (i:Int))]++rest,[],⟨[],[]⟩⟩):=by
  intro m
  induction m with
  |zero=>
   intro i lq hi hs qu rest
   refine qd (hM 0 _) aIg fun m1 hm1=>?_
   refine vL ar (hM 0 _)<|zD 2<|xV<|XE (hM 0 _) (t:=false) (q:=decide ((i:Int) <(rows.length:Int))) hm1 (by simp;omega) fun m2 Fv=>?_
   refine aqJ (hM 0 _) (k':=l5.map .code++[]) (by rw[qF];simp[exitTo]) ?_
   have:i=rows.length:=by omega
   subst this
   exact tSt (hM 0 _) [(7,pV b7),(8,pV Wg)] [] [] fun rest=>qu lq rest hs
  |succ m ih=>
   intro i lq hi hs qu rest
   obtain⟨r,CU⟩:∃r,rows[i]?=some r:=⟨_,List.getElem?_eq_getElem (by omega)⟩
   refine qd (hM 0 _) aIg fun m1 hm1=>?_
   refine vL ar (hM 0 _)<|zD 2<|xV<|XE (hM 0 _) (t:=true) (q:=decide ((i:Int) <(rows.length:Int))) hm1 (by simp;omega) fun m2 Fv=>?_
   refine aqF (hM 0 _)<|MJ (hM 0 _) Fv fun m3 hm3=>?_
   refine qd (hM 0 _) aUL fun m4 hm4=>?_
   refine vL ar (hM 0 _)<|zD 1<|jn fun b9=>jd 2 [0]<|xV<|qd (hM 0 _) hm4 fun m5 hm5=>?_
   show TT _ _ (.inRegion kE.o6 [0]::_) _ _ _ _ _
   refine aMO (E:=nu Wg Ch gJ cB) (a:=kE.a6) (f:=113) (x:= .tmp 8) (ats:=akO kE.a6) ?_ (by kernel_rfl) (by kernel_rfl) (by kernel_rfl) (ld (by kernel_rfl)) (by decide) rfl (by show _ <2;rw[yA];omega) (by show Iv zT 216 _ _=_;rw[yA];exact(avU i (by omega) Wg).choose_spec) xo
   refine qd (hM 1 _) hm5 fun m6 hm6=>?_
   have:=gk hm6
   subst this
   show TT _ _ (.inRegion kE.o7 (0::[1])::_) _ _ _ _ _
   refine aBY (hM 1 _) (a:=eF kE.o7 0) (.func (.func 114) ⟨[]⟩ ⟨[pV Wg,pV b3,pV b4,pV b9,pV b5,pV b7]⟩) (by kernel_rfl) (by kernel_rfl) (by decide) rfl<|tGo (E:=nu Wg Ch gJ cB) (mB K on keep r i) (a:=kE.a7) (f:=114) (y:= .tmp 22) (ca:=[pV Wg,pV b3,pV b4,pV b9,pV b5,pV b7]) (ats:=akO kE.a7) [(b9,.cells ⟨[zI (i:Int)]⟩ 3 (0,0))] (by kernel_rfl) (by kernel_rfl) (by kernel_rfl) (by decide) rfl (fun yN BR Zm=>⟨?_,?_⟩)
   ·have xE:=Sub.trans hs BR
    have h03:=Sub.trans hl.sub xE
    exact aEr hV (hF.up h03) CU HI (fun aD mT=>ia i r CU aD (Sub.trans h03 mT)) (xE _ _ h3) (xE _ _ h4) (Zm _ (.head _)) (xE _ _ h5) (xE _ _ h7)
   rw[←PB CU]
   refine XB (hM 0 _) (aqK (hM 0 _) ?_)
   refine qd (hM 0 _) hm3 fun m7 hm7=>?_
   have:=gk hm7
   subst this
   refine vL ar (hM 0 _)<|ja ((i:Int)+1) (by omega)<|zD 2<|xV<|aeu (hM 0 _)<|tSt (hM 0 _) [(3,pV b3),(4,pV b4),(5,pV b5),(7,pV b7),(8,pV Wg),(17,zI (rows.length:Int)),(18,zI ((i+1:Nat):Int))] [] [] fun rest=>ih (i+1) yN (by omega) (Sub.trans hs BR) qu rest
 refine tSt (hM 0 _) [(3,pV b3),(4,pV b4),(5,pV b5),(7,pV b7),(8,pV Wg),(17,zI (rows.length:Int)),(18,zI (((0:Nat)):Int))] [] [] fun rest=>loop rows.length 0 aG (by omega) (Sub.refl _) (fun lq rest oO=>?_) rest
 refine qd (hM 0 _) Pf fun l7 EP=>?_
 show TT _ _ (.inRegion kE.o9 (0::[1])::_) _ _ _ _ _
 refine aBY (hM 0 _) (a:=eF kE.o9 0) (.func (.func 116) ⟨[]⟩ ⟨[pV Wg,pV b7]⟩) (by kernel_rfl) (by kernel_rfl) (by decide) rfl<|atL (E:=nu Wg Ch gJ cB) (a:=kE.a9) (f:=116) (y:= .tmp 24) (ca:=[pV Wg,pV b7]) (ats:=akO kE.a9) [] (by kernel_rfl) (by kernel_rfl) (by kernel_rfl) (by decide) rfl (fun yN BR _=>?_)
 have xE:=Sub.trans oO BR
 refine⟨amz (E:=nu Wg Ch gJ cB) (x:=kE.cl) aEA (an4 Wg).choose_spec xo (q:=b7) (t:=207) (fz:=(0,0)) (a:=eF kE.cl.q1 0) (y:= .tmp 1) (U:=207) (xE _ _ h7) (by kernel_rfl) (by kernel_rfl) (by kernel_rfl) (by kernel_rfl) (by kernel_rfl) (by kernel_rfl),?_⟩
 refine XB (hC _)<|qd (hC _) EP fun l8 Zj=>?_
 refine vL ar (hC _)<|zD 2<|xV<|qd (hC _) Zj fun l9 hl9=>?_
 refine vL ar (hC _)<|jl (b:=b7) (off:=0) (m:=1) (vs:=[.chan (some Ch)]) 0 ⟨_,_,_,.inl (xE _ _ h7),rfl⟩<|zD 1<|xV<|MJ (hC _) hl9 fun l10 axc=>?_
 refine aqH (hC _) (rest:=[]) rfl fun l11 axb=>?_
 have:=gk axb
 subst this
 have hlen:=oM hV on keep hR
 have recv:∀m (os:List (List aj)) (v:Value) (L1:Cells) (zs:List aj),os.length=m→aw v 8 138 cR zs L1→(zs++os.flatten).Perm (cU K on keep rows)→∀rest,
  TT (TM (nu Wg Ch gJ cB) L (Good zT Post) 0 true os 0) (fr0 60 .normal) ([kE.rb].map .code++(.inLoop kE.rb::(.inBlock 2::(l10.map .code++[])))) (cl::Ou) 35 [] yN (some ⟨.fin .normal,[(10,v),(25,.chan (some Ch))]++rest,[.l L1],⟨[],[]⟩⟩):=by
  intro m
  induction m with
  |zero=>
   intro os v L1 zs tJ ho hp rest
   have tJ:=List.eq_nil_of_length_eq_zero tJ
   subst tJ
   refine qd (hC _) aIf fun m1 hm1=>?_
   show TT _ _ (.inRegion kE.Cp (0::[1])::_) _ _ _ _ _
   refine aqG (E:=nu Wg Ch gJ cB) (a:=kE.Tn) (rc:= .tmp 25) (z:= zS) hl xE V4 (by kernel_rfl) (by kernel_rfl) (fun ρ=>by kernel_rfl) (by decide) rfl (fun a' oo b' v' Y he _=>by simp at he) fun _=>?_
   refine vL ar hT<|zD 2<|xV<|XE hT (t:=false) (q:=false) hm1 rfl fun m2 Fv=>?_
   refine aqJ hT (k':=l10.map .code++[]) (by rw[qF];simp[exitTo]) ?_
   refine qd hT axc fun m3 hm3=>?_
   refine vL ar hT<|zD 1 ?_
   have hp':zs.Perm (cU K on keep rows):=by simpa using hp
   refine jc (vs:=[v,.func (.func 119) ⟨[]⟩ ⟨[]⟩]) [1] (Qj ho (by rw[hp'.length_eq];omega) ((acY hR).perm hp')) ?_
   rintro _ Y ⟨ys,hys,hoY⟩
   refine zD 1<|xV<|qd hT hm3 fun m4 hm4=>?_
   refine vL ar hT<|zD 3<|xV<|aqI hT hm4 fun m5 hm5=>?_
   refine aMK ar hT (fn:=(Tryz.prog.funcs[60]?).getD default) v [] [0,1] (Y++((b7,.cells ⟨[.chan (some Ch)]⟩ 207 (0,0))::(b5,.cells ⟨[.func (.func g) ⟨fi⟩ ⟨ca⟩]⟩ 139 (0,0))::(b4,.cells ⟨[.int .u8 on]⟩ 111 (0,0))::(b3,.cells ⟨[pV f]⟩ 106 (0,0))::fr)) (by kernel_rfl)<|hT.mono _ ⟨ro,Y++fr⟩ _ (dL (J:=[(b7,.cells ⟨[.chan (some Ch)]⟩ 207 (0,0)),(b5,.cells ⟨[.func (.func g) ⟨fi⟩ ⟨ca⟩]⟩ 139 (0,0)),(b4,.cells ⟨[.int .u8 on]⟩ 111 (0,0)),(b3,.cells ⟨[pV f]⟩ 106 (0,0))]) ?_ (Sub.refl _)) (kr v _ ⟨v,Y,ys,rfl,rfl,hys.trans hp',hoY⟩)
   rw[List.append_assoc]
   exact .append_left _ (List.perm_append_comm (l₁:=[_,_,_,_]))
  |succ m ih=>
   intro os v L1 zs tJ ho hp rest
   refine qd (hC _) aIf fun m1 hm1=>?_
   show TT _ _ (.inRegion kE.Cp (0::[1])::_) _ _ _ _ _
   refine aqG (E:=nu Wg Ch gJ cB) (a:=kE.Tn) (rc:= .tmp 25) (z:= zS) hl xE V4 (by kernel_rfl) (by kernel_rfl) (fun ρ=>by kernel_rfl) (by decide) rfl (fun a' oo b' v' Y he oD=>?_) fun he=>by simp[he] at tJ
   subst he
   have oD:aw v' 8 138 cR oo Y:=oD
   refine vL ar (hC _)<|zD 2<|xV<|XE (hC _) (t:=true) (q:=true) hm1 rfl fun m2 Fv=>?_
   refine aqF (hC _)<|MJ (hC _) Fv fun m3 hm3=>?_
   have:=gk hm3
   subst this
   refine qd (hC _) aUK fun m4 hm4=>?_
   refine vL ar (hC _)<|zD 3<|xV<|qd (hC _) hm4 fun m5 hm5=>?_
   have:=gk hm5
   subst this
   refine vL ar (hC _)<|zD 2 ?_
   have TH:((zs++oo)++(a'++b').flatten).Perm (cU K on keep rows):=(ajL a' oo b' zs).trans hp
   have hlz:zs.length+oo.length≤1250:=by
    have:=TH.length_eq
    simp only[List.length_append] at this
    omega
   refine iK (sz:=8) (ps:=zs) (qs:=oo) (enc:=cR) (w:=v') [1] [0] Y ho (fun s _ hZ=>oD.sl hZ) (fun p _=>ai rfl) (by omega) fun v23 L23 y9=>zD 2<|xV<|aqK (hC _) (aeu (hC _) ?_)
   exact tSt (hC _) [(10,v23),(25,.chan (some Ch))] [.l L23] [0] fun rest=>ih (a'++b') v23 L23 (zs++oo) (by simp at tJ ⊢;omega) y9 TH rest
 refine tGe<|tSt (hC _) [(10,zS),(25,.chan (some Ch))] [.l []] [0] fun rest=>recv rows.length (iA K on keep rows rows.length) (zS) [] [] (yA _ _ _ _ _) (aw.nil _ _ _) (by simp[cU]) rest
theorem agZ{rows:List bD}{on:Int}{keep:aj→Bool}(hV:ee K)(hF:nY ro f K rows)(hR:rows.length≤2)(HI:BU zT g=true)
 (ia:∀i r,rows[i]?=some r→∀aD,Sub ro aD→∀p∈aI K on,du zT g (fi++[.agg ⟨cR (cv K r i p)⟩]++ca) aD (.bool (keep (cv K r i p)))):
 Ae zT 60 [pV f,.int .u8 on,.func (.func g) ⟨fi⟩ ⟨ca⟩] ro [] (fun v Y=>∃zs,zs.Perm (cU K on keep rows)∧aw v 8 138 cR zs Y):=
 fun fr=>Fn.mono (aEz (fr:=fr) hV hF hR HI ia) fun en s' ⟨v,Y,zs,h1,h2,h3,h4⟩=>⟨v,Y,h1,by rw[h2];exact St.le_refl _,zs,h3,h4⟩
theorem YK{rows:List bD}{on:Int}(hV:ee K)(hF:nY ro f K rows)(hR:rows.length≤2):
 Ae zT 45 [pV f,.int .u8 on] ro [] (fun v Y=>∃zs,zs.Perm (cU K on (cz K.gone K.new K.af) rows)∧aw v 8 138 cR zs Y):=by
 refine CJ ar [] [] aW fun fr=>zD 10<|Pa (vs:=[pV f,.int .u8 on,.func (.func 98) ⟨[pV f]⟩ ⟨[]⟩]) [] (fun _ _ h=>h) (agZ (keep:=cz K.gone K.new K.af) hV hF hR (by kernel_rfl) fun i r hr aD hs p hp=>?_) ?_
 ·obtain⟨c0,c1,c2,vc,vh,vr,vb,va,vf,vt,hv,hf,_⟩:=hF.up hs
  exact agV hf
 rintro v Y ⟨zs,hz,ho⟩
 refine zD 3<|O9 qC v [0,1] Y (Sub.refl _) ⟨zs,hz,ho⟩
theorem azb{x:Int}(h:0≤x∧x≤4):iI x 0 4=true:=by simp only[iI,Bool.and_eq_true,decide_eq_true_eq];omega
theorem af5:rK (bs [97]):=⟨by decide,.inl (by decide)⟩
def ak0(ro:Nat→Option Obj)(v:Value)(W:List (List Int)):Prop:=∃ws,bB ro v 1 fw ws∧de (fun w l=>bB ro w 1 cy l) ws W
def qM(ro:Nat→Option Obj)(l:List Value)(W:List (List Int)):Prop:=∀aG,Sub ro aG→dG zT 55 [.agg ⟨l.take 3⟩] aG [] (fun r Y=>∃a n c,r= .tuple ⟨[.slice a n c,zI 0]⟩∧n=W.length∧∀lq,Knows lq Y→ak0 lq (.slice a n c) W)
theorem avV(hK:fx ro l K)(hO:jz K)(hV:ee K)(hW:1≤W.length∧W.length≤4)(h76:qM ro l W):dG zT 88 [.agg ⟨l⟩] ro [] (fun r Y=>∃a n c,r= .slice a n c∧n=W.length∧∀lq,Knows lq Y→ak0 lq r W):=by
 have Zw:=hK
 obtain⟨vS,vT,vc,vh,vr,vb,va,vf,fa,fc,hv,rfl,hS,hT,pY,nn,hr,hb,ha,hf⟩:=hK
 obtain⟨ig,hs,fg⟩:=id hS
 obtain⟨iO,ht,eX⟩:=id hT
 obtain⟨hc,hh,D5⟩:=id pY
 have vu:=hr
 have ve:=hb
 have ha0:=ha
 have hf0:=hf
 obtain⟨lv,Qs,Qq,kH,rfl,Qr,Jv,Ju⟩:=hs
 obtain⟨eR,AK,AI,dS,rfl,AJ,sG,sE⟩:=ht
 obtain⟨eo,AO,AN,dX,rfl,DK,yP,yO⟩:=hc
 obtain⟨dJ,u5,u4,dv,rfl,xq,qX,qW⟩:=hh
 obtain⟨kZ,I1,I0,kY,rfl,O4,GD,GC⟩:=hr
 obtain⟨mw,Qv,Qt,mo,rfl,Qu,O6,O5⟩:=hb
 obtain⟨lO,M9,M7,lH,rfl,M8,KH,KG⟩:=ha
 obtain⟨gP,vY,vX,fP,rfl,AM,qQ,qP⟩:=hf
 have C2:=hO.rules
 have qT:=hO.before.1
 have Ph:=hO.after.1
 have Pg:=hO.facts.1
 have Pf:=hO.ways.1
 have I9:=fg.len
 have EP:=eX.len
 have Zj:=hO.oT.two
 have hl9:=hO.c8.nh
 have O3:∀(i:Nat) (p:da),([]:List da)[i]?=some p→cD ⟨ro,[]⟩ 0 (0+i*6) 6 (mN p):=fun _ _ h=>oB h
 have hgl:=hO.ug
 refine zE<|zD 2<|jn fun b1=>jd 6 [0]<|jc (vs:=[.agg ⟨[.slice lv ig.length kH,.slice eR iO.length dS,.slice fa 0 fc]⟩]) [] (h76 _ (Sub.refl _)) ?_
 rintro _ TU ⟨a10,n10,c10,rfl,aRv,ahm⟩
 refine zD 9<|jp (vs:=[zI 0]) [] [] (fun aG hs hZ=>A4)<|zD 10<|zJ 15 ((n10:Int)=0) (fun h1=>?_) fun h1=>?_
 ·
  exfalso;omega
 refine zD 8<|zJ 20 ((n10:Int)>4) (fun h2=>?_) fun h2=>?_
 ·
  exfalso;omega
 refine jd 6 [1]<|jp (vs:=[.agg ⟨[.slice eo K.cs.length dX,.slice dJ hv.length dv]⟩]) [] [] (fun aG hs hZ=>atN (pY.up hs) nn hV.c8)<|jp (vs:=[zI 0]) [] [] (fun aG hs hZ=>A4)<|jd 5 [1]<|jp (vs:=[.slice kZ K.rules.length kY,.string (bs [97]),.string (bs [97])]) [] [] (fun aG hs hZ=>Q5 (vu.up hs) hV.rules.2 hV.rules.1 af5 af5)<|zD 8<|jp (vs:=[zI 0]) [] [] (fun aG hs hZ=>A4)<|jd 6 [1,1]<|jp (vs:=[.agg ⟨[.slice lv ig.length kH,.slice eR iO.length dS,.slice fa 0 fc,.slice eo K.cs.length dX,.slice dJ hv.length dv,.slice kZ K.rules.length kY,.slice mw K.before.length mo,.slice lO K.after.length lH,zI K.gone,zI K.new,zI K.af,.slice gP K.facts.length fP]⟩,.slice mw K.before.length mo,.bool true]) [] [] (fun aG hs hZ=>agP (Zw.up hs) hO (ve.up hs))<|jp (vs:=[zI 0]) [] [] (fun aG hs hZ=>A4)<|jd 6 [1,1]<|jp (vs:=[.agg ⟨[.slice lv ig.length kH,.slice eR iO.length dS,.slice fa 0 fc,.slice eo K.cs.length dX,.slice dJ hv.length dv,.slice kZ K.rules.length kY,.slice mw K.before.length mo,.slice lO K.after.length lH,zI K.gone,zI K.new,zI K.af,.slice gP K.facts.length fP]⟩,.slice lO K.after.length lH,.bool false]) [] [] (fun aG hs hZ=>agQ (Zw.up hs) hO (ha0.up hs))<|jp (vs:=[zI 0]) [] [] (fun aG hs hZ=>A4)<|jd 6 [1]<|jp (vs:=[zI K.gone,zI 0,zI 4]) [] [] (fun aG hs hZ=>e9)<|zD 2<|jj 5 [(1,zP b1),(2,zS),(3,.slice a10 n10 c10),(56,.bool ((!(iI K.gone 0 4))||(!(iI K.new 0 4))))] (fun gI=>?_) (fun hj=>?_)
 rotate_left
 refine js 51 (!(iI K.gone 0 4)) (fun h3=>?_) (fun h3=>?_)
 ·
  have wD:=h3
  try simp only[zB] at wD
  refine zD 5<|jw 56 (.bool ((!(iI K.gone 0 4))||(!(iI K.new 0 4)))) (w:= .bool true) (by rw[h3]<;>rfl) ?_
  exact zK hj
 ·
  have wD:=h3
  try simp only[zB] at wD
  refine jd 2 [1]<|jp (vs:=[zI K.new,zI 0,zI 4]) [] [] (fun aG hs hZ=>e9)<|zD 2<|jw 56 (.bool ((!(iI K.gone 0 4))||(!(iI K.new 0 4)))) (w:= .bool (!(iI K.new 0 4))) (by rw[h3]<;>rfl) ?_
  exact zK hj
 refine zD 1<|jj 5 [(1,zP b1),(2,zS),(3,.slice a10 n10 c10),(62,.bool (((!(iI K.gone 0 4))||(!(iI K.new 0 4)))||(!(iI K.af 0 4))))] (fun gI=>?_) (fun hj=>?_)
 rotate_left
 refine js 57 ((!(iI K.gone 0 4))||(!(iI K.new 0 4))) (fun h4=>?_) (fun h4=>?_)
 ·
  have uW:=h4
  try simp only[zB] at uW
  refine zD 5<|jw 62 (.bool (((!(iI K.gone 0 4))||(!(iI K.new 0 4)))||(!(iI K.af 0 4)))) (w:= .bool true) (by rw[h4]<;>rfl) ?_
  exact zK hj
 ·
  have uW:=h4
  try simp only[zB] at uW
  refine jd 2 [1]<|jp (vs:=[zI K.af,zI 0,zI 4]) [] [] (fun aG hs hZ=>e9)<|zD 2<|jw 62 (.bool (((!(iI K.gone 0 4))||(!(iI K.new 0 4)))||(!(iI K.af 0 4)))) (w:= .bool (!(iI K.af 0 4))) (by rw[h4]<;>rfl) ?_
  exact zK hj
 refine zD 1<|js 62 (((!(iI K.gone 0 4))||(!(iI K.new 0 4)))||(!(iI K.af 0 4))) (fun h5=>?_) (fun h5=>?_)
 ·
  try simp only[zB] at h5
  exfalso;simp[azb hgl.1,azb hgl.2.1,azb hgl.2.2] at h5
 try simp only[zB] at h5
 refine jd 10 [1]<|zJ 67 ((K.facts.length:Int)>4) (fun h6=>?_) fun h6=>?_
 ·
  exfalso;omega
 refine jd 11 [1]<|dw [1,1,1,1,1,1,1,1,1,1,1,0,1,0,0] [] (fun(zz:Nat)=>[(1,zP b1),(2,zS),(3,.slice a10 n10 c10),(70,.slice gP K.facts.length fP),(71,zI (K.facts.length:Int)),(72,zI (zz:Int))]) (fun zz=>[.b b1 (.cells ⟨[.slice lv ig.length kH,.slice eR iO.length dS,.slice fa 0 fc,.slice eo K.cs.length dX,.slice dJ hv.length dv,.slice kZ K.rules.length kY,.slice mw K.before.length mo,.slice lO K.after.length lH,zI K.gone,zI K.new,zI K.af,.slice gP K.facts.length fP]⟩ 38 (0,0)),.l TU]) (fun zz=>zz≤K.facts.length) (fun zz=>K.facts.length-zz) 0 (by omega) [1,0] ?_
 rintro k hI K1 bG rest
 refine zD 5<|zJ 73 ((k:Int) <(K.facts.length:Int)) (fun h7=>?_) fun h7=>?_
 ·
  refine zD 7 ?_
  obtain⟨x75,Vk⟩:=zG K.facts k
  refine gX fP 3 qQ Vk<|jl 0 (qP _ _ Vk)<|jn fun b6=>jd 8 [0,1,1]<|jcH (hi:=(k:Int)) (show bB _ _ _ _ _ from ⟨gP,vY,vX,fP,rfl,AM,qQ,qP⟩) (by omega) (fun v81 aQM=>?_)
  obtain⟨aqS,aCH,aCD,aqR,rfl,aCF,aCG,aCE⟩:=aQM
  refine jd 1 [0]<|jp (vs:=[.agg ⟨[.slice lv ig.length kH,.slice eR iO.length dS,.slice fa 0 fc,.slice eo K.cs.length dX,.slice dJ hv.length dv,.slice kZ K.rules.length kY,.slice mw K.before.length mo,.slice lO K.after.length lH,zI K.gone,zI K.new,zI K.af,.slice gP K.facts.length fP]⟩,.slice aqS ((((K.facts).take (k:Int).toNat)).length) aqR,.agg ⟨[zI x75.a,zI x75.b,.bool x75.same]⟩]) [] [] (fun aG hs hZ=>aEy (Zw.up hs) hO ((show bB _ _ _ _ _ from ⟨aqS,aCH,aCD,aqR,rfl,aCF,aCG,aCE⟩).up hs) (by simp only[List.length_take,List.length_drop];omega) (hO.facts.2 _ (zL Vk)) (ajS hO.apart Vk)) ?_
  refine jp (vs:=[zI 0]) [] [] (fun aG hs hZ=>A4)<|zD 2<|ja ((k:Int)+1) (by omega)<|zD 2<|bF bG (k+1) (by omega) (by omega) [1,2] (Sub.refl _)
 refine zD 8<|zR (.slice a10 n10 c10) [] [1] TU ⟨_,_,_,rfl,aRv,ahm⟩
def gN(ro:Nat→Option Obj)(l:List Value)(K:aC)(rows:List bD):Prop:=∀aG,Sub ro aG→dG zT 40 [.agg ⟨l⟩] aG [] (fun r Y=>∃f,r= .tuple ⟨[pV f,zI 0]⟩∧∀lq,Sub aG lq→Knows lq Y→nY lq f K rows)
def aP(K:aC):Int:=IntKind.u8.wrap (dz .u8 1 (K.facts.length:Int)-1)
theorem Hg{rows:List bD}(hV:ee K)(hF:nY ro f K rows):du zT 46 [pV f] ro (.int .u8 (aP K)):=by
 obtain⟨c0,c1,c2,vc,vh,vr,vb,va,vf,vt,hv,hf,pY,nn,hr,C3,HR,JU,bW⟩:=hF
 exact aPD JU hf (by have:=hV.facts.1;omega)
theorem agK{rows:List bD}(hK:fx ro l K)(hV:ee K)(hR:rows.length≤2)(hB:gN ro l K rows):
 Ae zT 10 [.agg ⟨l⟩] ro [] (fun r Y=>r= .tuple ⟨[zI ((cU K (aP K) (cz K.gone K.new K.af) rows).length:Int),zI 0]⟩∧Y=[]):=by
 obtain⟨v0,v1,v3,v4,v5,v6,v7,vb,fa,fc,hv,rfl,_⟩:=hK
 refine CJ ar [] [] aW fun fr=>zD 2<|jn fun b1=>jd 6 [0]<|jc (vs:=[Value.agg ⟨[v0,v1,.slice fa 0 fc,v3,v4,v5,v6,v7,zI K.gone,zI K.new,zI K.af,vb]⟩]) [] (hB _ (Sub.refl _)) ?_
 rintro _ Y ⟨f,rfl,hF⟩
 refine jf [0] Y (fun aG hs hk=>?_)
 have Ao:=hF aG hs hk
 refine zD 18<|jp (vs:=[pV f]) [] [] (fun yN BR hZ=>Hg hV (Ao.up BR))<|Pa (vs:=[pV f,.int .u8 (aP K)]) [] (fun _ _ h=>h) (YK hV Ao hR) ?_
 rintro v Y2 ⟨zs,hz,ho⟩
 obtain⟨a,c,rfl⟩:=ho.form
 refine zD 5<|O9 qC.a (.tuple ⟨[zI (zs.length:Int),zI 0]⟩) [2] [] hs ⟨by rw[hz.length_eq],rfl⟩
theorem fN{on:Int}{keep:aj→Bool}{rows:List bD}{x:aj}(h:x∈cU K on keep rows):∃i r p,rows[i]?=some r∧p∈aI K on∧x=cv K r i p∧keep x=true:=by
 obtain⟨l,hl,hx⟩:=List.mem_flatten.1 h
 obtain⟨i,hi,rfl⟩:=List.mem_map.1 hl
 have hi:=List.mem_range.1 hi
 obtain⟨h1,h2⟩:=List.mem_filter.1 hx
 obtain⟨p,hp,rfl⟩:=List.mem_map.1 h1
 rw[List.getElem?_eq_getElem hi] at h2 ⊢
 exact⟨i,rows[i],p,List.getElem?_eq_getElem hi,hp,rfl,h2⟩
theorem Ys(r:bD)(p:Nat→Int):∀k,0≤Cs r p k∧Cs r p k≤k
 |0=>by simp[Cs]
 |k+1=>by
  have:=Ys r p k
  simp only[Cs]
  cases decide (p k>0)&& !r.c k (p k-1).toNat with
  |true=>simp only[cond_true];omega
  |false=>simp only[cond_false];omega
theorem nG(hV:ee K)(r:bD)(i:Nat)(p:Nat→Int):(-4≤(cv K r i p).gone∧(cv K r i p).gone≤4)∧(-4≤(cv K r i p).new∧(cv K r i p).new≤4)∧(0≤(cv K r i p).af∧(cv K r i p).af≤4):=by
 have h1:=X9 p
 have h2:=Ys r p 4
 have h3:=hV.before.1
 have h4:=hV.after.1
 simp only[cv]
 omega
def Gi(x:aj):Int:=x.gone+x.new+x.af
theorem avQ{rows:List bD}(hK:fx ro l K)(hV:ee K)(hR:rows.length≤2)(hB:gN ro l K rows):Ae zT 16 [.agg ⟨l⟩] ro [] (fun r Y=>∃zs,zs.Perm (cU K (aP K) (fun _=>true) rows)∧Y=[]∧((zs=[]∧r= .tuple ⟨[zI 0,zI 9]⟩)∨(zs≠[]∧r= .tuple ⟨[zI (u6 (zs.map Gi)),zI 0]⟩))):=by
 obtain⟨v0,v1,v3,v4,v5,v6,v7,vb,fa,fc,hv,rfl,_⟩:=hK
 refine CJ ar [] [] aW fun fr=>zD 2<|jn fun b1=>jd 6 [0]<|jc (vs:=[.agg ⟨[v0,v1,.slice fa 0 fc,v3,v4,v5,v6,v7,zI K.gone,zI K.new,zI K.af,vb]⟩]) [] (hB _ (Sub.refl _)) ?_
 rintro _ Y12 ⟨f12,rfl,ays⟩
 refine zD 5<|jf [0] Y12 (fun yN bZ iL=>?_)
 have Ao:=ays _ bZ iL
 refine zD 13<|jp (vs:=[zP f12]) [] [] (fun aG hs hZ=>Hg hV (Ao.up hs))<|Pa (vs:=[zP f12,.int .u8 (aP K),.func (.func 61) ⟨[]⟩ ⟨[]⟩]) [] (fun _ _ h=>h) (agZ (keep:=fun _=>true) hV Ao hR (by kernel_rfl) (fun i r hr aD hs p hp=>an1)) ?_
 rintro v21 Y21 ⟨zs,aoh,aFH⟩
 have RL:∀x∈zs,(-4≤x.gone∧x.gone≤4)∧(-4≤x.new∧x.new≤4)∧(0≤x.af∧x.af≤4):=fun x hx=>by obtain⟨i,r,p,_,_,rfl,_⟩:=fN (aoh.mem_iff.1 hx);exact nG hV r i p
 have hzl:zs.length≤1250:=by rw[aoh.length_eq];exact oM hV _ _ hR
 refine zD 6<|BQ aFH<|zD 1<|jf [0] Y21 (fun ro6 kA Zl=>?_)
 have hZ1:=aFH.jF Zl
 obtain⟨rY,Nc,Na,qi,rfl,Nb,GG,GF⟩:=hZ1
 refine zD 1<|zJ 24 ((zs.length:Int)=0) (fun h7=>?_) fun h7=>?_
 ·
  refine zD 7<|O9 qC.a.a (.tuple ⟨[zI 0,zI 9]⟩) [1] [] (bZ.trans kA) ⟨zs,aoh,rfl,.inl ⟨List.eq_nil_of_length_eq_zero (by omega),rfl⟩⟩
 refine zD 14<|nI<|dw [1,1,1,1,1,1,0,1,0,0] [] (fun(zz:Nat×Value×Cells)=>[(2,zI 0),(3,zI 0),(7,zz.2.1),(25,.slice rY zs.length qi),(26,zI (zs.length:Int)),(27,zI (zz.1:Int))]) (fun zz=>[.l zz.2.2,.b b1 (.cells ⟨[v0,v1,.slice fa 0 fc,v3,v4,v5,v6,v7,zI K.gone,zI K.new,zI K.af,vb]⟩ 38 (0,0)),.l fr]) (fun zz=>zz.1≤zs.length∧aw zz.2.1 1 3 cy ((zs.take zz.1).map Gi) zz.2.2) (fun zz=>zs.length-zz.1) (⟨0,zS,[]⟩) ⟨by dsimp only;omega,aw.nil _ _ _⟩ [0,1,2] ?_
 rintro⟨k,vS,LS⟩ hI K1 bG rest
 dsimp only at hI
 refine zD 5<|zJ 28 ((k:Int) <(zs.length:Int)) (fun h8=>?_) fun h8=>?_
 ·
  refine zD 6 ?_
  obtain⟨En,A5⟩:=zG zs k
  refine gX qi 8 GG A5<|jl 0 (GF _ _ A5)<|jn fun b9=>jd 2 [0] ?_
  have hg:=RL _ (zL A5)
  refine jd 6 [0,0]<|ja (En.gone+En.new) (by omega)<|jd 2 [0]<|ja ((En.gone+En.new)+En.af) (by omega)<|jn fun vy=>iK (sz:=1) (ps:=((zs.take k).map Gi)) (qs:=[((En.gone+En.new)+En.af)]) (enc:=cy) (w:= .slice (some ⟨vy,0,none⟩) 1 1) [2] [0] [(vy,.cells ⟨([((En.gone+En.new)+En.af)].map cy).flatten⟩ 3 (0,0))] (hI.2) (fun s _ hZ=>bV [((En.gone+En.new)+En.af)] (hZ _ (.head _)) (by intro p hp;rfl)) (fun p _=>ai rfl) (by simp only[List.length_map,List.length_take,List.length_cons,List.length_nil];omega) (fun v41 L41 Hx=>?_)
  obtain⟨FU,FQ,VM⟩:=Hx.form
  subst VM
  refine zD 3<|ja ((k:Int)+1) (by omega)<|zD 2<|bF bG (⟨k+1,(.slice FU ((((zs.take k).map Gi)++[((En.gone+En.new)+En.af)])).length FQ),L41⟩) ⟨by dsimp only;omega,by rw[iB A5,List.map_append];exact Hx⟩ (by dsimp only;omega) [0,3,4] (Sub.refl _)
 refine zD 5<|jp (vs:=[vS]) [0] LS (fun aG hs hZ=>arl (hI.2.jF hZ) ⟨by simp only[List.length_map,List.length_take];omega,by simp only[List.length_map,List.length_take];omega⟩) ?_
 refine zD 5<|O9 qC.a.a (.tuple ⟨[zI (u6 ((zs.take k).map Gi)),zI 0]⟩) [2] [] (bZ.trans kA) ⟨zs,aoh,rfl,.inr ⟨fun e=>by subst e;simp at*,by rw[show k=zs.length by omega,List.take_length]⟩⟩
def aWg(ro:Nat→Option Obj)(f:Nat)(l:List Value)(rows:List bD):Prop:=∃vt,ro f=some (.cells ⟨l++[vt]⟩ 165 (0,0))∧bB ro vt 16 Bt rows
def Bv(ways:List (List aN))(w:List Int):List (List aN):=List.zipWith (fun l n=>(l.take (n.toNat+1)).drop n.toNat) ways w
theorem apx{ways:List (List aN)}{w:List Int}{l:List aN}(h1:ways[k]?=some l) (h2:w[k]?=some n):(Bv ways w)[k]?=some ((l.take (n.toNat+1)).drop n.toNat):=by
 simp only[Bv,List.getElem?_zipWith,h1,h2]
def kG(K:aC)(qR:List Int→aB→List an)(w:List Int):bD:=⟨fun i j=>match K.before[i]?,K.after[j]? with
 |some x,some y=>decide (bQ (pq y.st y.no 0) (qR w x) 0≥0)
 |_,_=>false⟩
def E5(F:Nat→Nat→Bool)(i j:Nat)(r:bD):Prop:=∀x y,r.c x y=((decide (x <i)||(decide (x=i)&&decide (y <j)))&&F x y)
theorem E5.set{j:Nat}{r:bD}(h:E5 F i j r):E5 F i (j+1) (iU r i j (F i j)):=fun x y=>by
 simp only[iU]
 split
 ·rename_i hx;obtain⟨rfl,rfl⟩:=hx;simp
 rename_i hx
 rw[h x y]
 congr 2
 by_cases e:x=i
 ·subst e
  have:y≠j:=fun e2=>hx ⟨rfl,e2⟩
  simp only[decide_true,Bool.true_and]
  congr 1
  exact propext (by omega)
 simp[e]
theorem E5.nxt{n:Nat}{r:bD}(hF:∀x y,n≤y→F x y=false)(h:E5 F i n r):E5 F (i+1) 0 r:=fun x y=>by
 rw[h x y]
 by_cases hy:y <n
 ·congr 1
  simp only[hy,decide_true,Bool.and_true,Nat.not_lt_zero,decide_false,Bool.and_false,Bool.or_false]
  rw[Bool.eq_iff_iff];simp;omega
 rw[hF x y (by omega)];simp
theorem E5.fin{n:Nat}{r:bD}(hF:∀x y,n≤x→F x y=false)(h:E5 F n 0 r):r=⟨F⟩:=by
 rcases r with ⟨c⟩
 congr 1
 funext x y
 have:=h x y
 dsimp only at this
 rw[this]
 by_cases hx:x <n
 ·simp[hx]
 rw[hF x y (by omega)];simp
theorem auc{qR:List Int→aB→List an}{w:List Int}(x y:Nat)(h:K.before.length≤x):(kG K qR w).c x y=false:=by simp only[kG,List.getElem?_eq_none h]
theorem aub{qR:List Int→aB→List an}{w:List Int}(x y:Nat)(h:K.after.length≤y):(kG K qR w).c x y=false:=by
 simp only[kG,List.getElem?_eq_none h]
 split
 ·rename_i h1;cases h1
 rfl
structure Xb(K:aC)(W:List (List Int)):Prop where
 n:1≤W.length∧W.length≤2
 len:∀w∈W,w.length=K.ways.length
 rng:∀w∈W,∀(k:Nat) (l:List aN) (n:Int),K.ways[k]?=some l→w[k]?=some n→0≤n∧n <l.length
def xQ(ro:Nat→Option Obj)(l:List Value)(K:aC)(W:List (List Int))(qR:List Int→aB→List an):Prop:=∀w∈W,∀x∈K.before,(qR w x).length≤1000∧∀aG,Sub ro aG→∀v vS vT vU r,l=vS::vT::vU::r→nU aG v (Bv K.ways w)→
 dG zT 89 [.agg ⟨[vS,v,vU]⟩,.agg ⟨[zI x.st,zI x.no,zI 0]⟩] aG [] (fun r Y=>∃a n c,r= .tuple ⟨[.slice a n c,zI 0]⟩∧∀lq,Knows lq Y→bB lq (.slice a n c) 3 cL (qR w x))
theorem avW{qR:List Int→aB→List an}(hK:fx ro l K)(hO:jz K)(hV:ee K)(hW:Xb K W)(h76:qM ro l W)(h47:xQ ro l K W qR):dG zT 40 [.agg ⟨l⟩] ro [] (fun r Y=>∃f,r= .tuple ⟨[pV f,zI 0]⟩∧∀lq,Sub ro lq→Knows lq Y→nY lq f K (W.map (kG K qR))∧aWg lq f l (W.map (kG K qR))):=by
 have Zw:=hK
 obtain⟨vS,vT,vc,vh,vr,vb,va,vf,fa,fc,hv,rfl,hS,hT,pY,nn,hr,hb,ha,hf⟩:=hK
 obtain⟨ig,hs,fg⟩:=id hS
 obtain⟨iO,ht,eX⟩:=id hT
 obtain⟨hc,hh,D5⟩:=id pY
 have vu:=hr
 have ve:=hb
 have ha0:=ha
 have hf0:=hf
 obtain⟨lv,Qs,Qq,kH,rfl,Qr,Jv,Ju⟩:=hs
 obtain⟨eR,AK,AI,dS,rfl,AJ,sG,sE⟩:=ht
 obtain⟨eo,AO,AN,dX,rfl,DK,yP,yO⟩:=hc
 obtain⟨dJ,u5,u4,dv,rfl,xq,qX,qW⟩:=hh
 obtain⟨kZ,I1,I0,kY,rfl,O4,GD,GC⟩:=hr
 obtain⟨mw,Qv,Qt,mo,rfl,Qu,O6,O5⟩:=hb
 obtain⟨lO,M9,M7,lH,rfl,M8,KH,KG⟩:=ha
 obtain⟨gP,vY,vX,fP,rfl,AM,qQ,qP⟩:=hf
 have C2:=hO.rules
 have qT:=hO.before.1
 have Ph:=hO.after.1
 have Pg:=hO.facts.1
 have Pf:=hO.ways.1
 have I9:=fg.len
 have EP:=eX.len
 have Zj:=hO.oT.two
 have hl9:=hO.c8.nh
 have O3:∀(i:Nat) (p:da),([]:List da)[i]?=some p→cD ⟨ro,[]⟩ 0 (0+i*6) 6 (mN p):=fun _ _ h=>oB h
 have hWn:=hW.n
 refine aPG ar 87 [] [] aW<|zD 2<|jn fun b1=>jn fun b2=>jn fun b3=>zD 4<|jdf (f:=87) (ca:=[zP b2,zP b3])<|jd 5 [2]<|jn fun IM=>jd 6 [2,3]<|jc (vs:=[.agg ⟨[.slice lv ig.length kH,.slice eR iO.length dS,.slice fa 0 fc,.slice eo K.cs.length dX,.slice dJ hv.length dv,.slice kZ K.rules.length kY,.slice mw K.before.length mo,.slice lO K.after.length lH,zI K.gone,zI K.new,zI K.af,.slice gP K.facts.length fP]⟩]) [] (avV Zw hO hV ⟨hW.n.1,by have:=hW.n.2;omega⟩ h76) ?_
 rintro _ Y21 ⟨a21,n21,c21,rfl,bdQ,aop⟩
 refine zD 2<|jf [0] Y21 (fun yN bZ iL=>?_)
 obtain⟨wsW,hWs,arY⟩:=aop _ iL
 obtain⟨qWa,qWb,qWo,qWc,heW,qWk,qWh,qWl⟩:=hWs
 simp only[Value.slice.injEq] at heW
 obtain⟨rfl,rfl,rfl⟩:=heW
 have hlW:=arY.len
 refine zD 2<|nI<|dw [1,1,1,0,1,0,0] [] (fun(zz:Nat×Value×Cells)=>[(1,zP b1),(2,zP b2),(3,zP b3),(21,.slice a21 wsW.length c21),(22,zI (wsW.length:Int)),(23,zI (zz.1:Int))]) (fun zz=>[.l zz.2.2,.b IM (.cells ⟨[.slice lv ig.length kH,.slice eR iO.length dS,.slice fa 0 fc,.slice eo K.cs.length dX,.slice dJ hv.length dv,.slice kZ K.rules.length kY,.slice mw K.before.length mo,.slice lO K.after.length lH,zI K.gone,zI K.new,zI K.af,.slice gP K.facts.length fP,zz.2.1]⟩ 165 (0,0)),.b b1 (.cells ⟨[.slice lv ig.length kH,.slice eR iO.length dS,.slice fa 0 fc,.slice eo K.cs.length dX,.slice dJ hv.length dv,.slice kZ K.rules.length kY,.slice mw K.before.length mo,.slice lO K.after.length lH,zI K.gone,zI K.new,zI K.af,.slice gP K.facts.length fP]⟩ 38 (0,0)),.b b2 (.cells ⟨[zP IM]⟩ 106 (0,0)),.b b3 (.cells ⟨[zI 0]⟩ 42 (0,0))]) (fun zz=>zz.1≤wsW.length∧aw zz.2.1 16 162 Bt ((W.take zz.1).map (kG K qR)) zz.2.2) (fun zz=>wsW.length-zz.1) (⟨0,zS,[]⟩) ⟨by dsimp only;omega,aw.nil _ _ _⟩ [0,1,4,3,2] ?_
 rintro⟨k,vR,LR⟩ hI K1 bG rest
 dsimp only at hI
 refine zD 5<|zJ 24 ((k:Int) <(wsW.length:Int)) (fun h4=>?_) fun h4=>?_
 ·
  refine zD 6 ?_
  obtain⟨xf,ju⟩:=zG wsW k
  refine gX c21 1 qWh ju ?_
  obtain⟨wq,aGc,h26⟩:=arY.get ju
  obtain⟨aOf,bbQ,bbO,aDo,rfl,bbP,aOe,aOd⟩:=h26
  refine jl 0 (qWl _ _ ju)<|zD 3 ?_
  have hwm:=zL aGc
  have hwl:=hW.len _ hwm
  refine jd 8 [2,2]<|jn fun b6=>jd 10 [0]<|nI<|dw [1,1,1,0,1,0,0,1,1,0,0,1,1,0,1,0,0] [K1] (fun(zz:Nat×Value×Cells×(List Value))=>[(1,zP b1),(2,zP b2),(3,zP b3),(6,zP b6),(21,.slice a21 wsW.length c21),(22,zI (wsW.length:Int)),(23,zI (k:Int)),(34,.slice aOf wq.length aDo),(35,zI (wq.length:Int)),(36,zI (zz.1:Int))]) (fun zz=>[.l zz.2.2.1,.b b6 (.cells ⟨[.slice lv ig.length kH,zz.2.1,.slice fa 0 fc]⟩ 29 (0,0)),.l LR,.b IM (.cells ⟨[.slice lv ig.length kH,.slice eR iO.length dS,.slice fa 0 fc,.slice eo K.cs.length dX,.slice dJ hv.length dv,.slice kZ K.rules.length kY,.slice mw K.before.length mo,.slice lO K.after.length lH,zI K.gone,zI K.new,zI K.af,.slice gP K.facts.length fP,vR]⟩ 165 (0,0)),.b b1 (.cells ⟨[.slice lv ig.length kH,.slice eR iO.length dS,.slice fa 0 fc,.slice eo K.cs.length dX,.slice dJ hv.length dv,.slice kZ K.rules.length kY,.slice mw K.before.length mo,.slice lO K.after.length lH,zI K.gone,zI K.new,zI K.af,.slice gP K.facts.length fP]⟩ 38 (0,0)),.b b2 (.cells ⟨[zP IM]⟩ 106 (0,0)),.b b3 (.cells ⟨[zI 0]⟩ 42 (0,0))]) (fun zz=>(zz.1≤wq.length∧zz.2.2.2.length=zz.1)∧aw zz.2.1 1 89 fw zz.2.2.2 zz.2.2.1∧de (fun w l=>bB yN w 7 kS l) zz.2.2.2 ((Bv K.ways wq).take zz.1)) (fun zz=>wq.length-zz.1) (⟨0,zS,[],[]⟩) ⟨⟨by dsimp only;omega,rfl⟩,aw.nil _ _ _,(by simp only[List.take_zero];exact de.nil)⟩ (zN 0 7) ?_
  rintro⟨j,vT,LT,es⟩ hJ K2 jV rest
  dsimp only at hJ
  refine zD 5<|zJ 37 ((j:Int) <(wq.length:Int)) (fun h5=>?_) fun h5=>?_
  ·
   refine zD 7 ?_
   obtain⟨BO,oC⟩:=zG wq j
   refine gX aDo 1 aOe oC<|jl 0 (aOd _ _ oC)<|jd 10 [1,4] ?_
   obtain⟨x47,Vm⟩:=zG iO j
   refine gX dS 1 sG Vm<|zD 1 ?_
   obtain⟨l49,aw6,h49⟩:=eX.get Vm
   obtain hwr:=hW.rng _ hwm _ _ _ aw6 oC
   obtain bdV:=(hO.ways.2 _ (zL aw6)).1.2
   obtain⟨aNX,aNW,aNR,aNV,rfl,aNT,aNU,aNS⟩:=h49
   refine jl 0 ((sE _ _ Vm).ext (ux bZ))<|zD 2<|ja (BO+1) (by omega)<|jcB (lo:=BO) (hi:=(BO+1)) ((show bB _ _ _ _ _ from ⟨aNX,aNW,aNR,aNV,rfl,aNT,aNU,aNS⟩).up bZ) (by omega) (fun v53 wA=>?_)
   obtain⟨KD,aCV,aCR,KC,rfl,aCT,aCU,aCS⟩:=wA
   refine zD 1<|aS 14 fun oP oR nK=>jn fun b55=>eG nK (zN 1 7)<|aS 15 fun qU qV pK=>iK (sz:=1) (ps:=es) (qs:=[(.slice KD (((((l49).take (BO+1).toNat).drop BO.toNat)).length) KC:Value)]) (enc:=fw) (w:= .slice (some ⟨b55,0,none⟩) 1 1) [1] [0] [(b55,.cells ⟨([(.slice KD (((((l49).take (BO+1).toNat).drop BO.toNat)).length) KC:Value)].map fw).flatten⟩ 89 (0,0))] (hJ.2.1) (fun s _ hZ=>bV [(.slice KD (((((l49).take (BO+1).toNat).drop BO.toNat)).length) KC:Value)] (hZ _ (.head _)) (by intro p hp;rfl)) (by intro p hp;rw[List.mem_singleton] at hp;subst hp;exact ai rfl) (by simp<;>omega) (fun v56 L56 qo=>?_)
   obtain⟨PG,PD,VK⟩:=qo.form
   subst VK
   refine gx pK [[],[5]]<|zD 1<|aS 17 fun yz yF zh=>jd 1 [2]<|fW zh<|zD 2<|ja ((j:Int)+1) (by omega)<|zD 2<|bF jV (⟨j+1,(.slice PG ((es++[(.slice KD (((((l49).take (BO+1).toNat).drop BO.toNat)).length) KC:Value)])).length PD),L56,(es++[(.slice KD (((((l49).take (BO+1).toNat).drop BO.toNat)).length) KC:Value)])⟩) ⟨⟨by dsimp only;omega,by simp only[zM];omega⟩,qo,by rw[iB (apx aw6 oC)];exact hJ.2.2.snoc (by rw[show BO.toNat+1=(BO+1).toNat by omega];exact⟨KD,aCV,aCR,KC,rfl,aCT,aCU,aCS⟩)⟩ (by dsimp only;omega) [0,2,3,4,5,6,7] (Sub.refl _)
  refine zD 3 ?_
  have hS6:de (fun w l=>bB yN w 7 kS l) es (Bv K.ways wq):=by have:=hJ.2.2;rwa[List.take_of_length_le (by simp only[Bv,List.length_zipWith];omega)] at this
  refine zD 1<|jn fun b9=>jd 10 [5]<|dw [1,1,1,0,1,0,0,1,1,0,0,1,1,1,1,0,1,0,0] [K1] (fun(zz:Nat×bD)=>[(1,zP b1),(2,zP b2),(3,zP b3),(6,zP b6),(9,zP b9),(21,.slice a21 wsW.length c21),(22,zI (wsW.length:Int)),(23,zI (k:Int)),(60,.slice mw K.before.length mo),(61,zI (K.before.length:Int)),(62,zI (zz.1:Int))]) (fun zz=>[.b b9 (.cells ⟨[.bool (zz.2.c 0 0),.bool (zz.2.c 0 1),.bool (zz.2.c 0 2),.bool (zz.2.c 0 3),.bool (zz.2.c 1 0),.bool (zz.2.c 1 1),.bool (zz.2.c 1 2),.bool (zz.2.c 1 3),.bool (zz.2.c 2 0),.bool (zz.2.c 2 1),.bool (zz.2.c 2 2),.bool (zz.2.c 2 3),.bool (zz.2.c 3 0),.bool (zz.2.c 3 1),.bool (zz.2.c 3 2),.bool (zz.2.c 3 3)]⟩ 162 (0,0)),.l LT,.b b6 (.cells ⟨[.slice lv ig.length kH,vT,.slice fa 0 fc]⟩ 29 (0,0)),.l LR,.b IM (.cells ⟨[.slice lv ig.length kH,.slice eR iO.length dS,.slice fa 0 fc,.slice eo K.cs.length dX,.slice dJ hv.length dv,.slice kZ K.rules.length kY,.slice mw K.before.length mo,.slice lO K.after.length lH,zI K.gone,zI K.new,zI K.af,.slice gP K.facts.length fP,vR]⟩ 165 (0,0)),.b b1 (.cells ⟨[.slice lv ig.length kH,.slice eR iO.length dS,.slice fa 0 fc,.slice eo K.cs.length dX,.slice dJ hv.length dv,.slice kZ K.rules.length kY,.slice mw K.before.length mo,.slice lO K.after.length lH,zI K.gone,zI K.new,zI K.af,.slice gP K.facts.length fP]⟩ 38 (0,0)),.b b2 (.cells ⟨[zP IM]⟩ 106 (0,0)),.b b3 (.cells ⟨[zI 0]⟩ 42 (0,0))]) (fun zz=>zz.1≤K.before.length∧E5 (kG K qR wq).c zz.1 0 zz.2) (fun zz=>K.before.length-zz.1) (⟨0,⟨fun _ _=>false⟩⟩) ⟨by dsimp only;omega,fun x y=>by simp⟩ (zN 0 8) ?_
  rintro⟨i,r⟩ hQ K6 hK6 rest
  dsimp only at hQ
  refine zD 5<|zJ 63 ((i:Int) <(K.before.length:Int)) (fun h9=>?_) fun h9=>?_
  ·
   refine zD 7 ?_
   obtain⟨Pw,ahb⟩:=zG K.before i
   refine gX mo 5 O6 ahb<|jl 0 ((O5 _ _ ahb).ext (ux bZ))<|jn fun OJ=>jd 7 [0,3,0]<|jp (vs:=[.agg ⟨[.string Pw.name,zI Pw.st,zI Pw.no,zI Pw.head,.bool Pw.bold]⟩]) [] [] (fun aG hs hZ=>YN)<|aS 3 fun ady aej N1=>jcL (vs:=[.agg ⟨[.slice lv ig.length kH,vT,.slice fa 0 fc]⟩,.agg ⟨[zI Pw.st,zI Pw.no,zI 0]⟩]) [] [2] LT (fun aG hs hZ=>(h47 _ hwm _ (zL ahb)).2 _ (bZ.trans hs) _ _ _ _ _ rfl ⟨_,hJ.2.1.jF hZ,hS6.imp fun _ _ k=>k.up hs⟩) ?_
   rintro _ Y71 ⟨a71,n71,c71,rfl,aQl⟩
   refine eG N1 (zN 1 9)<|zD 9<|jp (vs:=[zI 0]) [] [] (fun aG hs hZ=>A4)<|jf [0] Y71 (fun ba3 aFf aRV=>?_)
   obtain⟨qPa,qPb,qPo,qPc,heP,qPk,qPh,qPl⟩:=aQl _ aRV
   simp only[Value.slice.injEq] at heP
   obtain⟨rfl,rfl,rfl⟩:=heP
   refine jd 9 [6]<|dw [1,1,1,0,1,0,0,1,1,0,0,1,1,1,1,0,1,0,0,1,1,0,0,1,1,1,1,0,0] [K1,K6] (fun(zz:Nat×bD)=>[(1,zP b1),(2,zP b2),(3,zP b3),(6,zP b6),(9,zP b9),(10,zI (i:Int)),(12,.slice a71 ((qR wq Pw).length) c71),(21,.slice a21 wsW.length c21),(22,zI (wsW.length:Int)),(23,zI (k:Int)),(60,.slice mw K.before.length mo),(61,zI (K.before.length:Int)),(62,zI (i:Int)),(77,.slice lO K.after.length lH),(78,zI (K.after.length:Int)),(79,zI (zz.1:Int))]) (fun zz=>[.b b9 (.cells ⟨[.bool (zz.2.c 0 0),.bool (zz.2.c 0 1),.bool (zz.2.c 0 2),.bool (zz.2.c 0 3),.bool (zz.2.c 1 0),.bool (zz.2.c 1 1),.bool (zz.2.c 1 2),.bool (zz.2.c 1 3),.bool (zz.2.c 2 0),.bool (zz.2.c 2 1),.bool (zz.2.c 2 2),.bool (zz.2.c 2 3),.bool (zz.2.c 3 0),.bool (zz.2.c 3 1),.bool (zz.2.c 3 2),.bool (zz.2.c 3 3)]⟩ 162 (0,0)),.b OJ (.cells ⟨[.string Pw.name,zI Pw.st,zI Pw.no,zI Pw.head,.bool Pw.bold]⟩ 76 (0,0)),.l LT,.b b6 (.cells ⟨[.slice lv ig.length kH,vT,.slice fa 0 fc]⟩ 29 (0,0)),.l LR,.b IM (.cells ⟨[.slice lv ig.length kH,.slice eR iO.length dS,.slice fa 0 fc,.slice eo K.cs.length dX,.slice dJ hv.length dv,.slice kZ K.rules.length kY,.slice mw K.before.length mo,.slice lO K.after.length lH,zI K.gone,zI K.new,zI K.af,.slice gP K.facts.length fP,vR]⟩ 165 (0,0)),.b b1 (.cells ⟨[.slice lv ig.length kH,.slice eR iO.length dS,.slice fa 0 fc,.slice eo K.cs.length dX,.slice dJ hv.length dv,.slice kZ K.rules.length kY,.slice mw K.before.length mo,.slice lO K.after.length lH,zI K.gone,zI K.new,zI K.af,.slice gP K.facts.length fP]⟩ 38 (0,0)),.b b2 (.cells ⟨[zP IM]⟩ 106 (0,0)),.b b3 (.cells ⟨[zI 0]⟩ 42 (0,0))]) (fun zz=>zz.1≤K.after.length∧E5 (kG K qR wq).c i zz.1 zz.2) (fun zz=>K.after.length-zz.1) (⟨0,r⟩) ⟨by dsimp only;omega,hQ.2⟩ [1,0,2,3,4,5,6,7,8] ?_
   rintro⟨j,r⟩ hU K8 hK8 rest
   dsimp only at hU
   refine zD 5<|zJ 80 ((j:Int) <(K.after.length:Int)) (fun h14=>?_) fun h14=>?_
   ·
    refine zD 7 ?_
    obtain⟨Fb,Vj⟩:=zG K.after j
    refine gX lH 5 KH Vj<|jl 0 ((KG _ _ Vj).ext (ux (bZ.trans aFf)))<|jn fun IN=>jd 3 [0] ?_
    have hRW:(kG K qR wq).c i j=decide (bQ (pq Fb.st Fb.no 0) (qR wq Pw) 0≥0):=by simp only[kG,ahb,Vj]
    refine jd 5 [0]<|I6 (b:=b9) (off:=0) (len:=4) (sz:=4) (i:Int) (by omega)<|jp (vs:=[.agg ⟨[.string Fb.name,zI Fb.st,zI Fb.no,zI Fb.head,.bool Fb.bold]⟩]) [] [] (fun aG hs hZ=>YN)<|jp (vs:=[.slice a71 ((qR wq Pw).length) c71,.agg ⟨[zI Fb.st,zI Fb.no,zI 0]⟩]) [] [] (fun aG hs hZ=>Ls ((show bB _ _ _ _ _ from ⟨a71,qPb,qPo,c71,rfl,qPk,qPh,qPl⟩).up hs) (h47 _ hwm _ (zL ahb)).1)<|I6 (b:=b9) (off:=0+(i:Int).toNat*4) (len:=4) (sz:=1) (j:Int) (by omega)<|aS 8 fun TX Ub Sn=>jsx 1 b9 (0+(i:Int).toNat*4+(j:Int).toNat*1) [.bool (r.c 0 0),.bool (r.c 0 1),.bool (r.c 0 2),.bool (r.c 0 3),.bool (r.c 1 0),.bool (r.c 1 1),.bool (r.c 1 2),.bool (r.c 1 3),.bool (r.c 2 0),.bool (r.c 2 1),.bool (r.c 2 2),.bool (r.c 2 3),.bool (r.c 3 0),.bool (r.c 3 1),.bool (r.c 3 2),.bool (r.c 3 3)] [.bool (decide (bQ (pq Fb.st Fb.no 0) (qR wq Pw) 0≥0))] 162 (by intro v hv;rw[List.mem_singleton] at hv;subst hv;rfl) (XS (r:=r) (by omega) (by omega)) ?_
    refine jmw 0 [.b b9 (.cells ⟨[.bool ((iU r i j ((kG K qR wq).c i j)).c 0 0),.bool ((iU r i j ((kG K qR wq).c i j)).c 0 1),.bool ((iU r i j ((kG K qR wq).c i j)).c 0 2),.bool ((iU r i j ((kG K qR wq).c i j)).c 0 3),.bool ((iU r i j ((kG K qR wq).c i j)).c 1 0),.bool ((iU r i j ((kG K qR wq).c i j)).c 1 1),.bool ((iU r i j ((kG K qR wq).c i j)).c 1 2),.bool ((iU r i j ((kG K qR wq).c i j)).c 1 3),.bool ((iU r i j ((kG K qR wq).c i j)).c 2 0),.bool ((iU r i j ((kG K qR wq).c i j)).c 2 1),.bool ((iU r i j ((kG K qR wq).c i j)).c 2 2),.bool ((iU r i j ((kG K qR wq).c i j)).c 2 3),.bool ((iU r i j ((kG K qR wq).c i j)).c 3 0),.bool ((iU r i j ((kG K qR wq).c i j)).c 3 1),.bool ((iU r i j ((kG K qR wq).c i j)).c 3 2),.bool ((iU r i j ((kG K qR wq).c i j)).c 3 3)]⟩ 162 (0,0))] (L:=[(b9,.cells ⟨dD [.bool (r.c 0 0),.bool (r.c 0 1),.bool (r.c 0 2),.bool (r.c 0 3),.bool (r.c 1 0),.bool (r.c 1 1),.bool (r.c 1 2),.bool (r.c 1 3),.bool (r.c 2 0),.bool (r.c 2 1),.bool (r.c 2 2),.bool (r.c 2 3),.bool (r.c 3 0),.bool (r.c 3 1),.bool (r.c 3 2),.bool (r.c 3 3)] (0+(i:Int).toNat*4+(j:Int).toNat*1) [.bool (decide (bQ (pq Fb.st Fb.no 0) (qR wq Pw) 0≥0))]⟩ 162 (0,0))]) (by rw[XP (by omega) (by omega),hRW];rfl) ?_
    refine gx Sn []<|zD 2<|ja ((j:Int)+1) (by omega)<|zD 2<|bF hK8 (⟨j+1,(iU r i j ((kG K qR wq).c i j))⟩) ⟨by dsimp only;omega,hU.2.set⟩ (by dsimp only;omega) [0,2,3,4,5,6,7,8,9] (Sub.refl _)
   refine zD 3<|ja ((i:Int)+1) (by omega)<|zD 2<|bF hK6 (⟨i+1,r⟩) ⟨by dsimp only;omega,E5.nxt (fun x y h=>aub x y h) (by have:=hU.2;rwa[show j=K.after.length by omega] at this)⟩ (by dsimp only;omega) [0,2,3,4,5,6,7,8] aFf
  refine jd 9 [6,6,4,0]<|aS 6 fun FI Ge wC=>jn fun azl=>eG wC (zN 1 8)<|aS 7 fun FH Gd zk=>iK (sz:=16) (ps:=((W.take k).map (kG K qR))) (qs:=[(r:bD)]) (enc:=Bt) (w:= .slice (some ⟨azl,0,none⟩) 1 1) [4] [0] [(azl,.cells ⟨([(r:bD)].map Bt).flatten⟩ 162 (0,0))] (hI.2) (fun s _ hZ=>bV [(r:bD)] (hZ _ (.head _)) (by intro p hp;rfl)) (fun p _=>ai rfl) (by simp only[List.length_map,List.length_take,List.length_cons,List.length_nil];omega) (fun baJ aWf Zh=>?_)
  obtain⟨aBt,aBm,aGF⟩:=Zh.form
  subst aGF
  refine gx zk [[7],[7]]<|zD 2<|aS 10 fun Pv PX C7=>jd 1 [5]<|gx C7 []<|zD 2<|ja ((k:Int)+1) (by omega)<|zD 2<|bF bG (⟨k+1,(.slice aBt ((((W.take k).map (kG K qR))++[(r:bD)])).length aBm),aWf⟩) ⟨by dsimp only;omega,by rw[iB aGc,List.map_append];have e:=E5.fin (fun x y h=>auc x y h) (by have:=hQ.2;rwa[show i=K.before.length by omega] at this);subst e;exact Zh⟩ (by dsimp only;omega) [0,5,6,7,8] (Sub.refl _)
 refine jd 9 [3,3,4]<|jrD (g:=87) (ca:=[zP b2,zP b3]) ⟨rfl,rfl⟩ (.tuple ⟨[zP IM,zI 0]⟩) [3,4] [1,0] ((IM,.cells ⟨[.slice lv ig.length kH,.slice eR iO.length dS,.slice fa 0 fc,.slice eo K.cs.length dX,.slice dJ hv.length dv,.slice kZ K.rules.length kY,.slice mw K.before.length mo,.slice lO K.after.length lH,zI K.gone,zI K.new,zI K.af,.slice gP K.facts.length fP,vR]⟩ 165 (0,0))::LR) 9 bZ ⟨_,_,rfl,rfl,IM,rfl,fun lq hs hk=>by have hvt:=hI.2;rw[List.take_of_length_le (by omega)] at hvt;exact⟨⟨_,_,_,_,_,_,_,_,_,_,hv,hk _ (.head _),pY.up hs,nn,vu.up hs,ve.up hs,ha0.up hs,hf0.up hs,hvt.jF hk.tail⟩,⟨_,hk _ (.head _),hvt.jF hk.tail⟩⟩⟩
theorem Tt.v(h:Tt K):ee K where
 rules:=⟨by have:=h.rules.1;omega,fun r hr=>at7 (h.rules.2 r hr)⟩
 before:=⟨by have:=h.before.1;omega,fun p hp=>by
  obtain⟨h1,h2,_⟩:=(h.before.2 p hp).1
  exact⟨⟨⟨h1.1.1,by have:=h1.1.2;omega⟩,h1.2⟩,h2⟩⟩
 after:=⟨by have:=h.after.1;omega,fun p hp=>by
  obtain⟨h1,h2,_⟩:=(h.after.2 p hp).1
  exact⟨⟨⟨h1.1.1,by have:=h1.1.2;omega⟩,h1.2⟩,h2⟩⟩
 c8:=h.c8.v
 facts:=⟨by have:=h.facts.1;omega,h.facts.2⟩
theorem qM.up{aD:Nat→Option Obj}(h:qM ro l W)(hs:Sub ro aD):qM aD l W:=fun aG h1=>h aG (hs.trans h1)
theorem xQ.up{aD:Nat→Option Obj}{qR:List Int→aB→List an}(h:xQ ro l K W qR)(hs:Sub ro aD):xQ aD l K W qR:=fun w hw x hx=>⟨(h w hw x hx).1,fun aG h1=>(h w hw x hx).2 aG (hs.trans h1)⟩
theorem apO{qR:List Int→aB→List an}(hK:fx ro l K)(hO:jz K)(hV:ee K)(hW:Xb K W)(h76:qM ro l W)(h47:xQ ro l K W qR):gN ro l K (W.map (kG K qR)):=
 fun aG hs=>(avW (hK.up hs) hO hV hW (h76.up hs) (h47.up hs)).mono fun _ _ ⟨f,e,h⟩=>⟨f,e,fun lq h1 h2=>(h lq h1 h2).1⟩
def q5(a b:Int):Int:=if a <b then-1 else if a>b then 1 else 0
def orL:List Int→Int
 | []=>0
 |x::l=>if x=0 then orL l else x
theorem afC{l:List Int}{x:Int}(h:l[k]?=some x):orL (l.drop k)=if x=0 then orL (l.drop (k+1)) else x:=by rw[eE h];rfl
theorem anc{l:List Int}(h:¬k <l.length):orL (l.drop k)=0:=by rw[eA h];rfl
def acE(x y:ah):Int:=orL [q5 x.n y.n,q5 x.l y.l]
theorem apC{x y:ah}(h:am6 x y):acE x y <0:=by
 rcases h with h| ⟨h1,h2⟩
 ·have e:q5 x.n y.n= -1:=if_pos h
  simp[acE,orL,e]
 have e:q5 x.n y.n=0:=by simp only[q5];rw[if_neg (by omega),if_neg (by omega)]
 have e2:q5 x.l y.l= -1:=if_pos h2
 simp[acE,orL,e,e2]
theorem aH0{a:Int}:du zT 194 [zI a] ro (.bool false):=by
 refine zE<|zD 12<|zX (.bool (!decide (a=a))) ⟨by simp,rfl⟩
theorem ayJ{a:Int}:du zT 135 [zI a,zI b] ro (zI (q5 a b)):=by
 refine zE<|zD 7<|jp (vs:=[zI a]) [] [] (fun aG hs hZ=>aH0)<|zD 5<|jp (vs:=[zI b]) [] [] (fun aG hs hZ=>aH0)<|zD 23<|zJ 16 (a <b) (fun h1=>?_) fun h1=>?_
 ·
  refine zD 6<|zX (zI (-1)) ⟨by simp only[q5];first|rw[if_pos (by omega)]|rw[if_neg (by omega),if_pos (by omega)]|rw[if_neg (by omega),if_neg (by omega)],rfl⟩
 refine zD 9<|zJ 19 (a>b) (fun h2=>?_) fun h2=>?_
 ·
  refine zD 6<|zX (zI 1) ⟨by simp only[q5];first|rw[if_pos (by omega)]|rw[if_neg (by omega),if_pos (by omega)]|rw[if_neg (by omega),if_neg (by omega)],rfl⟩
 refine zD 7<|zX (zI 0) ⟨by simp only[q5];first|rw[if_pos (by omega)]|rw[if_neg (by omega),if_pos (by omega)]|rw[if_neg (by omega),if_neg (by omega)],rfl⟩
theorem gOr{v:Value}(hl:bB ro v 1 cy xs)(hn:xs.length≤1000):du zT 237 [v] ro (zI (orL xs)):=by
 obtain⟨fy,rX,rV,eO,rfl,tT,lN,mC⟩:=hl
 refine zE<|zD 16<|dw [1,1,0,1,0,0] [] (fun(zz:Nat)=>[(3,zI 0),(6,.slice fy xs.length eO),(7,zI (xs.length:Int)),(8,zI (zz:Int))]) (fun zz=>[]) (fun zz=>zz≤xs.length∧orL xs=orL (xs.drop zz)) (fun zz=>xs.length-zz) 0 ⟨by omega,rfl⟩ [] ?_
 rintro k hI K1 bG rest
 refine zD 5<|zJ 9 ((k:Int) <(xs.length:Int)) (fun h1=>?_) fun h1=>?_
 ·
  refine zD 6 ?_
  obtain⟨x10,sg⟩:=zG xs k
  refine gX eO 1 lN sg<|jl 0 (mC _ _ sg)<|zD 8<|js 14 (!decide (x10=0)) (fun h2=>?_) (fun h2=>?_)
  ·
   replace h2:=of_decide_eq_false (by simpa using h2)
   refine zD 7<|zX (zI x10) ⟨by rw[hI.2,afC sg,if_neg (by simp_all)],rfl⟩
  replace h2:=of_decide_eq_true (by simpa using h2)
  refine zD 3<|ja ((k:Int)+1) (by omega)<|zD 2<|bF bG (k+1) ⟨by omega,by rw[hI.2,afC sg,if_pos (by simp_all)]⟩ (by omega) [] (Sub.refl _)
 refine zD 8<|zX (zI 0) ⟨by rw[hI.2,anc (by omega)],rfl⟩
theorem ase{x y:ah}:du zT 212 [.agg ⟨[zI x.n,zI x.l]⟩,.agg ⟨[zI y.n,zI y.l]⟩] ro (zI (acE x y)):=by
 refine zE<|zD 2<|jn fun b2=>jn fun b3=>jd 12 [1,0,1,0]<|jp (vs:=[zI x.n,zI y.n]) [] [] (fun aG hs hZ=>ayJ)<|jp (vs:=[zI x.l,zI y.l]) [] [] (fun aG hs hZ=>ayJ)<|aS 10 fun BX B6 An=>jn fun IN=>eG An [1,2]<|jp (vs:=[.slice (some ⟨IN,0,none⟩) 2 2]) [0] [(IN,.cells ⟨([(q5 x.n y.n),(q5 x.l y.l)].map cy).flatten⟩ 3 (0,0))] (fun aG hs hZ=>gOr (bU [(q5 x.n y.n),(q5 x.l y.l)] hZ.head (by intro p hp;rfl)) (by first|omega| (simp only[List.length_set,zM];omega))) ?_
 refine zD 3<|zX (zI (orL [(q5 x.n y.n),(q5 x.l y.l)])) ⟨rfl,rfl⟩
theorem Be{lo hi:Int}:du zT 198 [zI n,zI lo,zI hi] ro (.bool (iI n lo hi)):=by
 refine zE<|zD 10<|jj 4 [(6,.bool false),(14,.bool ((decide (lo≤n))&&(decide (n≤hi))))] (fun gI=>?_) (fun hj=>?_)
 rotate_left
 refine js 10 (decide (lo≤n)) (fun h1=>?_) (fun h1=>?_)
 ·
  have fq:=h1
  replace fq:=of_decide_eq_true fq
  refine zD 4<|jw 14 (.bool ((decide (lo≤n))&&(decide (n≤hi)))) (w:= .bool (decide (n≤hi))) (by rw[h1]<;>rfl) ?_
  exact zK hj
 ·
  have fq:=h1
  replace fq:=of_decide_eq_false fq
  refine zD 4<|jw 14 (.bool ((decide (lo≤n))&&(decide (n≤hi)))) (w:= .bool false) (by rw[h1]<;>rfl) ?_
  exact zK hj
 refine zD 3<|zX (.bool ((decide (lo≤n))&&(decide (n≤hi)))) ⟨rfl,rfl⟩
theorem ayD{x:ah}(hx:BI x):du zT 200 [.agg ⟨[zI x.n,zI x.l]⟩] ro (.bool true):=by
 obtain⟨⟨hx1,hx2⟩,hx3,hx4⟩:=hx
 refine zE<|zD 2<|jn fun b1=>jd 6 [0]<|jp (vs:=[zI x.n,zI 1,zI 40]) [] [] (fun aG hs hZ=>Be)<|zD 1<|jj 4 [(2,.bool false),(10,.bool ((iI x.n 1 40)&&(iI x.l 0 4)))] (fun gI=>?_) (fun hj=>?_)
 rotate_left
 refine js 6 (iI x.n 1 40) (fun h1=>?_) (fun h1=>?_)
 ·
  refine jd 2 [0]<|jp (vs:=[zI x.l,zI 0,zI 4]) [] [] (fun aG hs hZ=>Be)<|zD 1<|jw 10 (.bool ((iI x.n 1 40)&&(iI x.l 0 4))) (w:= .bool (iI x.l 0 4)) (by rw[h1]<;>rfl) ?_
  exact zK hj
 ·
  refine zD 4<|jw 10 (.bool ((iI x.n 1 40)&&(iI x.l 0 4))) (w:= .bool false) (by rw[h1]<;>rfl) ?_
  exact zK hj
 refine zD 3<|zX (.bool ((iI x.n 1 40)&&(iI x.l 0 4))) ⟨by simp only[iI,Value.bool.injEq,Bool.and_eq_true,decide_eq_true_eq];omega,rfl⟩
theorem ayK{v:Value}{S:List (List ah)}(hS:cW ro v S)(hO:eS S):du zT 197 [.agg ⟨[v]⟩] ro (zI 0):=by
 obtain⟨ws,ht,di⟩:=hS
 obtain⟨eR,AK,AI,dS,rfl,AJ,sG,sE⟩:=ht
 have hln:=di.len
 have JL:=hO.two
 refine zE<|zD 2<|jn fun b1=>jd 10 [0]<|zJ 10 ((ws.length:Int)=0) (fun h1=>?_) fun h1=>?_
 ·
  exfalso;omega
 refine jd 10 [0]<|zJ 14 ((ws.length:Int)>3) (fun h2=>?_) fun h2=>?_
 ·
  exfalso;omega
 refine jd 11 [0]<|dw [1,1,1,0,1,0,0] [] (fun(zz:Nat)=>[(16,.slice eR ws.length dS),(17,zI (ws.length:Int)),(18,zI (zz:Int))]) (fun zz=>[.b b1 (.cells ⟨[.slice eR ws.length dS]⟩ 25 (0,0))]) (fun zz=>zz≤ws.length) (fun zz=>ws.length-zz) 0 (by omega) [0] ?_
 rintro k hI K1 bG rest
 refine zD 5<|zJ 19 ((k:Int) <(ws.length:Int)) (fun h3=>?_) fun h3=>?_
 ·
  refine zD 6 ?_
  obtain⟨TY,CQ⟩:=zG ws k
  refine gX dS 1 sG CQ ?_
  obtain⟨l21,aw8,h21⟩:=di.get CQ
  obtain bdX:=hO.len _ (zL aw8)
  obtain aQz:=hO.ok _ (zL aw8)
  obtain aop:=hO.asc _ (zL aw8)
  obtain⟨aDw,bbT,bbR,am3,rfl,bbS,aDv,aDu⟩:=h21
  refine jl 0 (sE _ _ CQ)<|zD 9<|zJ 24 ((l21.length:Int)>8) (fun h4=>?_) fun h4=>?_
  ·
   exfalso;omega
  refine zD 9<|dw [1,1,1,0,1,0,0,1,1,0,0,1,1,1,0,0] [K1] (fun(zz:Nat)=>[(4,.slice aDw l21.length am3),(16,.slice eR ws.length dS),(17,zI (ws.length:Int)),(18,zI (k:Int)),(25,.slice aDw l21.length am3),(26,zI (l21.length:Int)),(27,zI (zz:Int))]) (fun zz=>[.b b1 (.cells ⟨[.slice eR ws.length dS]⟩ 25 (0,0))]) (fun zz=>zz≤l21.length) (fun zz=>l21.length-zz) 0 (by omega) [0] ?_
  rintro i hJ K2 jV rest
  refine zD 5<|zJ 28 ((i:Int) <(l21.length:Int)) (fun h5=>?_) fun h5=>?_
  ·
   refine zD 7 ?_
   obtain⟨kB,fS⟩:=zG l21 i
   refine gX am3 2 aDv fS<|jl 0 (aDu _ _ fS)<|jn fun b6=>jd 7 [0,0]<|jp (vs:=[.agg ⟨[zI kB.n,zI kB.l]⟩]) [] [] (fun aG hs hZ=>(ayD (x:=kB) (aQz _ (zL fS))))<|zD 9<|js 2 (decide ((i:Int)>0)) (fun h6=>?_) (fun h6=>?_)
   ·
    have h6g:=h6
    replace h6g:=of_decide_eq_true h6g
    refine zD 2<|ja ((i:Int)-1) (by omega) ?_
    obtain⟨x41,awc⟩:=zG l21 (((i:Int)-1).toNat)
    refine I4 ((i:Int)-1) am3 2 aDv awc (by omega)<|jl 0 (aDu _ _ awc)<|jd 1 [0]<|jp (vs:=[.agg ⟨[zI x41.n,zI x41.l]⟩,.agg ⟨[zI kB.n,zI kB.l]⟩]) [] [] (fun aG hs hZ=>(ase (x:=x41) (y:=kB)))<|zD 3<|zJ 46 ((acE x41 kB)≥0) (fun h7=>?_) fun h7=>?_
    ·
     exfalso;have:=apC (qj aop (show ((i:Int)-1).toNat <i by omega) awc fS);simp_all;omega
    refine zD 3<|ja ((i:Int)+1) (by omega)<|zD 2<|bF jV (i+1) (by omega) (by omega) [1] (Sub.refl _)
   have h6g:=h6
   replace h6g:=of_decide_eq_false h6g
   refine zD 13<|ja ((i:Int)+1) (by omega)<|zD 2<|bF jV (i+1) (by omega) (by omega) [1] (Sub.refl _)
  refine zD 3<|ja ((k:Int)+1) (by omega)<|zD 2<|bF bG (k+1) (by omega) (by omega) [0] (Sub.refl _)
 refine zD 7<|zX (zI 0) ⟨rfl,rfl⟩
abbrev oV(x:an):Value:= .agg ⟨cL x⟩
instance:DecidableEq an:=fun x y=>match x,y with
 | ⟨a,b,c⟩,⟨d,e,f⟩=>if h:a=d∧b=e∧c=f then isTrue (by obtain⟨rfl,rfl,rfl⟩:=h;rfl) else isFalse fun k=>h (by cases k;exact⟨rfl,rfl,rfl⟩)
def mD(s:Int)(x:ah):an:=⟨s,x.n,x.l⟩
def RG(S:List (List ah)):Nat→List an
 |0=>[]
 |k+1=>RG S k++(match S[k]? with
  |some l=>l.map (mD k)
  |none=>[])
def bI(S:List (List ah)):List an:=RG S S.length
theorem aws{S:List (List ah)}{l:List ah}(h:S[k]?=some l):RG S (k+1)=RG S k++l.map (mD k):=by simp only[RG,h]
theorem Fq{S:List (List ah)}{x:an}:∀ {k:Nat},x∈RG S k↔∃j l p,j <k∧S[j]?=some l∧p∈l∧x=mD j p
 |0=>by simp[RG]
 |k+1=>by
  simp only[RG,List.mem_append,Fq (k:=k)]
  constructor
  ·rintro(⟨j,l,p,h1,h2⟩|h)
   ·exact⟨j,l,p,by omega,h2⟩
   split at h
   ·rename_i l hl
    obtain⟨p,hp,rfl⟩:=List.mem_map.1 h
    exact⟨k,l,p,by omega,hl,hp,rfl⟩
   cases h
  rintro⟨j,l,p,h1,h2,h3,rfl⟩
  by_cases hj:j=k
  ·subst hj;rw[h2];exact .inr (List.mem_map_of_mem h3)
  exact .inl ⟨j,l,p,by omega,h2,h3,rfl⟩
theorem HE{S:List (List ah)}{j:Nat}{l:List ah}{p:ah}(h1:S[j]?=some l) (h2:p∈l):mD j p∈bI S:=Fq.2 ⟨j,l,p,(List.getElem?_eq_some_iff.1 h1).1,h1,h2,rfl⟩
theorem Vr{S:List (List ah)}(hO:eS S):∀k,(RG S k).Nodup
 |0=>List.nodup_nil
 |k+1=>by
  simp only[RG]
  refine List.nodup_append.2 ⟨Vr hO k,?_,fun x hx y hy e=>?_⟩
  ·split
   ·rename_i l hl
    refine List.pairwise_map.2 ((hO.asc l (zL hl)).imp fun {a b} h e=>?_)
    simp only[mD,an.mk.injEq] at e
    rcases h with h|h<;>omega
   exact List.nodup_nil
  subst e
  obtain⟨j,l,p,h1,_,_,rfl⟩:=Fq.1 hx
  split at hy
  ·obtain⟨q,_,hq⟩:=List.mem_map.1 hy
   simp only[mD,an.mk.injEq] at hq
   omega
  cases hy
theorem NO{S:List (List ah)}(hO:eS S):∀k,(RG S k).length≤4*k
 |0=>by simp[RG]
 |k+1=>by
  have:=NO hO k
  simp only[RG,List.length_append]
  split
  ·rename_i l hl
   have:=hO.len l (zL hl)
   rw[List.length_map];omega
  simp;omega
theorem uu{S:List (List ah)}(hO:eS S):(bI S).length≤8:=by
 have:=NO hO S.length
 have:=hO.two
 unfold bI;omega
theorem aIj(a b:an):EqD zT 10000 132 (oV a) (oV b) (decide (a=b)):=by
 have h:=(uA (m9 Tryz.typeInfo132 Tryz.underlying132 rfl rfl rfl rfl rfl rfl) Tryz.stoodInHeld132 (.cons (by decide) (j8 mz rfl) (j8 mz rfl) (n9 mz _ _) (.cons (by decide) (GO (m9 Tryz.typeInfo81 Tryz.underlying81 rfl rfl rfl rfl rfl rfl) rfl) (GO (m9 Tryz.typeInfo81 Tryz.underlying81 rfl rfl rfl rfl rfl rfl) rfl) (aj5 _ _ _ _ 9997) .nil)):EqD zT 10000 132 (oV a) (oV b) _)
 have e:(a.h==b.h&&((a.n==b.n&&(a.l==b.l&&true))&&true))=decide (a=b):=by
  rcases a with ⟨x,y,z⟩;rcases b with ⟨u,v,w⟩
  rw[Bool.eq_iff_iff];simp
 rwa[e] at h
theorem aU0(a:an):CkD zT 10000 132 (oV a):=
 S7 (m9 Tryz.typeInfo132 Tryz.underlying132 rfl rfl rfl rfl rfl rfl) (.cons (by decide) (j8 mz rfl) (Ir mz _) (.cons (by decide) (GO (m9 Tryz.typeInfo81 Tryz.underlying81 rfl rfl rfl rfl rfl rfl) rfl) (S7 (dep:=9998) (m9 Tryz.typeInfo81 Tryz.underlying81 rfl rfl rfl rfl rfl rfl) (.cons (by decide) (j8 mz rfl) (Ir mz _) (.cons (by decide) (j8 mz rfl) (Ir mz _) .nil))) .nil))
theorem DW:Tv zT 132 oV:=agI (m9 Tryz.typeInfo132 Tryz.underlying132 rfl rfl rfl rfl rfl rfl) (fun k=>⟨_,rfl⟩) aU0 aIj (fun k=>by simp[Instr.sameBits])
def MV(Z:Cells)(F:List (an×Value))(g:an→an):Prop:=∀aD,Knows aD Z→∀x∈F,bB aD x.2 3 cL [g x.1]
theorem H4[DecidableEq κ]{k:κ}:∀ {F:List (κ×Value)} {i:Nat},k∈F.map (·.1)→∃j v,sH k F i=some (j,v)
 | [],_,h=>by cases h
 |x::F,i,h=>by
  simp only[sH]
  split
  ·exact⟨_,_,rfl⟩
  rename_i hk
  refine H4 ?_
  rcases List.mem_cons.1 h with h|h
  ·exact absurd h hk
  exact h
theorem YA[DecidableEq κ]{k:κ}{F:List (κ×Value)}(h:k∈F.map (·.1)):∃v,lkM k F=some v∧(k,v)∈F:=by
 obtain⟨j,v,h1⟩:=H4 (i:=0) h
 exact⟨v,by simp[lkM,h1],zL (qB h1).2⟩
theorem aec[DecidableEq κ]{k:κ}{v:Value}{F:List (κ×Value)}(h:k∉F.map (·.1)):mi k v F=F++[(k,v)]:=by
 have:sH k F 0=none:=by
  cases hf:sH k F 0 with
  |none=>rfl
  |some y=>exact absurd (List.mem_map_of_mem (f:=(·.1)) (zL (qB (j:=y.1) (v:=y.2) hf).2)) h
 simp only[mi,this]
theorem PK[DecidableEq κ]{k:κ}{v:Value}{F:List (κ×Value)}(h:k∈F.map (·.1))(hn:(F.map (·.1)).Nodup):(mi k v F).map (·.1)=F.map (·.1)∧∀x∈mi k v F,x=(k,v)∨(x∈F∧x.1≠k):=by
 obtain⟨j,u,h1⟩:=H4 (i:=0) h
 have h2:=(qB h1).2
 rw[Nat.sub_zero] at h2
 obtain⟨hj,TP⟩:=List.getElem?_eq_some_iff.1 h2
 simp only[mi,h1,Ff]
 refine⟨?_,fun x hx=>?_⟩
 ·rw[List.map_set]
  refine List.ext_getElem? fun i=>?_
  rw[List.getElem?_set]
  split
  ·rename_i hi;subst hi;simp[h2,hj,TP]
  rfl
 obtain⟨i,hi⟩:=List.getElem?_of_mem hx
 rw[List.getElem?_set] at hi
 split at hi
 ·cases hi;exact .inl rfl
 rename_i Jb
 refine .inr ⟨zL hi,fun e=>Jb ?_⟩
 obtain⟨hi1,R9⟩:=List.getElem?_eq_some_iff.1 hi
 exact(List.getElem_inj (xs:=F.map (·.1)) (h₀:=by simpa using hj) (h₁:=by simpa using hi1) hn).1 (by simp[TP,R9,e])
theorem MV.set{F:List (an×Value)}{g:an→an}(h:MV Z F g){k y:an}{v:Value}(hk:k∈F.map (·.1))(hn:(F.map (·.1)).Nodup)(hv:∀aD,Knows aD Z2→bB aD v 3 cL [y]):MV (Z++Z2) (mi k v F) (fun x=>if x=k then y else g x):=fun aD hr x hx=>by
 rcases(PK hk hn).2 x hx with rfl| ⟨h1,h2⟩
 ·simp only[if_true];exact hv aD hr.right
 simp only[h2,if_false];exact h aD hr.left x h1
theorem MV.add{F:List (an×Value)}{g:an→an}(h:MV Z F g){k:an}{v:Value}(hv:∀aD,Knows aD Z2→bB aD v 3 cL [g k]):MV (Z++Z2) (F++[(k,v)]) g:=fun aD hr x hx=>by
 rcases List.mem_append.1 hx with h1|h1
 ·exact h aD hr.left x h1
 rw[List.mem_singleton] at h1;subst h1;exact hv aD hr.right
theorem aIc{v:Value}(hl:bB ro v 1 cy xs)(hn:xs.length≤1000):dG zT 205 [v] ro [] (fun r Y=>aw r 1 3 cy xs Y):=by
 obtain⟨fy,rX,rV,eO,rfl,tT,lN,mC⟩:=hl
 refine zE<|zD 8<|jsn 22 (a:=fy) (l:=xs.length) (c:=eO)<|zD 1<|js 4 (fy.isNone) (fun h1=>?_) (fun h1=>?_)
 ·
  refine zD 6<|zX (zS) (by rw[rn lN (by assumption)];exact aw.nil _ _ _)
 refine zD 4<|jn fun b5=>zD 1<|iK (sz:=1) (ps:=[]) (qs:=xs) (enc:=cy) (w:= .slice fy xs.length eO) [0] [] [] (bC (b:=b5) (T:=3)) (fun s he _=>⟨fy,rX,rV,eO,rfl,lN,fun i p hp=>(mC i p hp).ext he⟩) (fun p _=>ai rfl) (by simp<;>omega) (fun v7 L7 iF=>?_)
 rw[List.nil_append] at iF
 obtain⟨O2,O1,NU⟩:=iF.form
 subst NU
 refine zD 3<|zR ((.slice O2 (xs).length O1)) [] [0] L7 iF
theorem aUE{v:Value}{xs:List ah}(hl:bB ro v 2 cK xs)(hn:xs.length≤1000):dG zT 244 [v] ro [] (fun r Y=>aw r 2 81 cK xs Y):=by
 obtain⟨fy,rX,rV,eO,rfl,tT,lN,mC⟩:=hl
 refine zE<|zD 8<|jsn 82 (a:=fy) (l:=xs.length) (c:=eO)<|zD 1<|js 4 (fy.isNone) (fun h1=>?_) (fun h1=>?_)
 ·
  refine zD 6<|zX (zS) (by rw[rn lN (by assumption)];exact aw.nil _ _ _)
 refine zD 4<|jn fun b5=>zD 1<|iK (sz:=2) (ps:=[]) (qs:=xs) (enc:=cK) (w:= .slice fy xs.length eO) [0] [] [] (bC (b:=b5) (T:=81)) (fun s he _=>⟨fy,rX,rV,eO,rfl,lN,fun i p hp=>(mC i p hp).ext he⟩) (fun p _=>ai rfl) (by simp<;>omega) (fun v7 L7 iF=>?_)
 rw[List.nil_append] at iF
 obtain⟨O2,O1,NU⟩:=iF.form
 subst NU
 refine zD 3<|zR ((.slice O2 (xs).length O1)) [] [0] L7 iF
theorem aUF{v:Value}{xs:List an}(hl:bB ro v 3 cL xs)(hn:xs.length≤1000):dG zT 180 [v] ro [] (fun r Y=>aw r 3 132 cL xs Y):=by
 obtain⟨fy,rX,rV,eO,rfl,tT,lN,mC⟩:=hl
 refine zE<|zD 8<|jsn 130 (a:=fy) (l:=xs.length) (c:=eO)<|zD 1<|js 4 (fy.isNone) (fun h1=>?_) (fun h1=>?_)
 ·
  refine zD 6<|zX (zS) (by rw[rn lN (by assumption)];exact aw.nil _ _ _)
 refine zD 4<|jn fun b5=>zD 1<|iK (sz:=3) (ps:=[]) (qs:=xs) (enc:=cL) (w:= .slice fy xs.length eO) [0] [] [] (bC (b:=b5) (T:=132)) (fun s he _=>⟨fy,rX,rV,eO,rfl,lN,fun i p hp=>(mC i p hp).ext he⟩) (fun p _=>ai rfl) (by simp<;>omega) (fun v7 L7 iF=>?_)
 rw[List.nil_append] at iF
 obtain⟨O2,O1,NU⟩:=iF.form
 subst NU
 refine zD 3<|zR ((.slice O2 (xs).length O1)) [] [0] L7 iF
theorem aph{v:Value}{S:List (List ah)}(hS:cW ro v S)(hO:eS S):dG zT 207 [.agg ⟨[v]⟩] ro [] (fun r Y=>∃a n c,r= .agg ⟨[.slice a n c]⟩∧∀aD,Knows aD Y→cW aD (.slice a n c) S):=by
 obtain⟨ws,ht,di⟩:=hS
 obtain⟨eR,AK,AI,dS,rfl,AJ,sG,sE⟩:=ht
 have hln:=di.len
 have JL:=hO.two
 refine zE<|zD 2<|jn fun b1=>jn fun b2=>zD 4<|jn fun b3=>jd 11 [0,2]<|nI<|nI<|dw [1,1,0,1,0,0] [] (fun(zz:Nat×Value×Cells×(List Value)×Cells)=>[(2,zP b2),(3,zP b3),(8,.slice eR ws.length dS),(9,zI (ws.length:Int)),(10,zI (zz.1:Int))]) (fun zz=>[.b b3 (.cells ⟨[zz.2.1]⟩ 25 (0,0)),.l zz.2.2.1,.l zz.2.2.2.2,.b b2 (.cells ⟨[zS]⟩ 25 (0,0)),.b b1 (.cells ⟨[.slice eR ws.length dS]⟩ 25 (0,0))]) (fun zz=>(zz.1≤ws.length∧zz.2.2.2.1.length=zz.1)∧aw zz.2.1 1 82 fw zz.2.2.2.1 zz.2.2.1∧∀aD,Knows aD zz.2.2.2.2→de (fun w l=>bB aD w 2 cK l) zz.2.2.2.1 (S.take zz.1)) (fun zz=>ws.length-zz.1) (⟨0,zS,[],[],[]⟩) ⟨⟨by dsimp only;omega,rfl⟩,aw.nil _ _ _,fun _ _=> .nil⟩ [2,1,0,3,4] ?_
 rintro⟨k,vO,LO,es,Z⟩ hI K1 bG rest
 dsimp only at hI
 refine zD 5<|zJ 11 ((k:Int) <(ws.length:Int)) (fun h1=>?_) fun h1=>?_
 ·
  refine zD 6 ?_
  obtain⟨tI,qn⟩:=zG ws k
  refine gX dS 1 sG qn ?_
  obtain⟨l13,aGf,xE⟩:=di.get qn
  obtain aF0:=hO.len _ (zL aGf)
  obtain⟨aDD,aOE,aOA,aDC,rfl,aOC,aOD,aOB⟩:=xE
  refine jl 0 (sE _ _ qn)<|jd 6 [0]<|aS 3 fun As AA zi=>jc (vs:=[.slice aDD l13.length aDC]) [] (aUE (show bB _ _ _ _ _ from ⟨aDD,aOE,aOA,aDC,rfl,aOC,aOD,aOB⟩) (by first|omega| (simp only[List.length_set,zM];omega))) ?_
  rintro v17 Ts qt
  obtain⟨xU,xT,JV⟩:=qt.form
  subst JV
  refine eG zi (zN 1 5)<|aS 4 fun oP oR nK=>jn fun z0=>eG nK (zN 1 6)<|aS 5 fun qU qV pK=>iK (sz:=1) (ps:=es) (qs:=[((.slice xU (l13).length xT):Value)]) (enc:=fw) (w:= .slice (some ⟨z0,0,none⟩) 1 1) [3] [0] [(z0,.cells ⟨([((.slice xU (l13).length xT):Value)].map fw).flatten⟩ 82 (0,0))] (hI.2.1) (fun s _ hZ=>bV [((.slice xU (l13).length xT):Value)] (hZ _ (.head _)) (by intro p hp;rfl)) (by intro p hp;rw[List.mem_singleton] at hp;subst hp;exact ai rfl) (by simp<;>omega) (fun v19 L19 ahO=>?_)
  obtain⟨aMx,aMd,aSw⟩:=ahO.form
  subst aSw
  refine gx pK []<|zD 1<|aS 7 fun yz yF zh=>jd 1 [3]<|fW zh<|zD 2<|ja ((k:Int)+1) (by omega)<|zD 2<|JG bG (⟨k+1,(.slice aMx ((es++[((.slice xU (l13).length xT):Value)])).length aMd),L19,(es++[((.slice xU (l13).length xT):Value)]),Ts++Z⟩) ⟨⟨by dsimp only;omega,by simp only[zM];omega⟩,ahO,fun aD hk=>p5 (hI.2.2 aD hk.right) aGf (qt.jF hk.left)⟩ (by dsimp only;omega) [[3],[0],[2,4],[5],[6]] (Sub.refl _)
 refine jd 5 [0] ?_
 obtain⟨va6,vc6,he6⟩:=hI.2.1.form
 subst he6
 refine jd 3 [3]<|zR (.agg ⟨[(.slice va6 (es).length vc6)]⟩) [3] [1,2] (LO++Z) ⟨_,_,_,rfl,fun aD hk=>⟨es,hI.2.1.jF hk.left,by have:=hI.2.2 aD hk.right;rwa[List.take_of_length_le (by omega)] at this⟩⟩
theorem ZD{v:Value}{S:List (List ah)}(hS:cW ro v S)(hO:eS S):dG zT 199 [.agg ⟨[v]⟩] ro [] (fun r Y=>aw r 3 132 cL (bI S) Y):=by
 obtain⟨ws,ht,di⟩:=hS
 obtain⟨eR,AK,AI,dS,rfl,AJ,sG,sE⟩:=ht
 have hln:=di.len
 have JL:=hO.two
 refine zE<|zD 2<|jn fun b1=>jd 15 [0]<|nI<|dw [1,1,0,1,0,0] [] (fun(zz:Nat×Value×Cells)=>[(2,zS),(3,zz.2.1),(9,.slice eR ws.length dS),(10,zI (ws.length:Int)),(11,zI (zz.1:Int))]) (fun zz=>[.l zz.2.2,.b b1 (.cells ⟨[.slice eR ws.length dS]⟩ 25 (0,0))]) (fun zz=>zz.1≤ws.length∧aw zz.2.1 3 132 cL (RG S zz.1) zz.2.2) (fun zz=>ws.length-zz.1) (⟨0,zS,[]⟩) ⟨by dsimp only;omega,aw.nil _ _ _⟩ [0,1] ?_
 rintro⟨k,vO,LO⟩ hI K1 bG rest
 dsimp only at hI
 refine zD 5<|zJ 12 ((k:Int) <(ws.length:Int)) (fun h1=>?_) fun h1=>?_
 ·
  refine zD 7 ?_
  obtain⟨fI,eH⟩:=zG ws k
  refine gX dS 1 sG eH ?_
  obtain⟨Ro,ab0,N8⟩:=di.get eH
  obtain aRJ:=hO.len _ (zL ab0)
  obtain⟨auQ,aOz,aOx,afj,rfl,aOy,auP,auO⟩:=N8
  refine jl 0 (sE _ _ eH)<|zD 10<|dw [1,1,0,1,0,0,1,1,0,0,1,1,0,0] [K1] (fun(zz:Nat×Value×Cells)=>[(2,zS),(3,zz.2.1),(4,zI (k:Int)),(9,.slice eR ws.length dS),(10,zI (ws.length:Int)),(11,zI (k:Int)),(16,.slice auQ Ro.length afj),(17,zI (Ro.length:Int)),(18,zI (zz.1:Int))]) (fun zz=>[.l zz.2.2,.b b1 (.cells ⟨[.slice eR ws.length dS]⟩ 25 (0,0))]) (fun zz=>zz.1≤Ro.length∧aw zz.2.1 3 132 cL (RG S k++(Ro.take zz.1).map (mD k)) zz.2.2) (fun zz=>Ro.length-zz.1) (⟨0,vO,LO⟩) ⟨by dsimp only;omega,by simpa using hI.2⟩ [0,1] ?_
  rintro⟨i,vO,LO⟩ hJ K2 jV rest
  dsimp only at hJ
  refine zD 5<|zJ 19 ((i:Int) <(Ro.length:Int)) (fun h2=>?_) fun h2=>?_
  ·
   refine zD 6 ?_
   obtain⟨TY,CQ⟩:=zG Ro i
   refine gX afj 2 auP CQ<|jl 0 (auO _ _ CQ)<|jn fun b7=>jd 7 [0,0]<|jn fun b26=>iK (sz:=3) (ps:=(RG S k++(Ro.take i).map (mD k))) (qs:=[(⟨(k:Int),TY.n,TY.l⟩:an)]) (enc:=cL) (w:= .slice (some ⟨b26,0,none⟩) 1 1) [2] [0] [(b26,.cells ⟨([(⟨(k:Int),TY.n,TY.l⟩:an)].map cL).flatten⟩ 132 (0,0))] (hJ.2) (fun s _ hZ=>bV [(⟨(k:Int),TY.n,TY.l⟩:an)] (hZ _ (.head _)) (by intro p hp;rfl)) (fun p _=>ai rfl) (by have:=NO hO k;simp only[List.length_append,List.length_map,List.length_take,List.length_cons,List.length_nil];omega) (fun v27 L27 ahM=>?_)
   obtain⟨aMu,aMa,aSu⟩:=ahM.form
   subst aSu
   refine zD 3<|ja ((i:Int)+1) (by omega)<|zD 2<|bF jV (⟨i+1,(.slice aMu (((RG S k++(Ro.take i).map (mD k))++[(⟨(k:Int),TY.n,TY.l⟩:an)])).length aMa),L27⟩) ⟨by dsimp only;omega,by rw[dP CQ,List.map_append,←List.append_assoc];exact ahM⟩ (by dsimp only;omega) [0,3] (Sub.refl _)
  refine zD 3<|ja ((k:Int)+1) (by omega)<|zD 2<|bF bG (⟨k+1,vO,LO⟩) ⟨by dsimp only;omega,by rw[aws ab0];have:=hJ.2;rwa[List.take_of_length_le (by omega)] at this⟩ (by dsimp only;omega) [0,1] (Sub.refl _)
 refine zD 8<|zR (vO) [] [0] LO (by have:=hI.2;rwa[show k=S.length by omega] at this)
theorem Uc{l:List α}{x:α}(hn:l.Nodup)(h:l[k]?=some x):x∉l.take k:=fun hx=>by
 obtain⟨hk,he⟩:=List.getElem?_eq_some_iff.1 h
 obtain⟨i,hi⟩:=List.getElem?_of_mem hx
 have hik:i <k:=by have:=(List.getElem?_eq_some_iff.1 hi).1;rw[List.length_take] at this;omega
 rw[List.getElem?_take_of_lt hik] at hi
 obtain⟨hi1,R9⟩:=List.getElem?_eq_some_iff.1 hi
 have:=(List.getElem_inj (h₀:=hi1) (h₁:=hk) hn).1 (R9.trans he.symm)
 omega
def xY(n:Int):Bool:= !decide (Int.tmod n 2=0)
def EX(n:Int):Bool:=decide (Int.tmod n 2=0)
theorem rE{p:α→Bool}{l:List α}{x:α}(h:l[i]?=some x):(l.take (i+1)).filter p=(l.take i).filter p++bif p x then [x] else []:=by
 rw[dP h,List.filter_append]
 cases hp:p x<;>simp[hp]
def rB(l:List ah):List (List ah):=[l.filter fun x=>xY x.n,l.filter fun x=>EX x.n]
theorem aiA{l h:List ah}{x:ah}(hh:h∈rB l)(hx:x∈h):x∈l:=by
 simp only[rB,List.mem_cons,List.not_mem_nil,or_false] at hh
 rcases hh with rfl|rfl<;>exact(List.mem_filter.1 hx).1
theorem aiB{l h:List ah}(hh:h∈rB l):h.length≤l.length:=by
 simp only[rB,List.mem_cons,List.not_mem_nil,or_false] at hh
 rcases hh with rfl|rfl<;>exact List.length_filter_le _ _
def Jr(s:Int)(h:List ah):List (an×an):=(h.zip h.reverse).map fun p=>(mD s p.1,mD s p.2)
def aed(s:Int)(l:List ah):List (an×an):=(rB l).flatMap (Jr s)
def Kj(s:Int)(l:List ah):List (an×an):=l.map fun x=>(mD s x,⟨s,if xY x.n=true then x.n+1 else x.n-1,x.l⟩)
def rS(l:List ah):Int:=match l[l.length-1]? with
 |some y=>y.n+Int.tmod y.n 2
 |none=>0
def Lu(s o:Int)(l:List ah)(r:Int):List (an×an):=l.map fun x=>(mD s x,⟨o,x.n+r,x.l⟩)
def gU(u:List (an×an))(x:an):an:=u.foldl (fun y p=>if x=p.1 then p.2 else y) x
theorem ape(u:List (an×an))(a b:an):gU (u++[(a,b)])=fun x=>if x=a then b else gU u x:=by
 funext x;simp only[gU,List.foldl_append,List.foldl_cons,List.foldl_nil]
theorem amK{s:Int}{h:List ah}{x y:ah}(hx:h[i]?=some x) (hy:h[(((h.length:Int)-1)-(i:Int)).toNat]?=some y):(Jr s h)[i]?=some (mD s x,mD s y):=by
 have hi:=(List.getElem?_eq_some_iff.1 hx).1
 have h2:h.reverse[i]?=some y:=by rw[List.getElem?_reverse hi,←hy];congr 1;omega
 have:=(List.getElem?_zip_eq_some (z:=(x,y))).2 ⟨hx,h2⟩
 simp only[Jr,List.getElem?_map,this];rfl
theorem aeU(s:Int)(h:List ah):(Jr s h).length=h.length:=by simp[Jr]
theorem agj{β:Type}{f:α→β}{l:List α}{x:α}(h:l[i]?=some x):(l.map f)[i]?=some (f x):=by rw[List.getElem?_map,h];rfl
theorem apl{β:Type}{f:α→List β}{l:List α}{x:α}(h:l[i]?=some x):(l.take (i+1)).flatMap f=(l.take i).flatMap f++f x:=by rw[dP h,List.flatMap_append,List.flatMap_singleton]
theorem MV.upd{S:List (List ah)}(hO:eS S){F:List (an×Value)}{u:List (an×an)}{l:List ah}{x:ah}{y:an}{b:Nat}{T:TypeId}(h:MV Z F (gU u))(hk:F.map (·.1)=bI S)(hl:S[s]?=some l) (hx:x∈l):
 MV (Z++[(b,.cells ⟨cL y⟩ T (0,0))]) (mi (mD s x) (.slice (some ⟨b,0,none⟩) 1 1) F) (gU (u++[(mD s x,y)]))∧(mi (mD s x) (.slice (some ⟨b,0,none⟩) 1 1) F).map (·.1)=bI S:=by
 have hm:mD s x∈F.map (·.1):=by rw[hk];exact HE hl hx
 have hn:(F.map (·.1)).Nodup:=by rw[hk];exact Vr hO _
 rw[ape]
 exact⟨h.set hm hn fun aD hk=>bU [y] (hk _ (.head _)) (fun _ _=>rfl),(PK hm hn).1.trans hk⟩
theorem Qa{S:List (List ah)}(hO:eS S){F:List (an×Value)}{x:an}{b:Nat}{T:TypeId}(h:MV Z F id)(hk:F.map (·.1)=(bI S).take k)(hx:(bI S)[k]?=some x):
 MV (Z++[(b,.cells ⟨cL x⟩ T (0,0))]) (mi x (.slice (some ⟨b,0,none⟩) 1 1) F) id∧(mi x (.slice (some ⟨b,0,none⟩) 1 1) F).map (·.1)=(bI S).take (k+1):=by
 have:x∉F.map (·.1):=by rw[hk];exact Uc (Vr hO _) hx
 rw[aec this]
 exact⟨h.add fun aD hk=>bU [x] (hk _ (.head _)) (fun _ _=>rfl),by rw[List.map_append,hk,dP hx];rfl⟩
theorem Ma{v:Value}{S:List (List ah)}(hS:cW ro v S)(hO:eS S):dG zT 208 [.agg ⟨[v]⟩] ro [] (fun r Y=>∃rm F LM Z,r= .map (some rm)∧Y=LM++Z∧jU rm oV F LM∧F.map (·.1)=bI S∧MV Z F id):=by
 have yl:=hS
 obtain⟨ws,ht,di⟩:=hS
 obtain⟨eR,AK,AI,dS,rfl,AJ,sG,sE⟩:=ht
 have hln:=di.len
 have JL:=hO.two
 have hhl:=uu hO
 refine zE<|zD 2<|jn fun b1=>zD 4<|jmk oV fun r6 L6 hm6=>jd 6 [1]<|jc (vs:=[.agg ⟨[.slice eR ws.length dS]⟩]) [] (ZD yl hO) ?_
 rintro v8 L8 ho8
 refine BQ ho8<|zD 1<|jf [0] L8 (fun yN bZ iL=>?_)
 have hzh:=ho8.jF iL
 obtain⟨aNi,bbe,bbc,aCx,rfl,bbd,aNh,aNg⟩:=hzh
 refine zD 2<|nI<|dw [1,1,0,1,0,0] [] (fun(zz:Nat×(List (an×Value))×Cells×Cells)=>[(2,(.map none)),(3,(.map (some r6))),(8,.slice aNi ((bI S).length) aCx),(9,zI ((bI S).length:Int)),(10,zI (zz.1:Int))]) (fun(zz:Nat×(List (an×Value))×Cells×Cells)=>[.l zz.2.2.1,.l zz.2.2.2,.b b1 (.cells ⟨[.slice eR ws.length dS]⟩ 25 (0,0))]) (fun(zz:Nat×(List (an×Value))×Cells×Cells)=>zz.1≤(bI S).length∧jU r6 oV zz.2.1 zz.2.2.1∧zz.2.1.map (·.1)=(bI S).take zz.1∧MV zz.2.2.2 zz.2.1 id) (fun(zz:Nat×(List (an×Value))×Cells×Cells)=>(bI S).length-zz.1) (⟨0,[],L6,[]⟩) ⟨by dsimp only;omega,hm6,rfl,fun _ _ _ h=>(by cases h)⟩ [1,0,2] ?_
 rintro⟨k,F,LM,Z⟩ hI K1 bG rest
 dsimp only at hI
 refine zD 5<|zJ 11 ((k:Int) <((bI S).length:Int)) (fun h4=>?_) fun h4=>?_
 ·
  refine zD 6 ?_
  obtain⟨tI,qn⟩:=zG ((bI S)) k
  refine gX aCx 3 aNh qn<|jl 0 (aNg _ _ qn)<|jn fun b5=>jd 6 [0,0,0]<|jn fun b17=>jmu (kv:=oV) (F:=F) (r:=r6) (K:=132) 2 tI (.slice (some ⟨b17,0,none⟩) 1 1) DW hI.2.1 fun Lm5 hm5=>zD 2<|ja ((k:Int)+1) (by omega)<|zD 2<|JG bG (⟨k+1,_,Lm5,Z++[(b17,.cells ⟨[zI tI.h,zI tI.n,zI tI.l]⟩ 132 (0,0))]⟩) ⟨by dsimp only;omega,hm5,(Qa (T:=132) hO hI.2.2.2 hI.2.2.1 qn).2,(Qa (T:=132) hO hI.2.2.2 hI.2.2.1 qn).1⟩ (by dsimp only;omega) [[0],[3,1],[4]] (Sub.refl _)
 refine zD 8<|aK q0.a ((.map (some r6))) [] [0,1] (LM++Z) bZ ⟨_,_,rfl,rfl,_,F,LM,Z,rfl,rfl,hI.2.1,by rw[hI.2.2.1,List.take_of_length_le (by omega)],hI.2.2.2⟩
theorem gAt{h l:Int}:du zT 301 [zI h,zI n,zI l] ro (.agg ⟨[zI h,zI n,zI l]⟩):=by
 refine zE<|zD 2<|jn fun b6=>jd 11 [0]<|zR (.agg ⟨[zI h,zI n,zI l]⟩) [0] [] [] ⟨rfl,rfl⟩
theorem aHZ{x:ah}:du zT 299 [.agg ⟨[zI x.n,zI x.l]⟩] ro (.bool (xY x.n)):=by
 refine zE<|zD 2<|jn fun b1=>jd 11 [0]<|zX (.bool (!decide ((Int.tmod x.n 2)=0))) ⟨rfl,rfl⟩
theorem ajE{v:Value}{l:List ah}(hl:bB ro v 2 cK l)(hn:l.length≤4):dG zT 298 [v,.func (.func 299) ⟨[]⟩ ⟨[]⟩] ro [] (fun r Y=>aw r 2 81 cK (l.filter fun x=>xY x.n) Y):=by
 obtain⟨fy,rX,rV,eO,rfl,tT,lN,mC⟩:=hl
 refine zE<|zD 16<|nI<|dw [1,1,0,1,0,0] [] (fun(zz:Nat×Value×Cells)=>[(1,.func (.func 299) ⟨[]⟩ ⟨[]⟩),(4,zS),(5,zz.2.1),(8,.slice fy l.length eO),(9,zI (l.length:Int)),(10,zI (zz.1:Int))]) (fun zz=>[.l zz.2.2]) (fun zz=>zz.1≤l.length∧aw zz.2.1 2 81 cK ((l.take zz.1).filter fun x=>xY x.n) zz.2.2) (fun zz=>l.length-zz.1) (⟨0,zS,[]⟩) ⟨by dsimp only;omega,aw.nil _ _ _⟩ [0] ?_
 rintro⟨k,vO,LO⟩ hI K1 bG rest
 dsimp only at hI
 refine zD 5<|zJ 11 ((k:Int) <(l.length:Int)) (fun h1=>?_) fun h1=>?_
 ·
  refine zD 6 ?_
  obtain⟨tI,qn⟩:=zG l k
  refine gX eO 2 lN qn<|jl 0 (mC _ _ qn)<|jn fun b7=>jd 6 [0,0]<|jp (vs:=[.agg ⟨[zI tI.n,zI tI.l]⟩]) [] [] (fun aG hs hZ=>(aHZ (x:=tI)))<|zD 1<|js 16 (xY tI.n) (fun h2=>?_) (fun h2=>?_)
  ·
   refine jd 4 [0]<|jn fun IM=>iK (sz:=2) (ps:=((l.take k).filter fun x=>xY x.n)) (qs:=[(⟨tI.n,tI.l⟩:ah)]) (enc:=cK) (w:= .slice (some ⟨IM,0,none⟩) 1 1) [2] [0] [(IM,.cells ⟨([(⟨tI.n,tI.l⟩:ah)].map cK).flatten⟩ 81 (0,0))] (hI.2) (fun s _ hZ=>bV [(⟨tI.n,tI.l⟩:ah)] (hZ _ (.head _)) (by intro p hp;rfl)) (fun p _=>ai rfl) (by have:=List.length_filter_le (fun x:ah=>xY x.n) (l.take k);rw[List.length_take] at this;simp only[List.length_cons,List.length_nil];omega) (fun v20 L20 HC=>?_)
   obtain⟨atp,atf,axG⟩:=HC.form
   subst axG
   refine zD 3<|ja ((k:Int)+1) (by omega)<|zD 2<|bF bG (⟨k+1,(.slice atp ((((l.take k).filter fun x=>xY x.n)++[(⟨tI.n,tI.l⟩:ah)])).length atf),L20⟩) ⟨by dsimp only;omega,by rw[rE qn,show xY tI.n=true from (by assumption)];exact HC⟩ (by dsimp only;omega) [0] (Sub.refl _)
  refine zD 3<|ja ((k:Int)+1) (by omega)<|zD 2<|bF bG (⟨k+1,vO,LO⟩) ⟨by dsimp only;omega,by rw[rE qn,show xY tI.n=false from (by assumption)];simpa using hI.2⟩ (by dsimp only;omega) [1] (Sub.refl _)
 refine zD 8<|zR (vO) [] [0] LO (by have:=hI.2;rwa[List.take_of_length_le (by omega)] at this)
theorem aH6{x:ah}:du zT 300 [.agg ⟨[zI x.n,zI x.l]⟩] ro (.bool (EX x.n)):=by
 refine zE<|zD 2<|jn fun b1=>jd 11 [0]<|zX (.bool (decide ((Int.tmod x.n 2)=0))) ⟨rfl,rfl⟩
theorem ajD{v:Value}{l:List ah}(hl:bB ro v 2 cK l)(hn:l.length≤4):dG zT 298 [v,.func (.func 300) ⟨[]⟩ ⟨[]⟩] ro [] (fun r Y=>aw r 2 81 cK (l.filter fun x=>EX x.n) Y):=by
 obtain⟨fy,rX,rV,eO,rfl,tT,lN,mC⟩:=hl
 refine zE<|zD 16<|nI<|dw [1,1,0,1,0,0] [] (fun(zz:Nat×Value×Cells)=>[(1,.func (.func 300) ⟨[]⟩ ⟨[]⟩),(4,zS),(5,zz.2.1),(8,.slice fy l.length eO),(9,zI (l.length:Int)),(10,zI (zz.1:Int))]) (fun zz=>[.l zz.2.2]) (fun zz=>zz.1≤l.length∧aw zz.2.1 2 81 cK ((l.take zz.1).filter fun x=>EX x.n) zz.2.2) (fun zz=>l.length-zz.1) (⟨0,zS,[]⟩) ⟨by dsimp only;omega,aw.nil _ _ _⟩ [0] ?_
 rintro⟨k,vO,LO⟩ hI K1 bG rest
 dsimp only at hI
 refine zD 5<|zJ 11 ((k:Int) <(l.length:Int)) (fun h1=>?_) fun h1=>?_
 ·
  refine zD 6 ?_
  obtain⟨tI,qn⟩:=zG l k
  refine gX eO 2 lN qn<|jl 0 (mC _ _ qn)<|jn fun b7=>jd 6 [0,0]<|jp (vs:=[.agg ⟨[zI tI.n,zI tI.l]⟩]) [] [] (fun aG hs hZ=>(aH6 (x:=tI)))<|zD 1<|js 16 (EX tI.n) (fun h2=>?_) (fun h2=>?_)
  ·
   refine jd 4 [0]<|jn fun IM=>iK (sz:=2) (ps:=((l.take k).filter fun x=>EX x.n)) (qs:=[(⟨tI.n,tI.l⟩:ah)]) (enc:=cK) (w:= .slice (some ⟨IM,0,none⟩) 1 1) [2] [0] [(IM,.cells ⟨([(⟨tI.n,tI.l⟩:ah)].map cK).flatten⟩ 81 (0,0))] (hI.2) (fun s _ hZ=>bV [(⟨tI.n,tI.l⟩:ah)] (hZ _ (.head _)) (by intro p hp;rfl)) (fun p _=>ai rfl) (by have:=List.length_filter_le (fun x:ah=>EX x.n) (l.take k);rw[List.length_take] at this;simp only[List.length_cons,List.length_nil];omega) (fun v20 L20 HC=>?_)
   obtain⟨atp,atf,axG⟩:=HC.form
   subst axG
   refine zD 3<|ja ((k:Int)+1) (by omega)<|zD 2<|bF bG (⟨k+1,(.slice atp ((((l.take k).filter fun x=>EX x.n)++[(⟨tI.n,tI.l⟩:ah)])).length atf),L20⟩) ⟨by dsimp only;omega,by rw[rE qn,show EX tI.n=true from (by assumption)];exact HC⟩ (by dsimp only;omega) [0] (Sub.refl _)
  refine zD 3<|ja ((k:Int)+1) (by omega)<|zD 2<|bF bG (⟨k+1,vO,LO⟩) ⟨by dsimp only;omega,by rw[rE qn,show EX tI.n=false from (by assumption)];simpa using hI.2⟩ (by dsimp only;omega) [1] (Sub.refl _)
 refine zD 8<|zR (vO) [] [0] LO (by have:=hI.2;rwa[List.take_of_length_le (by omega)] at this)
theorem ZB{v:Value}{S:List (List ah)}{l:List ah}{c2 c3 c4:Int}{F:List (an×Value)}(hS:cW ro v S)(hO:eS S)(hl:S[s]?=some l) (hm:jU rm oV F LM) (hk:F.map (·.1)=bI S) (hM:MV Z F id):dG zT 271 [.agg ⟨[v]⟩,.agg ⟨[zI ck,zI (s:Int),zI c2,zI c3,zI c4,zI c5,zI c6]⟩,(.map (some rm))] ro (LM++Z) (fun r Y=>∃F' L' Z',r= zI 0∧Y=L'++Z'∧jU rm oV F' L'∧F'.map (·.1)=bI S∧MV Z' F' (gU (aed (s:Int) l))):=by
 obtain⟨ws,ht,di⟩:=hS
 obtain⟨eR,AK,AI,dS,rfl,AJ,sG,sE⟩:=ht
 have hln:=di.len
 have JL:=hO.two
 have Hq:=(List.getElem?_eq_some_iff.1 hl).1
 have hlm:=zL hl
 have hll:=hO.len _ hlm
 refine zC [.l LM,.l Z]<|zD 2<|jn fun b3=>jn fun b4=>zD 4<|EG [1,0,1] [] (fun(zz:Nat×Value×Value×Cells×Cells)=>[(2,(.map (some rm))),(4,zP b4),(6,zI 0),(25,.slice (some ⟨zz.1,0,none⟩) 2 2),(26,zI 2),(27,zI 0)]) (fun zz=>[.b zz.1 (.cells ⟨[zz.2.1,zz.2.2.1]⟩ 82 (0,0)),.l zz.2.2.2.1,.l zz.2.2.2.2,.l LM,.l Z,.b b4 (.cells ⟨[zI ck,zI (s:Int),zI c2,zI c3,zI c4,zI c5,zI c6]⟩ 85 (0,0)),.b b3 (.cells ⟨[.slice eR ws.length dS]⟩ 25 (0,0))]) (fun zz=>aw zz.2.1 2 81 cK (l.filter fun x=>xY x.n) zz.2.2.2.1∧aw zz.2.2.1 2 81 cK (l.filter fun x=>EX x.n) zz.2.2.2.2) ?_ (fun K1 bG=>?_)
 ·
  rintro⟨nS,v1,v2,L1,L2⟩ hC rest
  dsimp only at hC
  refine jf [0,1,2] ((nS,.cells ⟨[v1,v2]⟩ 82 (0,0))::(L1++L2)) (fun yN bZ iL=>?_)
  have hhv:=bU (enc:=fw) (T:=82) [v1,v2] (iL _ (.head _)) (fun _ _=>rfl)
  have aGo:de (fun w l=>bB yN w 2 cK l) [v1,v2] (rB l):= .cons (hC.1.jF (Knows.left (Knows.tail iL))) (.cons (hC.2.jF (Knows.right (Knows.tail iL))) .nil)
  have hvl: [v1,v2].length=2:=rfl
  obtain⟨qga,qgb,qgo,qgc,Sc,qgk,qgh,qgl⟩:=hhv
  simp only[Value.slice.injEq] at Sc
  obtain⟨rfl,_,rfl⟩:=Sc
  refine zD 1<|dw [1,0,1,0,0] [] (fun(zz:Nat×(List (an×Value))×Cells×Cells)=>[(2,(.map (some rm))),(4,zP b4),(6,zI 0),(25,.slice (some ⟨nS,0,none⟩) 2 2),(26,zI 2),(27,zI (zz.1:Int))]) (fun(zz:Nat×(List (an×Value))×Cells×Cells)=>[.l zz.2.2.1,.l zz.2.2.2,.b b4 (.cells ⟨[zI ck,zI (s:Int),zI c2,zI c3,zI c4,zI c5,zI c6]⟩ 85 (0,0)),.b b3 (.cells ⟨[.slice eR ws.length dS]⟩ 25 (0,0))]) (fun(zz:Nat×(List (an×Value))×Cells×Cells)=>zz.1≤2∧jU rm oV zz.2.1 zz.2.2.1∧zz.2.1.map (·.1)=bI S∧MV zz.2.2.2 zz.2.1 (gU (((rB l).take zz.1).flatMap (Jr (s:Int))))) (fun(zz:Nat×(List (an×Value))×Cells×Cells)=>2-zz.1) (⟨0,F,LM,Z⟩) ⟨by dsimp only;omega,hm,hk,hM⟩ (zN 0 4) ?_
  rintro⟨k,F,LM,Z⟩ hI K2 jV rest
  dsimp only at hI
  refine zD 5<|zJ 28 ((k:Int) <2) (fun h4=>?_) fun h4=>?_
  ·
   refine zD 6 ?_
   obtain⟨En,A5⟩:=zG ([v1,v2]) k
   refine gX 2 1 qgh A5 ?_
   obtain⟨U9,aw7,h30⟩:=aGo.get A5
   obtain aFX:U9.length≤4:=by have:=aiB (zL aw7);omega
   obtain⟨aDm,bbK,bbI,am0,rfl,bbJ,aDl,aDk⟩:=h30
   refine jl 0 (qgl _ _ A5)<|zD 9<|dw [1,0,1,0,0,1,1,0,0,1,1,0,0] [K2] (fun(zz:Nat×(List (an×Value))×Cells×Cells)=>[(2,(.map (some rm))),(4,zP b4),(6,zI 0),(8,.slice aDm U9.length am0),(25,.slice (some ⟨nS,0,none⟩) 2 2),(26,zI 2),(27,zI (k:Int)),(31,.slice aDm U9.length am0),(32,zI (U9.length:Int)),(33,zI (zz.1:Int))]) (fun(zz:Nat×(List (an×Value))×Cells×Cells)=>[.l zz.2.2.1,.l zz.2.2.2,.b b4 (.cells ⟨[zI ck,zI (s:Int),zI c2,zI c3,zI c4,zI c5,zI c6]⟩ 85 (0,0)),.b b3 (.cells ⟨[.slice eR ws.length dS]⟩ 25 (0,0))]) (fun(zz:Nat×(List (an×Value))×Cells×Cells)=>zz.1≤U9.length∧jU rm oV zz.2.1 zz.2.2.1∧zz.2.1.map (·.1)=bI S∧MV zz.2.2.2 zz.2.1 (gU (((rB l).take k).flatMap (Jr (s:Int))++(Jr (s:Int) U9).take zz.1))) (fun(zz:Nat×(List (an×Value))×Cells×Cells)=>U9.length-zz.1) (⟨0,F,LM,Z⟩) ⟨by dsimp only;omega,hI.2.1,hI.2.2.1,by simpa using hI.2.2.2⟩ (zN 0 4) ?_
   rintro⟨i,F,LM,Z⟩ hJ K3 hK3 rest
   dsimp only at hJ
   refine zD 5<|zJ 34 ((i:Int) <(U9.length:Int)) (fun h5=>?_) fun h5=>?_
   ·
    refine zD 7 ?_
    obtain⟨x36,y5⟩:=zG U9 i
    refine gX am0 2 aDl y5<|jl 0 (aDk _ _ y5)<|jn fun pf=>jd 14 [0,3,0,3]<|ja ((U9.length:Int)-1) (by omega)<|zD 1<|ja (((U9.length:Int)-1)-(i:Int)) (by omega) ?_
    obtain⟨x51,y4⟩:=zG U9 (((((U9.length:Int)-1)-(i:Int))).toNat)
    refine I4 (((U9.length:Int)-1)-(i:Int)) am0 2 aDl y4 (by omega)<|jl 0 (aDk _ _ y4)<|zD 1<|aS 16 fun qU qV pK=>jn fun Ti=>eG pK (zN 1 5)<|aS 17 fun yz yF zh=>jmu (kv:=oV) (F:=F) (r:=rm) (K:=132) 2 (mD (s:Int) x36) (.slice (some ⟨Ti,0,none⟩) 1 1) DW hJ.2.1 fun Lm8 hm8=>fW zh<|zD 2<|ja ((i:Int)+1) (by omega)<|zD 2 ?_
    have hup:=MV.upd (T:=132) (b:=Ti) (y:=mD s x51) hO hJ.2.2.2 hJ.2.2.1 hl (aiA (zL aw7) (zL y5))
    exact JG hK3 (⟨i+1,_,Lm8,Z++[(Ti,.cells ⟨[zI (s:Int),zI x51.n,zI x51.l]⟩ 132 (0,0))]⟩) ⟨by dsimp only;omega,hm8,hup.2,by rw[dP (amK y5 y4),←List.append_assoc];exact hup.1⟩ (by dsimp only;omega) [[0],[3,1],[4],[5]] (Sub.refl _)
   refine zD 3<|ja ((k:Int)+1) (by omega)<|zD 2<|bF jV (⟨k+1,F,LM,Z⟩) ⟨by dsimp only;omega,hJ.2.1,hJ.2.2.1,by have:=hJ.2.2.2;rw[List.take_of_length_le (l:=Jr (s:Int) U9) (by rw[aeU];omega)] at this;rw[apl aw7];exact this⟩ (by dsimp only;omega) (zN 0 4) (Sub.refl _)
  refine zD 7<|aK q0.a (zI 0) [] [0,1] (LM++Z) bZ ⟨_,_,rfl,rfl,F,LM,Z,rfl,rfl,hI.2.1,hI.2.2.1,by have:=hI.2.2.2;rwa[show k=2 by omega] at this⟩
 refine jd 5 [1,0] ?_
 obtain⟨ya,JK⟩:=zG ws s
 refine gX dS 1 sG JK ?_
 obtain⟨l16,aGe,JY⟩:=di.get JK
 obtain bdZ:=hO.len _ (zL aGe)
 obtain ais:l16=l:=Option.some.inj (aGe.symm.trans hl)
 obtain⟨aDB,aOw,aOs,aDA,rfl,aOu,aOv,aOt⟩:=JY
 refine jl 0 (sE _ _ JK)<|jd 4 [1,0] ?_
 obtain⟨sD,uk⟩:=zG ws s
 refine gX dS 1 sG uk ?_
 obtain⟨l23,aGd,Fz⟩:=di.get uk
 obtain bdW:=hO.len _ (zL aGd)
 obtain axF:l23=l:=Option.some.inj (aGd.symm.trans hl)
 obtain⟨aDt,aOk,aOg,aDs,rfl,aOi,aOj,aOh⟩:=Fz
 refine jl 0 (sE _ _ uk)<|zD 1<|aS 6 fun aap aaD V5=>jc (vs:=[.slice aDB l16.length aDA,.func (.func 299) ⟨[]⟩ ⟨[]⟩]) [] (ajE (show bB _ _ _ _ _ from ⟨aDB,aOw,aOs,aDA,rfl,aOu,aOv,aOt⟩) (by omega)) ?_
 rintro v17 Ts qt
 obtain⟨xU,xT,aoJ⟩:=qt.form
 subst aoJ
 refine eG V5 (zN 1 4)<|aS 13 fun ady aej N1=>jc (vs:=[.slice aDt l23.length aDs,.func (.func 300) ⟨[]⟩ ⟨[]⟩]) [] (ajD (show bB _ _ _ _ _ from ⟨aDt,aOk,aOg,aDs,rfl,aOi,aOj,aOh⟩) (by omega)) ?_
 rintro v24 L24 aFF
 obtain⟨ad9,ad2,aSd⟩:=aFF.form
 subst aSd
 refine eG N1 (zN 1 5)<|aS 14 fun aao aaC hL8=>jn fun nS=>eG hL8 (zN 1 6)<|zD 2<|bF bG ⟨nS,(.slice xU (l16.filter fun x=>xY x.n).length xT),(.slice ad9 (l23.filter fun x=>EX x.n).length ad2),Ts,L24⟩ ⟨by rw[←ais];exact qt,by rw[←axF];exact aFF⟩ Nat.zero_lt_one [0,2,1,5,6,3,4] (Sub.refl _)
theorem XG{s:Int}{l:List ah}{x:ah}(h:l[i]?=some x):(Kj s l)[i]?=some (mD s x,⟨s,if xY x.n=true then x.n+1 else x.n-1,x.l⟩):=agj h
theorem aoa{s o r:Int}{l:List ah}{x:ah}(h:l[i]?=some x):(Lu s o l r)[i]?=some (mD s x,⟨o,x.n+r,x.l⟩):=agj h
theorem raise_at{l:List ah}{x:ah}(h:l[(((l.length:Int)-1)).toNat]?=some x):rS l=x.n+Int.tmod x.n 2:=by
 have:l[l.length-1]?=some x:=by rw[←h];congr 1;omega
 simp only[rS,this]
theorem aa5{l:List ah}(h:¬(l.length:Int)>0):rS l=0:=by
 have:l=[]:=List.eq_nil_of_length_eq_zero (by omega)
 subst this;rfl
theorem tm2(h:1≤n∧n≤9):0≤Int.tmod n 2∧Int.tmod n 2≤1:=by
 rw[Int.tmod_eq_emod_of_nonneg (by omega)]
 omega
theorem ae8{l:List ah}(h:∀x∈l,BI x):0≤rS l∧rS l≤10:=by
 unfold rS
 split
 ·rename_i y hy
  have h1:=(h y (zL hy)).1
  have:=tm2 h1
  omega
 omega
theorem SA{v:Value}{S:List (List ah)}{l:List ah}{c2 c3 c4:Int}{F:List (an×Value)}(hS:cW ro v S)(hO:eS S)(hl:S[s]?=some l) (hm:jU rm oV F LM) (hk:F.map (·.1)=bI S) (hM:MV Z F id):dG zT 272 [.agg ⟨[v]⟩,.agg ⟨[zI ck,zI (s:Int),zI c2,zI c3,zI c4,zI c5,zI c6]⟩,(.map (some rm))] ro (LM++Z) (fun r Y=>∃F' L' Z',r= zI 0∧Y=L'++Z'∧jU rm oV F' L'∧F'.map (·.1)=bI S∧MV Z' F' (gU (Kj (s:Int) l))):=by
 obtain⟨ws,ht,di⟩:=hS
 obtain⟨eR,AK,AI,dS,rfl,AJ,sG,sE⟩:=ht
 have hln:=di.len
 have JL:=hO.two
 have Hq:=(List.getElem?_eq_some_iff.1 hl).1
 have hlm:=zL hl
 have hll:=hO.len _ hlm
 refine zC [.l LM,.l Z]<|zD 2<|jn fun b3=>jn fun b4=>jd 9 [1,0] ?_
 obtain⟨fI,eH⟩:=zG ws s
 refine gX dS 1 sG eH ?_
 obtain⟨Ro,ab0,N8⟩:=di.get eH
 obtain aRJ:=hO.len _ (zL ab0)
 obtain NX:Ro=l:=Option.some.inj (ab0.symm.trans hl)
 obtain aQC:=hO.ok _ (zL ab0)
 obtain⟨auQ,aOz,aOx,afj,rfl,aOy,auP,auO⟩:=N8
 refine jl 0 (sE _ _ eH)<|zD 4<|dw [1,0,1,0,0] [] (fun(zz:Nat×(List (an×Value))×Cells×Cells)=>[(2,(.map (some rm))),(4,zP b4),(6,zI 0),(15,.slice auQ Ro.length afj),(16,zI (Ro.length:Int)),(17,zI (zz.1:Int))]) (fun(zz:Nat×(List (an×Value))×Cells×Cells)=>[.l zz.2.2.1,.l zz.2.2.2,.b b4 (.cells ⟨[zI ck,zI (s:Int),zI c2,zI c3,zI c4,zI c5,zI c6]⟩ 85 (0,0)),.b b3 (.cells ⟨[.slice eR ws.length dS]⟩ 25 (0,0))]) (fun(zz:Nat×(List (an×Value))×Cells×Cells)=>zz.1≤Ro.length∧jU rm oV zz.2.1 zz.2.2.1∧zz.2.1.map (·.1)=bI S∧MV zz.2.2.2 zz.2.1 (gU ((Kj (s:Int) l).take zz.1))) (fun(zz:Nat×(List (an×Value))×Cells×Cells)=>Ro.length-zz.1) (⟨0,F,LM,Z⟩) ⟨by dsimp only;omega,hm,hk,hM⟩ [2,3,0,1] ?_
 rintro⟨i,F,LM,Z⟩ hI K1 bG rest
 dsimp only at hI
 refine zD 5<|zJ 18 ((i:Int) <(Ro.length:Int)) (fun h1=>?_) fun h1=>?_
 ·
  refine zD 6 ?_
  obtain⟨BY,sb⟩:=zG Ro i
  refine gX afj 2 auP sb<|jl 0 (auO _ _ sb)<|jn fun b8=>jd 3 [0] ?_
  have JM:=aQC _ (zL sb)
  have aQ4:=JM.1.1
  have aQ3:=JM.1.2
  refine jd 3 [0]<|ja (BY.n-1) (by omega)<|jd 6 [0]<|jp (vs:=[.agg ⟨[zI BY.n,zI BY.l]⟩]) [] [] (fun aG hs hZ=>(aHZ (x:=BY)))<|zD 1<|js 25 (xY BY.n) (fun h2=>?_) (fun h2=>?_)
  ·
   refine jd 4 [0]<|ja (BY.n+1) (by omega)<|jd 13 [3,0,3,0]<|jp (vs:=[zI (s:Int),zI (BY.n+1),zI BY.l]) [] [] (fun aG hs hZ=>gAt)<|aS 11 fun As AA zi=>jn fun vy=>eG zi (zN 1 5)<|aS 12 fun oP oR nK=>jmu (kv:=oV) (F:=F) (r:=rm) (K:=132) 2 (mD (s:Int) BY) (.slice (some ⟨vy,0,none⟩) 1 1) DW hI.2.1 fun Lm5 hm5=>fW nK<|zD 2<|ja ((i:Int)+1) (by omega)<|zD 2 ?_
   have hup:=MV.upd (T:=132) (b:=vy) (y:=⟨s,BY.n+1,BY.l⟩) hO hI.2.2.2 hI.2.2.1 hl (by rw[←NX];exact zL sb)
   exact JG bG (⟨i+1,_,Lm5,Z++[(vy,.cells ⟨[zI (s:Int),zI (BY.n+1),zI BY.l]⟩ 132 (0,0))]⟩) ⟨by dsimp only;omega,hm5,hup.2,by rw[dP (XG (by rw[←NX];exact sb))];rw[if_pos (by assumption)];exact hup.1⟩ (by dsimp only;omega) [[0],[3,1],[4],[5]] (Sub.refl _)
  refine jd 13 [3,0,3,0]<|jp (vs:=[zI (s:Int),zI (BY.n-1),zI BY.l]) [] [] (fun aG hs hZ=>gAt)<|aS 11 fun qU qV pK=>jn fun vy=>eG pK (zN 1 5)<|aS 12 fun yz yF zh=>jmu (kv:=oV) (F:=F) (r:=rm) (K:=132) 2 (mD (s:Int) BY) (.slice (some ⟨vy,0,none⟩) 1 1) DW hI.2.1 fun Lm8 hm8=>fW zh<|zD 2<|ja ((i:Int)+1) (by omega)<|zD 2 ?_
  have hup:=MV.upd (T:=132) (b:=vy) (y:=⟨s,BY.n-1,BY.l⟩) hO hI.2.2.2 hI.2.2.1 hl (by rw[←NX];exact zL sb)
  exact JG bG (⟨i+1,_,Lm8,Z++[(vy,.cells ⟨[zI (s:Int),zI (BY.n-1),zI BY.l]⟩ 132 (0,0))]⟩) ⟨by dsimp only;omega,hm8,hup.2,by rw[dP (XG (by rw[←NX];exact sb))];rw[if_neg (by rw[show xY BY.n=false from (by assumption)];decide)];exact hup.1⟩ (by dsimp only;omega) [[0],[3,1],[4],[5]] (Sub.refl _)
 refine zD 7<|zR (zI 0) [] [0,1] (LM++Z) ⟨F,LM,Z,rfl,rfl,hI.2.1,hI.2.2.1,by have:=hI.2.2.2;rwa[List.take_of_length_le (by simp only[Kj,List.length_map];rw[←NX];omega)] at this⟩
theorem apg{v:Value}{S:List (List ah)}{o:Nat}{l lo:List ah}{c3 c4:Int}{F:List (an×Value)}(hS:cW ro v S)(hO:eS S)(hl:S[s]?=some l) (hm:jU rm oV F LM) (hk:F.map (·.1)=bI S) (hM:MV Z F id) (Ba:S[o]?=some lo):dG zT 274 [.agg ⟨[v]⟩,.agg ⟨[zI ck,zI (s:Int),zI (o:Int),zI c3,zI c4,zI c5,zI c6]⟩,(.map (some rm))] ro (LM++Z) (fun r Y=>∃F' L' Z',r= zI 0∧Y=L'++Z'∧jU rm oV F' L'∧F'.map (·.1)=bI S∧MV Z' F' (gU (Lu (s:Int) (o:Int) l (rS lo)))):=by
 obtain⟨ws,ht,di⟩:=hS
 obtain⟨eR,AK,AI,dS,rfl,AJ,sG,sE⟩:=ht
 have hln:=di.len
 have JL:=hO.two
 have Hq:=(List.getElem?_eq_some_iff.1 hl).1
 have hlm:=zL hl
 have hll:=hO.len _ hlm
 have hso:=(List.getElem?_eq_some_iff.1 Ba).1
 have aF1:=zL Ba
 have hr:=ae8 (hO.ok _ aF1)
 have bd3:=hO.len _ aF1
 refine zC [.l LM,.l Z]<|zD 2<|jn fun b3=>jn fun b4=>jd 8 [1,0] ?_
 obtain⟨Xo,Hl⟩:=zG ws s
 refine gX dS 1 sG Hl ?_
 obtain⟨l18,axa,h18⟩:=di.get Hl
 obtain bdY:=hO.len _ (zL axa)
 obtain NW:l18=l:=Option.some.inj (axa.symm.trans hl)
 obtain jT:=hO.ok _ (zL axa)
 obtain⟨aDz,bbW,bbU,auN,rfl,bbV,aOr,aOq⟩:=h18
 refine jl 0 (sE _ _ Hl)<|jd 4 [1,0] ?_
 obtain⟨vo,tj⟩:=zG ws o
 refine gX dS 1 sG tj ?_
 obtain⟨Va,VF,h24⟩:=di.get tj
 obtain aFZ:=hO.len _ (zL VF)
 obtain VQ:Va=lo:=Option.some.inj (VF.symm.trans Ba)
 obtain aE4:=hO.ok _ (zL VF)
 obtain⟨auM,aDr,aDp,afi,rfl,aDq,am2,am1⟩:=h24
 refine jl 0 (sE _ _ tj)<|zD 10<|ja ((l18.length:Int)+(Va.length:Int)) (by omega)<|zD 2<|zJ 30 (((l18.length:Int)+(Va.length:Int))>8) (fun h1=>?_) fun h1=>?_
 ·
  exfalso;omega
 refine zD 18<|EG [1,1,1,1,1] [] (fun(zz:Int)=>[(2,(.map (some rm))),(4,zP b4),(6,zI 0),(7,.slice aDz l18.length auN),(9,zI zz)]) (fun zz=>[.l LM,.l Z,.b b4 (.cells ⟨[zI ck,zI (s:Int),zI (o:Int),zI c3,zI c4,zI c5,zI c6]⟩ 85 (0,0)),.b b3 (.cells ⟨[.slice eR ws.length dS]⟩ 25 (0,0))]) (fun zz=>zz=rS lo) ?_ (fun K1 bG=>?_)
 ·
  rintro q hQ rest
  refine zD 8<|dw [1,1,1,1,1,0,1,0,0] [] (fun(zz:Nat×(List (an×Value))×Cells×Cells)=>[(2,(.map (some rm))),(4,zP b4),(9,zI q),(49,.slice aDz l18.length auN),(50,zI (l18.length:Int)),(51,zI (zz.1:Int))]) (fun(zz:Nat×(List (an×Value))×Cells×Cells)=>[.l zz.2.2.1,.l zz.2.2.2,.b b4 (.cells ⟨[zI ck,zI (s:Int),zI (o:Int),zI c3,zI c4,zI c5,zI c6]⟩ 85 (0,0)),.b b3 (.cells ⟨[.slice eR ws.length dS]⟩ 25 (0,0))]) (fun(zz:Nat×(List (an×Value))×Cells×Cells)=>zz.1≤l18.length∧jU rm oV zz.2.1 zz.2.2.1∧zz.2.1.map (·.1)=bI S∧MV zz.2.2.2 zz.2.1 (gU ((Lu (s:Int) (o:Int) l (rS lo)).take zz.1))) (fun(zz:Nat×(List (an×Value))×Cells×Cells)=>l18.length-zz.1) (⟨0,F,LM,Z⟩) ⟨by dsimp only;omega,hm,hk,hM⟩ (zN 0 4) ?_
  rintro⟨i,F,LM,Z⟩ hI K2 jV rest
  dsimp only at hI
  refine zD 5<|zJ 52 ((i:Int) <(l18.length:Int)) (fun h2=>?_) fun h2=>?_
  ·
   refine zD 6 ?_
   obtain⟨x53,ahc⟩:=zG l18 i
   refine gX auN 2 aOr ahc<|jl 0 (aOq _ _ ahc)<|jn fun wX=>jd 4 [0] ?_
   have JM:=jT _ (zL ahc)
   have aQ4:=JM.1.1
   have aQ3:=JM.1.2
   refine jd 4 [0]<|ja (x53.n+q) (by omega)<|zD 2<|zJ 59 ((x53.n+q)>40) (fun h3=>?_) fun h3=>?_
   ·
    exfalso;omega
   refine jd 13 [3,0,3,0]<|ja (x53.n+q) (by omega)<|jd 2 [0]<|jp (vs:=[zI (o:Int),zI (x53.n+q),zI x53.l]) [] [] (fun aG hs hZ=>gAt)<|aS 14 fun oP oR nK=>jn fun b74=>eG nK (zN 1 5)<|aS 15 fun qU qV pK=>jmu (kv:=oV) (F:=F) (r:=rm) (K:=132) 2 (mD (s:Int) x53) (.slice (some ⟨b74,0,none⟩) 1 1) DW hI.2.1 fun Lm6 hm6=>fW pK<|zD 2<|ja ((i:Int)+1) (by omega)<|zD 2 ?_
   have hup:=MV.upd (T:=132) (b:=b74) (y:=⟨o,x53.n+q,x53.l⟩) hO hI.2.2.2 hI.2.2.1 hl (by rw[←NW];exact zL ahc)
   exact JG jV (⟨i+1,_,Lm6,Z++[(b74,.cells ⟨[zI (o:Int),zI (x53.n+q),zI x53.l]⟩ 132 (0,0))]⟩) ⟨by dsimp only;omega,hm6,hup.2,by rw[dP (aoa (by rw[←NW];exact ahc))];have e:=hup.1;rw[hQ] at e ⊢;exact e⟩ (by dsimp only;omega) [[0],[3,1],[4],[5]] (Sub.refl _)
  refine zD 7<|zR (zI 0) [] [0,1] (LM++Z) ⟨F,LM,Z,rfl,rfl,hI.2.1,hI.2.2.1,by have:=hI.2.2.2;rwa[List.take_of_length_le (by simp only[Lu,List.length_map];rw[←NW];omega)] at this⟩
 refine zJ 34 ((Va.length:Int)>0) (fun h7=>?_) fun h7=>?_
 ·
  refine zD 4<|ja ((Va.length:Int)-1) (by omega) ?_
  obtain⟨x38,NK⟩:=zG Va ((((Va.length:Int)-1)).toNat)
  refine I4 ((Va.length:Int)-1) afi 2 am2 NK (by omega)<|zD 1<|jl 0 (am1 _ _ NK)<|zD 2<|ja ((Va.length:Int)-1) (by omega) ?_
  obtain⟨x44,JJ⟩:=zG Va ((((Va.length:Int)-1)).toNat)
  refine I4 ((Va.length:Int)-1) afi 2 am2 JJ (by omega)<|zD 1<|jl 0 (am1 _ _ JJ)<|zD 1<|ja (x38.n+(Int.tmod x44.n 2)) (by have h1:=(aE4 _ (zL NK)).1;have h2:=(aE4 _ (zL JJ)).1;have:=tm2 h2;omega) ?_
  refine zD 2 ?_
  have hra:=raise_at NK
  rw[VQ] at hra
  exact bF bG (x38.n+(Int.tmod x44.n 2)) (by rw[←VQ];have e:x38=x44:=Option.some.inj (NK.symm.trans JJ);subst e;exact(raise_at NK).symm) Nat.zero_lt_one [2,3,0,1] (Sub.refl _)
 refine zD 2<|bF bG 0 (by rw[←VQ];exact(aa5 (by omega)).symm) Nat.zero_lt_one [2,3,0,1] (Sub.refl _)
end Go.L
