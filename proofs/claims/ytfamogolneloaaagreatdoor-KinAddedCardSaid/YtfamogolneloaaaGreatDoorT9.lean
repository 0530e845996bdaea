/- Part 9 of the proof. -/
import Derived.Test.YtfamogolneloaaaGreatDoorT8
set_option maxRecDepth 100000
set_option linter.all false
namespace Go.L
open Go Go.Conc Go.Proofs
variable {ro:Nat→Option Obj} {K:aE} {l fi ca:List Value} {W:List (List Int)} {Z LM Z2:Cells} {F:Nat→Nat→Bool} {i k f s rm:Nat} {α κ:Type} {n b ck c5 c6:Int} {g:FuncId} {xs:List Int}
def aIw(n:Nat):Prop:=∀(ro:Nat→Option Obj) (v:Value) (xs:List aj) (L:Cells) (a m b:Int),aw v 8 115 cG xs L→xs.length≤100000→gH xs→(0≤a∧a <m∧m <b∧b≤xs.length)→(b-a).toNat=n→
 dQ zT 170 [v,zI a,zI m,zI b,.func (.func 110) ⟨[]⟩ ⟨[]⟩] ro L (fun _ Y=>xC v xs Y)
theorem aeG{v:Value}{xs:List aj}{L:Cells}{a:Int}(ho:aw v 8 115 cG xs L)(hN:xs.length≤100000)(hP:gH xs)(Cw:(0≤a∧0≤b∧0≤n)∧a+n≤xs.length∧b+n≤xs.length∧a≠b):dQ zT 230 [v,zI a,zI b,zI n,.func (.func 110) ⟨[]⟩ ⟨[]⟩] ro L (fun r Y=>xC v xs Y):=by
 refine zC [.l L]<|zD 5<|dL [1,0,0] [] (fun(zz:Int×(List aj)×Cells)=>[(0,v),(1,zI a),(2,zI b),(3,zI n),(10,zI zz.1)]) (fun zz=>[.l zz.2.2]) (fun zz=>(0≤zz.1∧zz.1≤n)∧aw v 8 115 cG zz.2.1 zz.2.2∧zz.2.1.Perm xs) (fun zz=>(n-zz.1).toNat) (⟨0,xs,L⟩) ⟨by dsimp only;omega,ho,.refl _⟩ [0] ?_
 rintro⟨i,ys,L⟩ hI K1 bE rest
 dsimp only at hI
 have T3:=hI.2.2.length_eq
 have hyp:=hP.perm hI.2.2
 refine zD 7<|zJ 13 (i <n) (fun h1=>?_) fun h1=>?_
 ·
  refine zD 8<|ja (a+i) (by omega)<|zD 3<|ja (b+i) (by omega)<|zD 3<|ja (b+i) (by omega) ?_
  obtain⟨KT,VJ⟩:=zG ys ((b+i).toNat) (by first|omega| (simp only[List.length_set];omega))
  refine qA (b+i) 8 hI.2.1 VJ (Int.toNat_of_nonneg (show 0≤(b+i)∧(b+i) <((ys).length:Int) from (by first|omega| (simp only[List.length_set];omega))).1).symm (fun b28 aSv=>?_)
  refine oQ 0 [0] L (fun s _ hZ=>cJ hI.2.1 aSv hZ VJ)<|zD 3<|ja (a+i) (by omega) ?_
  obtain⟨x34,Oq⟩:=zG ys ((a+i).toNat) (by first|omega| (simp only[List.length_set];omega))
  refine qA (a+i) 8 hI.2.1 Oq (Int.toNat_of_nonneg (show 0≤(a+i)∧(a+i) <((ys).length:Int) from (by first|omega| (simp only[List.length_set];omega))).1).symm (fun b34 aSs=>?_)
  refine oQ 0 [0] L (fun s _ hZ=>cJ hI.2.1 aSs hZ Oq) ?_
  obtain⟨x36,Ag⟩:=zG ys ((a+i).toNat) (by first|omega| (simp only[List.length_set];omega))
  refine qA (a+i) 8 hI.2.1 Ag (Int.toNat_of_nonneg (show 0≤(a+i)∧(a+i) <((ys).length:Int) from (by first|omega| (simp only[List.length_set];omega))).1).symm (fun sE axG=>?_)
  refine aS 21 fun A1 Bn Av=>R6 0 0 [zI KT.past,zI KT.w0,zI KT.w1,zI KT.w2,zI KT.w3,zI KT.gone,zI KT.new,zI KT.ab] KT hI.2.1 axG Ag rfl rfl (Nat.le_of_ble_eq_true rfl) fun L3 ho4=>fR Av [] ?_
  obtain⟨x37,abI⟩:=zG ((ys.set ((a+i).toNat) KT)) ((b+i).toNat) (by first|omega| (simp only[List.length_set];omega))
  refine qA (b+i) 8 ho4 abI (Int.toNat_of_nonneg (show 0≤(b+i)∧(b+i) <(((ys.set ((a+i).toNat) KT)).length:Int) from (by first|omega| (simp only[List.length_set];omega))).1).symm (fun b37 aSq=>?_)
  refine aS 23 fun rZ r8 qM=>R6 0 0 [zI x34.past,zI x34.w0,zI x34.w1,zI x34.w2,zI x34.w3,zI x34.gone,zI x34.new,zI x34.ab] x34 ho4 aSq abI rfl rfl (Nat.le_of_ble_eq_true rfl) fun L6 ho7=>gA qM<|zD 3<|ja (i+1) (by omega)<|zD 2<|bF bE (⟨(i+1),((ys.set ((a+i).toNat) KT).set ((b+i).toNat) x34),L6⟩) ⟨by dsimp only;omega,ho7,(nX Oq VJ).trans hI.2.2⟩ (by dsimp only;omega) [0] (Sub.refl _)
 refine zD 2<|zR (.tuple ⟨[]⟩) [] [0] L ⟨ys,hI.2.2,hI.2.1⟩
theorem aMs{v:Value}{xs:List aj}{L:Cells}{a m:Int}(ho:aw v 8 115 cG xs L)(hN:xs.length≤100000)(hP:gH xs)(Cw:0≤a∧a <m∧m <b∧b≤xs.length):dQ zT 202 [v,zI a,zI m,zI b,.func (.func 110) ⟨[]⟩ ⟨[]⟩] ro L (fun r Y=>xC v xs Y):=by
 refine zC [.l L]<|zD 4<|ja (m-a) (by omega)<|zD 6<|ja (b-m) (by omega)<|zD 4<|dL [1,1,0,0,0] [] (fun(zz:Int×Int×(List aj)×Cells)=>[(0,v),(2,zI m),(4,.func (.func 110) ⟨[]⟩ ⟨[]⟩),(10,zI zz.1),(11,zI zz.2.1)]) (fun zz=>[.l zz.2.2.2]) (fun zz=>((0 <zz.1∧zz.1≤m-a)∧0 <zz.2.1∧zz.2.1≤b-m)∧aw v 8 115 cG zz.2.2.1 zz.2.2.2∧zz.2.2.1.Perm xs) (fun zz=>(zz.1+zz.2.1).toNat) (⟨(m-a),(b-m),xs,L⟩) ⟨by dsimp only;omega,ho,.refl _⟩ [0] ?_
 rintro⟨i,j,ys,L⟩ hI K1 bE rest
 dsimp only at hI
 have T3:=hI.2.2.length_eq
 have hyp:=hP.perm hI.2.2
 refine zD 7<|js 20 (!decide (i=j)) (fun h1=>?_) (fun h1=>?_)
 ·
  replace h1:=of_decide_eq_false (by simpa using h1)
  refine zD 9<|zJ 23 (i>j) (fun h2=>?_) fun h2=>?_
  ·
   refine zD 6<|ja (m-i) (by omega)<|zD 3<|jc (vs:=[v,zI (m-i),zI m,zI j,.func (.func 110) ⟨[]⟩ ⟨[]⟩]) [0] (aeG hI.2.1 (by omega) hyp (by omega)) ?_
   rintro aZ0 Y31 ⟨aKK,awn,aob⟩
   have aW9:=awn.length_eq
   have aW2:=gH.perm hyp awn
   refine zD 4<|ja (i-j) (by omega)<|zD 2<|bF bE (⟨(i-j),j,aKK,Y31⟩) ⟨by dsimp only;omega,aob,(awn.trans hI.2.2)⟩ (by dsimp only;omega) [0] (Sub.refl _)
  refine zD 6<|ja (m-i) (by omega)<|zD 2<|ja (m+j) (by omega)<|zD 1<|ja ((m+j)-i) (by omega)<|zD 2<|jc (vs:=[v,zI (m-i),zI ((m+j)-i),zI i,.func (.func 110) ⟨[]⟩ ⟨[]⟩]) [0] (aeG hI.2.1 (by omega) hyp (by omega)) ?_
  rintro aZY Y46 ⟨aKI,awk,aQp⟩
  have aW7:=awk.length_eq
  have aW0:=gH.perm hyp awk
  refine zD 4<|ja (j-i) (by omega)<|zD 2<|bF bE (⟨i,(j-i),aKI,Y46⟩) ⟨by dsimp only;omega,aQp,(awk.trans hI.2.2)⟩ (by dsimp only;omega) [0] (Sub.refl _)
 replace h1:=of_decide_eq_true (by simpa using h1)
 refine zD 6<|ja (m-i) (by omega)<|zD 3<|jc (vs:=[v,zI (m-i),zI m,zI i,.func (.func 110) ⟨[]⟩ ⟨[]⟩]) [0] (aeG hI.2.1 (by omega) hyp (by omega)) ?_
 rintro aZX Y57 ⟨aY9,awi,aoa⟩
 have aW6:=awi.length_eq
 have aWZ:=gH.perm hyp awi
 refine zD 1<|zR (.tuple ⟨[]⟩) [] [0] Y57 ⟨_,(awi.trans hI.2.2),aoa⟩
theorem aBO{n:Nat}{v:Value}{xs:List aj}{L:Cells}{a m:Int}(ih:∀k,k <n→aIw k)(ho:aw v 8 115 cG xs L)(hN:xs.length≤100000)(hP:gH xs)(Cw:0≤a∧a <m∧m <b∧b≤xs.length)(hn:(b-a).toNat=n):dQ zT 170 [v,zI a,zI m,zI b,.func (.func 110) ⟨[]⟩ ⟨[]⟩] ro L (fun r Y=>xC v xs Y):=by
 refine zC [.l L]<|zD 5<|ja (m-a) (by omega)<|zD 2<|zJ 28 ((m-a)=1) (fun h1=>?_) fun h1=>?_
 ·
  refine zD 13<|dL [0,1,0,1,1,0,0,0] [] (fun(zz:Int×Int)=>[(0,v),(1,zI a),(2,zI m),(3,zI b),(4,.func (.func 110) ⟨[]⟩ ⟨[]⟩),(10,zI zz.1),(11,zI zz.2)]) (fun zz=>[.l L]) (fun zz=>(m≤zz.1∧zz.1≤zz.2)∧zz.2≤b) (fun zz=>(zz.2-zz.1).toNat) (⟨m,b⟩) (by dsimp only;omega) [0] ?_
  rintro⟨i,j⟩ hI K1 bE rest
  dsimp only at hI
  refine zD 7<|zJ 33 (i <j) (fun h2=>?_) fun h2=>?_
  ·
   refine zD 7<|ja (i+j) (by omega)<|zD 6 ?_
   have hh:=Gv (x:=i+j) (by omega)
   refine zD 4 ?_
   obtain⟨x43,avR⟩:=zG xs ((IntKind.i64.wrap (aV .u64 (IntKind.u64.wrap (i+j)) 1)).toNat) (by first|omega| (simp only[List.length_set];omega))
   refine qA (IntKind.i64.wrap (aV .u64 (IntKind.u64.wrap (i+j)) 1)) 8 ho avR (Int.toNat_of_nonneg (show 0≤(IntKind.i64.wrap (aV .u64 (IntKind.u64.wrap (i+j)) 1))∧(IntKind.i64.wrap (aV .u64 (IntKind.u64.wrap (i+j)) 1)) <((xs).length:Int) from (by first|omega| (simp only[List.length_set];omega))).1).symm (fun b43 aSm=>?_)
   refine oQ 0 [0] L (fun s _ hZ=>cJ ho aSm hZ avR)<|zD 2 ?_
   obtain⟨x47,VH⟩:=zG xs (a.toNat) (by first|omega| (simp only[List.length_set];omega))
   refine qA a 8 ho VH (Int.toNat_of_nonneg (show 0≤a∧a <((xs).length:Int) from (by first|omega| (simp only[List.length_set];omega))).1).symm (fun b47 aSl=>?_)
   refine oQ 0 [0] L (fun s _ hZ=>cJ ho aSl hZ VH)<|aS 9 fun A1 Bn Av=>jp (vs:=[.agg ⟨[zI x43.past,zI x43.w0,zI x43.w1,zI x43.w2,zI x43.w3,zI x43.gone,zI x43.new,zI x43.ab]⟩,.agg ⟨[zI x47.past,zI x47.w0,zI x47.w1,zI x47.w2,zI x47.w3,zI x47.gone,zI x47.new,zI x47.ab]⟩]) [] [] (fun aF hs hZ=>(anQ (x:=x43) (y:=x47) (hP _ (zL avR)) (hP _ (zL VH))))<|ep Av [0]<|zD 2<|zJ 50 ((x43.past-x47.past) <0) (fun h4=>?_) fun h4=>?_
   ·
    refine zD 3<|ja ((IntKind.i64.wrap (aV .u64 (IntKind.u64.wrap (i+j)) 1))+1) (by omega)<|zD 2<|bF bE (⟨((IntKind.i64.wrap (aV .u64 (IntKind.u64.wrap (i+j)) 1))+1),j⟩) (by dsimp only;omega) (by dsimp only;omega) [0] (Sub.refl _)
   refine zD 5<|bF bE (⟨i,(IntKind.i64.wrap (aV .u64 (IntKind.u64.wrap (i+j)) 1))⟩) (by dsimp only;omega) (by dsimp only;omega) [0] (Sub.refl _)
  refine zD 9<|dL [0,1,0,1,1,1,0,1,0,0] [] (fun(zz:Int×(List aj)×Cells)=>[(0,v),(1,zI a),(2,zI m),(3,zI b),(4,.func (.func 110) ⟨[]⟩ ⟨[]⟩),(10,zI i),(13,zI zz.1)]) (fun zz=>[.l zz.2.2]) (fun zz=>a≤zz.1∧aw v 8 115 cG zz.2.1 zz.2.2∧zz.2.1.Perm xs) (fun zz=>(i-zz.1).toNat) (⟨a,xs,L⟩) ⟨by dsimp only;omega,ho,.refl _⟩ [0] ?_
  rintro⟨k,ys,L⟩ hJ K3 Zy rest
  dsimp only at hJ
  have T3:=hJ.2.2.length_eq
  have hyp:=hP.perm hJ.2.2
  refine zD 5<|ja (i-1) (by omega)<|zD 2<|zJ 58 (k <(i-1)) (fun h5=>?_) fun h5=>?_
  ·
   refine zD 9<|ja (k+1) (by omega)<|zD 2<|ja (k+1) (by omega) ?_
   obtain⟨Uk,abH⟩:=zG ys ((k+1).toNat) (by first|omega| (simp only[List.length_set];omega))
   refine qA (k+1) 8 hJ.2.1 abH (Int.toNat_of_nonneg (show 0≤(k+1)∧(k+1) <((ys).length:Int) from (by first|omega| (simp only[List.length_set];omega))).1).symm (fun b69 axE=>?_)
   refine oQ 0 [0] L (fun s _ hZ=>cJ hJ.2.1 axE hZ abH)<|zD 2 ?_
   obtain⟨x73,abG⟩:=zG ys (k.toNat) (by first|omega| (simp only[List.length_set];omega))
   refine qA k 8 hJ.2.1 abG (Int.toNat_of_nonneg (show 0≤k∧k <((ys).length:Int) from (by first|omega| (simp only[List.length_set];omega))).1).symm (fun b73 aSg=>?_)
   refine oQ 0 [0] L (fun s _ hZ=>cJ hJ.2.1 aSg hZ abG) ?_
   obtain⟨x75,VG⟩:=zG ys (k.toNat) (by first|omega| (simp only[List.length_set];omega))
   refine qA k 8 hJ.2.1 VG (Int.toNat_of_nonneg (show 0≤k∧k <((ys).length:Int) from (by first|omega| (simp only[List.length_set];omega))).1).symm (fun b75 aSe=>?_)
   refine aS 15 fun sL sR qL=>R6 0 0 [zI Uk.past,zI Uk.w0,zI Uk.w1,zI Uk.w2,zI Uk.w3,zI Uk.gone,zI Uk.new,zI Uk.ab] Uk hJ.2.1 aSe VG rfl rfl (Nat.le_of_ble_eq_true rfl) fun L7 ho8=>fR qL [] ?_
   obtain⟨x76,aEd⟩:=zG ((ys.set k.toNat Uk)) ((k+1).toNat) (by first|omega| (simp only[List.length_set];omega))
   refine qA (k+1) 8 ho8 aEd (Int.toNat_of_nonneg (show 0≤(k+1)∧(k+1) <(((ys.set k.toNat Uk)).length:Int) from (by first|omega| (simp only[List.length_set];omega))).1).symm (fun b76 aSd=>?_)
   refine aS 17 fun A0 Bm Au=>R6 0 0 [zI x73.past,zI x73.w0,zI x73.w1,zI x73.w2,zI x73.w3,zI x73.gone,zI x73.new,zI x73.ab] x73 ho8 aSd aEd rfl rfl (Nat.le_of_ble_eq_true rfl) fun L10 aww=>gA Au<|zD 3<|ja (k+1) (by omega)<|zD 2<|bF Zy (⟨(k+1),((ys.set k.toNat Uk).set ((k+1).toNat) x73),L10⟩) ⟨by dsimp only;omega,aww,(nX abG abH).trans hJ.2.2⟩ (by dsimp only;omega) [0] (Sub.refl _)
  refine zD 3<|zR (.tuple ⟨[]⟩) [] [0] L ⟨_,hJ.2.2,hJ.2.1⟩
 refine zD 7<|ja (b-m) (by omega)<|zD 2<|zJ 80 ((b-m)=1) (fun EP=>?_) fun EP=>?_
 ·
  refine zD 13<|dL [1,0,1,0,1,1,0,0,0] [] (fun(zz:Int×Int)=>[(0,v),(1,zI a),(2,zI m),(3,zI b),(4,.func (.func 110) ⟨[]⟩ ⟨[]⟩),(14,zI zz.1),(15,zI zz.2)]) (fun zz=>[.l L]) (fun zz=>(a≤zz.1∧zz.1≤zz.2)∧zz.2≤m) (fun zz=>(zz.2-zz.1).toNat) (⟨a,m⟩) (by dsimp only;omega) [0] ?_
  rintro⟨i,j⟩ hI K6 hK6 rest
  dsimp only at hI
  refine zD 7<|zJ 85 (i <j) (fun Cz=>?_) fun Cz=>?_
  ·
   refine zD 7<|ja (i+j) (by omega)<|zD 6 ?_
   have hh:=Gv (x:=i+j) (by omega)
   refine zD 4 ?_
   obtain⟨x95,avM⟩:=zG xs (m.toNat) (by first|omega| (simp only[List.length_set];omega))
   refine qA m 8 ho avM (Int.toNat_of_nonneg (show 0≤m∧m <((xs).length:Int) from (by first|omega| (simp only[List.length_set];omega))).1).symm (fun b95 aR9=>?_)
   refine oQ 0 [0] L (fun s _ hZ=>cJ ho aR9 hZ avM)<|zD 2 ?_
   obtain⟨x99,avK⟩:=zG xs ((IntKind.i64.wrap (aV .u64 (IntKind.u64.wrap (i+j)) 1)).toNat) (by first|omega| (simp only[List.length_set];omega))
   refine qA (IntKind.i64.wrap (aV .u64 (IntKind.u64.wrap (i+j)) 1)) 8 ho avK (Int.toNat_of_nonneg (show 0≤(IntKind.i64.wrap (aV .u64 (IntKind.u64.wrap (i+j)) 1))∧(IntKind.i64.wrap (aV .u64 (IntKind.u64.wrap (i+j)) 1)) <((xs).length:Int) from (by first|omega| (simp only[List.length_set];omega))).1).symm (fun b99 aR8=>?_)
   refine oQ 0 [0] L (fun s _ hZ=>cJ ho aR8 hZ avK)<|aS 9 fun adk aea OI=>jp (vs:=[.agg ⟨[zI x95.past,zI x95.w0,zI x95.w1,zI x95.w2,zI x95.w3,zI x95.gone,zI x95.new,zI x95.ab]⟩,.agg ⟨[zI x99.past,zI x99.w0,zI x99.w1,zI x99.w2,zI x99.w3,zI x99.gone,zI x99.new,zI x99.ab]⟩]) [] [] (fun aF hs hZ=>(anQ (x:=x95) (y:=x99) (hP _ (zL avM)) (hP _ (zL avK))))<|ep OI [0]<|zD 3<|js 103 (!(decide ((x95.past-x99.past) <0))) (fun Ix=>?_) (fun Ix=>?_)
   ·
    try simp only[zB] at Ix
    refine zD 3<|ja ((IntKind.i64.wrap (aV .u64 (IntKind.u64.wrap (i+j)) 1))+1) (by omega)<|zD 2<|bF hK6 (⟨((IntKind.i64.wrap (aV .u64 (IntKind.u64.wrap (i+j)) 1))+1),j⟩) (by dsimp only;omega) (by dsimp only;omega) [0] (Sub.refl _)
   try simp only[zB] at Ix
   refine zD 5<|bF hK6 (⟨i,(IntKind.i64.wrap (aV .u64 (IntKind.u64.wrap (i+j)) 1))⟩) (by dsimp only;omega) (by dsimp only;omega) [0] (Sub.refl _)
  refine zD 9<|dL [1,0,1,0,1,1,1,0,1,0,0] [] (fun(zz:Int×(List aj)×Cells)=>[(0,v),(1,zI a),(2,zI m),(3,zI b),(4,.func (.func 110) ⟨[]⟩ ⟨[]⟩),(14,zI i),(17,zI zz.1)]) (fun zz=>[.l zz.2.2]) (fun zz=>(a≤i∧zz.1≤m)∧aw v 8 115 cG zz.2.1 zz.2.2∧zz.2.1.Perm xs) (fun zz=>(zz.1-i).toNat) (⟨m,xs,L⟩) ⟨by dsimp only;omega,ho,.refl _⟩ [0] ?_
  rintro⟨k,ys,L⟩ hJ K8 hK8 rest
  dsimp only at hJ
  have T3:=hJ.2.2.length_eq
  have hyp:=hP.perm hJ.2.2
  refine zD 7<|zJ 110 (k>i) (fun SV=>?_) fun SV=>?_
  ·
   refine zD 9<|ja (k-1) (by omega)<|zD 2<|ja (k-1) (by omega) ?_
   obtain⟨CI,aha⟩:=zG ys ((k-1).toNat) (by first|omega| (simp only[List.length_set];omega))
   refine qA (k-1) 8 hJ.2.1 aha (Int.toNat_of_nonneg (show 0≤(k-1)∧(k-1) <((ys).length:Int) from (by first|omega| (simp only[List.length_set];omega))).1).symm (fun be6 aGl=>?_)
   refine oQ 0 [0] L (fun s _ hZ=>cJ hJ.2.1 aGl hZ aha)<|zD 2 ?_
   obtain⟨J4,ag9⟩:=zG ys (k.toNat) (by first|omega| (simp only[List.length_set];omega))
   refine qA k 8 hJ.2.1 ag9 (Int.toNat_of_nonneg (show 0≤k∧k <((ys).length:Int) from (by first|omega| (simp only[List.length_set];omega))).1).symm (fun be5 aGk=>?_)
   refine oQ 0 [0] L (fun s _ hZ=>cJ hJ.2.1 aGk hZ ag9) ?_
   obtain⟨aZh,arf⟩:=zG ys (k.toNat) (by first|omega| (simp only[List.length_set];omega))
   refine qA k 8 hJ.2.1 arf (Int.toNat_of_nonneg (show 0≤k∧k <((ys).length:Int) from (by first|omega| (simp only[List.length_set];omega))).1).symm (fun be4 aGj=>?_)
   refine aS 15 fun Ni Nt KD=>R6 0 0 [zI CI.past,zI CI.w0,zI CI.w1,zI CI.w2,zI CI.w3,zI CI.gone,zI CI.new,zI CI.ab] CI hJ.2.1 aGj arf rfl rfl (Nat.le_of_ble_eq_true rfl) fun L18 aE4=>fR KD [] ?_
   obtain⟨aZg,ag8⟩:=zG ((ys.set k.toNat CI)) ((k-1).toNat) (by first|omega| (simp only[List.length_set];omega))
   refine qA (k-1) 8 aE4 ag8 (Int.toNat_of_nonneg (show 0≤(k-1)∧(k-1) <(((ys.set k.toNat CI)).length:Int) from (by first|omega| (simp only[List.length_set];omega))).1).symm (fun Pu aGi=>?_)
   refine aS 17 fun yG yI qN=>R6 0 0 [zI J4.past,zI J4.w0,zI J4.w1,zI J4.w2,zI J4.w3,zI J4.gone,zI J4.new,zI J4.ab] J4 aE4 aGi ag8 rfl rfl (Nat.le_of_ble_eq_true rfl) fun L21 aQv=>gA qN<|zD 3<|ja (k-1) (by omega)<|zD 2<|bF hK8 (⟨(k-1),((ys.set k.toNat CI).set ((k-1).toNat) J4),L21⟩) ⟨by dsimp only;omega,aQv,(nX ag9 aha).trans hJ.2.2⟩ (by dsimp only;omega) [0] (Sub.refl _)
  refine zD 3<|zR (.tuple ⟨[]⟩) [] [0] L ⟨_,hJ.2.2,hJ.2.1⟩
 refine zD 6<|ja (a+b) (by omega)<|zD 6 ?_
 have bc3:=Gv (x:=a+b) (by omega)
 refine zD 3<|ja ((IntKind.i64.wrap (aV .u64 (IntKind.u64.wrap (a+b)) 1))+m) (by omega)<|zD 14<|EL [1,1,1,1,1,1] [] (fun(zz:Int×Int)=>[(0,v),(1,zI a),(2,zI m),(3,zI b),(4,.func (.func 110) ⟨[]⟩ ⟨[]⟩),(18,zI (IntKind.i64.wrap (aV .u64 (IntKind.u64.wrap (a+b)) 1))),(19,zI ((IntKind.i64.wrap (aV .u64 (IntKind.u64.wrap (a+b)) 1))+m)),(20,zI zz.1),(21,zI zz.2)]) (fun zz=>[.l L]) (fun zz=>(a≤zz.1∧zz.1≤zz.2)∧zz.2≤b∧a≤((IntKind.i64.wrap (aV .u64 (IntKind.u64.wrap (a+b)) 1))+m)-zz.2∧((IntKind.i64.wrap (aV .u64 (IntKind.u64.wrap (a+b)) 1))+m)-zz.1≤b) ?_ (fun K11 aoO=>?_)
 ·
  rintro⟨s0,r0⟩ hC rest
  dsimp only at hC
  refine zD 3<|ja (((IntKind.i64.wrap (aV .u64 (IntKind.u64.wrap (a+b)) 1))+m)-1) (by omega)<|zD 4<|dL [1,1,1,1,1,1,1,0,0,0] [] (fun(zz:Int×Int)=>[(0,v),(1,zI a),(2,zI m),(3,zI b),(4,.func (.func 110) ⟨[]⟩ ⟨[]⟩),(18,zI (IntKind.i64.wrap (aV .u64 (IntKind.u64.wrap (a+b)) 1))),(19,zI ((IntKind.i64.wrap (aV .u64 (IntKind.u64.wrap (a+b)) 1))+m)),(20,zI zz.1),(21,zI zz.2),(22,zI (((IntKind.i64.wrap (aV .u64 (IntKind.u64.wrap (a+b)) 1))+m)-1))]) (fun zz=>[.l L]) (fun zz=>(a≤zz.1∧zz.1≤zz.2)∧zz.2≤b∧a≤((IntKind.i64.wrap (aV .u64 (IntKind.u64.wrap (a+b)) 1))+m)-zz.2∧((IntKind.i64.wrap (aV .u64 (IntKind.u64.wrap (a+b)) 1))+m)-zz.1≤b) (fun zz=>(zz.2-zz.1).toNat) (⟨s0,r0⟩) hC [0] ?_
  rintro⟨sx,r⟩ hK K12 aoN rest
  dsimp only at hK
  refine zD 7<|zJ 151 (sx <r) (fun Gw=>?_) fun Gw=>?_
  ·
   refine zD 7<|ja (sx+r) (by omega)<|zD 6 ?_
   have hsr:=Gv (x:=sx+r) (by omega)
   refine zD 5<|ja ((((IntKind.i64.wrap (aV .u64 (IntKind.u64.wrap (a+b)) 1))+m)-1)-(IntKind.i64.wrap (aV .u64 (IntKind.u64.wrap (sx+r)) 1))) (by omega) ?_
   obtain⟨J3,ag5⟩:=zG xs (((((IntKind.i64.wrap (aV .u64 (IntKind.u64.wrap (a+b)) 1))+m)-1)-(IntKind.i64.wrap (aV .u64 (IntKind.u64.wrap (sx+r)) 1))).toNat) (by first|omega| (simp only[List.length_set];omega))
   refine qA ((((IntKind.i64.wrap (aV .u64 (IntKind.u64.wrap (a+b)) 1))+m)-1)-(IntKind.i64.wrap (aV .u64 (IntKind.u64.wrap (sx+r)) 1))) 8 ho ag5 (Int.toNat_of_nonneg (show 0≤((((IntKind.i64.wrap (aV .u64 (IntKind.u64.wrap (a+b)) 1))+m)-1)-(IntKind.i64.wrap (aV .u64 (IntKind.u64.wrap (sx+r)) 1)))∧((((IntKind.i64.wrap (aV .u64 (IntKind.u64.wrap (a+b)) 1))+m)-1)-(IntKind.i64.wrap (aV .u64 (IntKind.u64.wrap (sx+r)) 1))) <((xs).length:Int) from (by first|omega| (simp only[List.length_set];omega))).1).symm (fun be2 aGg=>?_)
   refine oQ 0 [0] L (fun s _ hZ=>cJ ho aGg hZ ag5)<|zD 2 ?_
   obtain⟨J2,ag4⟩:=zG xs ((IntKind.i64.wrap (aV .u64 (IntKind.u64.wrap (sx+r)) 1)).toNat) (by first|omega| (simp only[List.length_set];omega))
   refine qA (IntKind.i64.wrap (aV .u64 (IntKind.u64.wrap (sx+r)) 1)) 8 ho ag4 (Int.toNat_of_nonneg (show 0≤(IntKind.i64.wrap (aV .u64 (IntKind.u64.wrap (sx+r)) 1))∧(IntKind.i64.wrap (aV .u64 (IntKind.u64.wrap (sx+r)) 1)) <((xs).length:Int) from (by first|omega| (simp only[List.length_set];omega))).1).symm (fun be1 aGf=>?_)
   refine oQ 0 [0] L (fun s _ hZ=>cJ ho aGf hZ ag4)<|aS 11 fun Xq XF DL=>jp (vs:=[.agg ⟨[zI J3.past,zI J3.w0,zI J3.w1,zI J3.w2,zI J3.w3,zI J3.gone,zI J3.new,zI J3.ab]⟩,.agg ⟨[zI J2.past,zI J2.w0,zI J2.w1,zI J2.w2,zI J2.w3,zI J2.gone,zI J2.new,zI J2.ab]⟩]) [] [] (fun aF hs hZ=>(anQ (x:=J3) (y:=J2) (hP _ (zL ag5)) (hP _ (zL ag4))))<|ep DL [0]<|zD 3<|js 171 (!(decide ((J3.past-J2.past) <0))) (fun h25=>?_) (fun h25=>?_)
   ·
    try simp only[zB] at h25
    refine zD 3<|ja ((IntKind.i64.wrap (aV .u64 (IntKind.u64.wrap (sx+r)) 1))+1) (by omega)<|zD 2<|bF aoN (⟨((IntKind.i64.wrap (aV .u64 (IntKind.u64.wrap (sx+r)) 1))+1),r⟩) (by dsimp only;omega) (by dsimp only;omega) [0] (Sub.refl _)
   try simp only[zB] at h25
   refine zD 5<|bF aoN (⟨sx,(IntKind.i64.wrap (aV .u64 (IntKind.u64.wrap (sx+r)) 1))⟩) (by dsimp only;omega) (by dsimp only;omega) [0] (Sub.refl _)
  refine zD 6<|ja (((IntKind.i64.wrap (aV .u64 (IntKind.u64.wrap (a+b)) 1))+m)-sx) (by omega)<|zD 9<|jj 4 [(0,v),(1,zI a),(2,zI m),(3,zI b),(4,.func (.func 110) ⟨[]⟩ ⟨[]⟩),(18,zI (IntKind.i64.wrap (aV .u64 (IntKind.u64.wrap (a+b)) 1))),(20,zI sx),(24,zI (((IntKind.i64.wrap (aV .u64 (IntKind.u64.wrap (a+b)) 1))+m)-sx)),(185,.bool ((decide (sx <m))&&(decide (m <(((IntKind.i64.wrap (aV .u64 (IntKind.u64.wrap (a+b)) 1))+m)-sx)))))] (fun gN=>?_) (fun hj=>?_)
  rotate_left
  refine js 181 (decide (sx <m)) (fun h26=>?_) (fun h26=>?_)
  ·
   have ajl:=h26
   replace ajl:=of_decide_eq_true ajl
   refine zD 4<|jw 185 (.bool ((decide (sx <m))&&(decide (m <(((IntKind.i64.wrap (aV .u64 (IntKind.u64.wrap (a+b)) 1))+m)-sx))))) (w:= .bool (decide (m <(((IntKind.i64.wrap (aV .u64 (IntKind.u64.wrap (a+b)) 1))+m)-sx)))) (by rw[h26]<;>rfl) ?_
   exact zK hj
  ·
   have ajl:=h26
   replace ajl:=of_decide_eq_false ajl
   refine zD 4<|jw 185 (.bool ((decide (sx <m))&&(decide (m <(((IntKind.i64.wrap (aV .u64 (IntKind.u64.wrap (a+b)) 1))+m)-sx))))) (w:= .bool false) (by rw[h26]<;>rfl) ?_
   exact zK hj
  refine zD 1<|EL [1,1,1,1,1,1,1,1,1,1] [] (fun(zz:(List aj)×Cells)=>[(0,v),(1,zI a),(3,zI b),(4,.func (.func 110) ⟨[]⟩ ⟨[]⟩),(18,zI (IntKind.i64.wrap (aV .u64 (IntKind.u64.wrap (a+b)) 1))),(20,zI sx),(24,zI (((IntKind.i64.wrap (aV .u64 (IntKind.u64.wrap (a+b)) 1))+m)-sx))]) (fun zz=>[.l zz.2]) (fun zz=>zz.1.Perm xs∧aw v 8 115 cG zz.1 zz.2) ?_ (fun K14 KE=>?_)
  ·
   rintro⟨ys,L⟩ hA rest
   dsimp only at hA
   have T3:=hA.1.length_eq
   have hyp:=hP.perm hA.1
   refine zD 7<|jj 4 [(0,v),(1,zI a),(3,zI b),(4,.func (.func 110) ⟨[]⟩ ⟨[]⟩),(18,zI (IntKind.i64.wrap (aV .u64 (IntKind.u64.wrap (a+b)) 1))),(20,zI sx),(24,zI (((IntKind.i64.wrap (aV .u64 (IntKind.u64.wrap (a+b)) 1))+m)-sx)),(199,.bool ((decide (a <sx))&&(decide (sx <(IntKind.i64.wrap (aV .u64 (IntKind.u64.wrap (a+b)) 1))))))] (fun gN=>?_) (fun hj=>?_)
   rotate_left
   refine js 195 (decide (a <sx)) (fun h27=>?_) (fun h27=>?_)
   ·
    have ajk:=h27
    replace ajk:=of_decide_eq_true ajk
    refine zD 4<|jw 199 (.bool ((decide (a <sx))&&(decide (sx <(IntKind.i64.wrap (aV .u64 (IntKind.u64.wrap (a+b)) 1)))))) (w:= .bool (decide (sx <(IntKind.i64.wrap (aV .u64 (IntKind.u64.wrap (a+b)) 1))))) (by rw[h27]<;>rfl) ?_
    exact zK hj
   ·
    have ajk:=h27
    replace ajk:=of_decide_eq_false ajk
    refine zD 4<|jw 199 (.bool ((decide (a <sx))&&(decide (sx <(IntKind.i64.wrap (aV .u64 (IntKind.u64.wrap (a+b)) 1)))))) (w:= .bool false) (by rw[h27]<;>rfl) ?_
    exact zK hj
   refine zD 1<|EL [1,1,1,1,1,1,1,1,1,1,1] [] (fun(zz:(List aj)×Cells)=>[(0,v),(3,zI b),(4,.func (.func 110) ⟨[]⟩ ⟨[]⟩),(18,zI (IntKind.i64.wrap (aV .u64 (IntKind.u64.wrap (a+b)) 1))),(24,zI (((IntKind.i64.wrap (aV .u64 (IntKind.u64.wrap (a+b)) 1))+m)-sx))]) (fun zz=>[.l zz.2]) (fun zz=>zz.1.Perm xs∧aw v 8 115 cG zz.1 zz.2) ?_ (fun K15 aoM=>?_)
   ·
    rintro⟨ys,L⟩ hB rest
    dsimp only at hB
    have T3:=hB.1.length_eq
    have hyp:=hP.perm hB.1
    refine zD 6<|jj 4 [(0,v),(3,zI b),(4,.func (.func 110) ⟨[]⟩ ⟨[]⟩),(18,zI (IntKind.i64.wrap (aV .u64 (IntKind.u64.wrap (a+b)) 1))),(24,zI (((IntKind.i64.wrap (aV .u64 (IntKind.u64.wrap (a+b)) 1))+m)-sx)),(213,.bool ((decide ((IntKind.i64.wrap (aV .u64 (IntKind.u64.wrap (a+b)) 1)) <(((IntKind.i64.wrap (aV .u64 (IntKind.u64.wrap (a+b)) 1))+m)-sx)))&&(decide ((((IntKind.i64.wrap (aV .u64 (IntKind.u64.wrap (a+b)) 1))+m)-sx) <b))))] (fun gN=>?_) (fun hj=>?_)
    rotate_left
    refine js 209 (decide ((IntKind.i64.wrap (aV .u64 (IntKind.u64.wrap (a+b)) 1)) <(((IntKind.i64.wrap (aV .u64 (IntKind.u64.wrap (a+b)) 1))+m)-sx))) (fun h28=>?_) (fun h28=>?_)
    ·
     have ajj:=h28
     replace ajj:=of_decide_eq_true ajj
     refine zD 4<|jw 213 (.bool ((decide ((IntKind.i64.wrap (aV .u64 (IntKind.u64.wrap (a+b)) 1)) <(((IntKind.i64.wrap (aV .u64 (IntKind.u64.wrap (a+b)) 1))+m)-sx)))&&(decide ((((IntKind.i64.wrap (aV .u64 (IntKind.u64.wrap (a+b)) 1))+m)-sx) <b)))) (w:= .bool (decide ((((IntKind.i64.wrap (aV .u64 (IntKind.u64.wrap (a+b)) 1))+m)-sx) <b))) (by rw[h28]<;>rfl) ?_
     exact zK hj
    ·
     have ajj:=h28
     replace ajj:=of_decide_eq_false ajj
     refine zD 4<|jw 213 (.bool ((decide ((IntKind.i64.wrap (aV .u64 (IntKind.u64.wrap (a+b)) 1)) <(((IntKind.i64.wrap (aV .u64 (IntKind.u64.wrap (a+b)) 1))+m)-sx)))&&(decide ((((IntKind.i64.wrap (aV .u64 (IntKind.u64.wrap (a+b)) 1))+m)-sx) <b)))) (w:= .bool false) (by rw[h28]<;>rfl) ?_
     exact zK hj
    refine zD 1<|js 213 ((decide ((IntKind.i64.wrap (aV .u64 (IntKind.u64.wrap (a+b)) 1)) <(((IntKind.i64.wrap (aV .u64 (IntKind.u64.wrap (a+b)) 1))+m)-sx)))&&(decide ((((IntKind.i64.wrap (aV .u64 (IntKind.u64.wrap (a+b)) 1))+m)-sx) <b))) (fun h29=>?_) (fun h29=>?_)
    ·
     try simp only[zB] at h29
     refine zD 7<|jc (vs:=[v,zI (IntKind.i64.wrap (aV .u64 (IntKind.u64.wrap (a+b)) 1)),zI (((IntKind.i64.wrap (aV .u64 (IntKind.u64.wrap (a+b)) 1))+m)-sx),zI b,.func (.func 110) ⟨[]⟩ ⟨[]⟩]) [0] (ih _ (show (b-(IntKind.i64.wrap (aV .u64 (IntKind.u64.wrap (a+b)) 1))).toNat <n by omega) _ _ _ _ _ _ _ hB.2 (by omega) hyp (by omega) rfl) ?_
     rintro aV9 aUJ ⟨aVH,aht,aE0⟩
     have aPf:=aht.length_eq
     have aPb:=gH.perm hyp aht
     refine zD 1<|zR (.tuple ⟨[]⟩) [] [0] aUJ ⟨_,(aht.trans hB.1),aE0⟩
    try simp only[zB] at h29
    refine zD 2<|zR (.tuple ⟨[]⟩) [] [0] L ⟨_,hB.1,hB.2⟩
   refine js 199 ((decide (a <sx))&&(decide (sx <(IntKind.i64.wrap (aV .u64 (IntKind.u64.wrap (a+b)) 1))))) (fun h30=>?_) (fun h30=>?_)
   ·
    try simp only[zB] at h30
    refine zD 7<|jc (vs:=[v,zI a,zI sx,zI (IntKind.i64.wrap (aV .u64 (IntKind.u64.wrap (a+b)) 1)),.func (.func 110) ⟨[]⟩ ⟨[]⟩]) [0] (ih _ (show ((IntKind.i64.wrap (aV .u64 (IntKind.u64.wrap (a+b)) 1))-a).toNat <n by omega) _ _ _ _ _ _ _ hA.2 (by omega) hyp (by omega) rfl) ?_
    rintro aWa aUK ⟨aAB,ahu,aE2⟩
    have aPg:=ahu.length_eq
    have aPc:=gH.perm hyp ahu
    refine zD 1<|bF aoM ⟨aAB,aUK⟩ ⟨(ahu.trans hA.1),aE2⟩ Nat.zero_lt_one [0] (Sub.refl _)
   try simp only[zB] at h30
   refine zD 2<|bF aoM ⟨ys,L⟩ ⟨hA.1,hA.2⟩ Nat.zero_lt_one [0] (Sub.refl _)
  refine js 185 ((decide (sx <m))&&(decide (m <(((IntKind.i64.wrap (aV .u64 (IntKind.u64.wrap (a+b)) 1))+m)-sx)))) (fun h31=>?_) (fun h31=>?_)
  ·
   try simp only[zB] at h31
   refine zD 7<|jc (vs:=[v,zI sx,zI m,zI (((IntKind.i64.wrap (aV .u64 (IntKind.u64.wrap (a+b)) 1))+m)-sx),.func (.func 110) ⟨[]⟩ ⟨[]⟩]) [0] (aMs ho (by omega) hP (by omega)) ?_
   rintro aWb aUL ⟨aAC,ahv,aE3⟩
   have aPh:=ahv.length_eq
   have aPd:=gH.perm hP ahv
   refine zD 1<|bF KE ⟨aAC,aUL⟩ ⟨(ahv.trans (.refl _)),aE3⟩ Nat.zero_lt_one [0] (Sub.refl _)
  try simp only[zB] at h31
  refine zD 2<|bF KE ⟨xs,L⟩ ⟨(.refl _),ho⟩ Nat.zero_lt_one [0] (Sub.refl _)
 refine zJ 140 (m>(IntKind.i64.wrap (aV .u64 (IntKind.u64.wrap (a+b)) 1))) (fun h32=>?_) fun h32=>?_
 ·
  refine zD 5<|ja (((IntKind.i64.wrap (aV .u64 (IntKind.u64.wrap (a+b)) 1))+m)-b) (by omega)<|zD 6<|bF aoO ⟨(((IntKind.i64.wrap (aV .u64 (IntKind.u64.wrap (a+b)) 1))+m)-b),(IntKind.i64.wrap (aV .u64 (IntKind.u64.wrap (a+b)) 1))⟩ (by dsimp only;omega) Nat.zero_lt_one [0] (Sub.refl _)
 refine zD 10<|bF aoO ⟨a,m⟩ (by dsimp only;omega) Nat.zero_lt_one [0] (Sub.refl _)
theorem aMr:∀n,aIw n:=by
 intro n
 induction n using Nat.strongRecOn with
 |_ n ih=>exact fun ro v xs L a m b ho hN hP Cw hn=>aBO ih ho hN hP Cw hn
theorem aqC{v:Value}{xs:List aj}{L:Cells}{a m:Int}(ho:aw v 8 115 cG xs L)(hN:xs.length≤100000)(hP:gH xs)(Cw:0≤a∧a <m∧m <b∧b≤xs.length):dQ zT 170 [v,zI a,zI m,zI b,.func (.func 110) ⟨[]⟩ ⟨[]⟩] ro L (fun _ Y=>xC v xs Y):=
 aMr _ ro v xs L a m b ho hN hP Cw rfl
theorem aBP{v:Value}{xs:List aj}{L:Cells}(ho:aw v 8 115 cG xs L)(hN:xs.length≤100000)(hP:gH xs)(hn:n=xs.length):dQ zT 150 [v,zI n,.func (.func 110) ⟨[]⟩ ⟨[]⟩] ro L (fun r Y=>xC v xs Y):=by
 refine zC [.l L]<|zD 12<|dL [1,1,0,0,0] [] (fun(zz:Int×Int×(List aj)×Cells)=>[(0,v),(1,zI n),(2,.func (.func 110) ⟨[]⟩ ⟨[]⟩),(6,zI 20),(7,zI zz.1),(8,zI zz.2.1)]) (fun zz=>[.l zz.2.2.2]) (fun zz=>(zz.2.1=zz.1+20∧0≤zz.1∧zz.1≤n)∧aw v 8 115 cG zz.2.2.1 zz.2.2.2∧zz.2.2.1.Perm xs) (fun zz=>(n-zz.1).toNat) (⟨0,20,xs,L⟩) ⟨by dsimp only;omega,ho,.refl _⟩ [0] ?_
 rintro⟨a,b,ys,L⟩ hI K1 bE rest
 dsimp only at hI
 have T3:=hI.2.2.length_eq
 have hyp:=hP.perm hI.2.2
 refine zD 7<|zJ 13 (b≤n) (fun h1=>?_) fun h1=>?_
 ·
  refine zD 9<|jc (vs:=[v,zI a,zI b,.func (.func 110) ⟨[]⟩ ⟨[]⟩]) [0] (aBR hI.2.1 (by omega) hyp (by omega)) ?_
  rintro aZ2 Y18 ⟨aKM,Sn,abS⟩
  have aXb:=Sn.length_eq
  have aW4:=gH.perm hyp Sn
  refine zD 9<|ja (b+20) (by omega)<|zD 2<|bF bE (⟨b,(b+20),aKM,Y18⟩) ⟨by dsimp only;omega,abS,(Sn.trans hI.2.2)⟩ (by dsimp only;omega) [0] (Sub.refl _)
 refine zD 8<|jc (vs:=[v,zI a,zI n,.func (.func 110) ⟨[]⟩ ⟨[]⟩]) [0] (aBR hI.2.1 (by omega) hyp (by omega)) ?_
 rintro aZ1 Y27 ⟨aZa,awp,aQt⟩
 have aXa:=awp.length_eq
 have aW3:=gH.perm hyp awp
 refine zD 2<|dL [1,1,1,1,0,0] [] (fun(zz:Int×(List aj)×Cells)=>[(0,v),(1,zI n),(2,.func (.func 110) ⟨[]⟩ ⟨[]⟩),(6,zI zz.1)]) (fun zz=>[.l zz.2.2]) (fun zz=>(20≤zz.1∧zz.1≤1000000)∧aw v 8 115 cG zz.2.1 zz.2.2∧zz.2.1.Perm xs) (fun zz=>(n-zz.1).toNat) (⟨20,_,_⟩) ⟨by dsimp only;omega,aQt,awp.trans hI.2.2⟩ [0] ?_
 rintro⟨bz,ys,L⟩ hJ K2 lG rest
 dsimp only at hJ
 have T3:=hJ.2.2.length_eq
 have hyp:=hP.perm hJ.2.2
 refine zD 7<|zJ 30 (bz <n) (fun h2=>?_) fun h2=>?_
 ·
  refine zD 6<|ja (2*bz) (by omega)<|zD 5<|dL [1,1,1,1,0,0,1,0,1,0,0,0] [K2] (fun(zz:Int×Int×(List aj)×Cells)=>[(0,v),(1,zI n),(2,.func (.func 110) ⟨[]⟩ ⟨[]⟩),(6,zI bz),(7,zI zz.1),(8,zI zz.2.1)]) (fun zz=>[.l zz.2.2.2]) (fun zz=>(zz.2.1=zz.1+2*bz∧0≤zz.1∧zz.1≤n)∧aw v 8 115 cG zz.2.2.1 zz.2.2.2∧zz.2.2.1.Perm xs) (fun zz=>(n-zz.1).toNat) (⟨0,(2*bz),ys,L⟩) ⟨by dsimp only;omega,hJ.2⟩ [0] ?_
  rintro⟨a,b,ys,L⟩ hK K3 Zy rest
  dsimp only at hK
  have T3:=hK.2.2.length_eq
  have hyp:=hP.perm hK.2.2
  refine zD 7<|zJ 35 (b≤n) (fun h3=>?_) fun h3=>?_
  ·
   refine zD 9<|ja (a+bz) (by omega)<|zD 2<|jc (vs:=[v,zI a,zI (a+bz),zI b,.func (.func 110) ⟨[]⟩ ⟨[]⟩]) [0] (aqC hK.2.1 (by omega) hyp (by omega)) ?_
   rintro aZZ Y43 ⟨aKJ,awl,aQq⟩
   have aW8:=awl.length_eq
   have aW1:=gH.perm hyp awl
   refine zD 9<|ja (2*bz) (by omega)<|ja (b+(2*bz)) (by omega)<|zD 2<|bF Zy (⟨b,(b+(2*bz)),aKJ,Y43⟩) ⟨by dsimp only;omega,aQq,(awl.trans hK.2.2)⟩ (by dsimp only;omega) [0] (Sub.refl _)
  refine zD 7<|ja (a+bz) (by omega)<|zD 8<|zJ 54 ((a+bz) <n) (fun h4=>?_) fun h4=>?_
  ·
   refine zD 7<|jc (vs:=[v,zI a,zI (a+bz),zI n,.func (.func 110) ⟨[]⟩ ⟨[]⟩]) [0] (aqC hK.2.1 (by omega) hyp (by omega)) ?_
   rintro aZW Y60 ⟨aKH,ahs,Oy⟩
   have aW5:=ahs.length_eq
   have aWY:=gH.perm hyp ahs
   refine zD 3<|ja (bz*2) (by omega)<|zD 2<|bF lG (⟨(bz*2),aKH,Y60⟩) ⟨by dsimp only;omega,Oy,(ahs.trans hK.2.2)⟩ (by dsimp only;omega) [0] (Sub.refl _)
  refine zD 4<|ja (bz*2) (by omega)<|zD 2<|bF lG (⟨(bz*2),ys,L⟩) ⟨by dsimp only;omega,hK.2.1,hK.2.2⟩ (by dsimp only;omega) [0] (Sub.refl _)
 refine zD 2<|zR (.tuple ⟨[]⟩) [] [0] L ⟨_,hJ.2.2,hJ.2.1⟩
theorem QU{v:Value}{xs:List aj}{L:Cells}(ho:aw v 8 115 cG xs L)(hN:xs.length≤100000)(hP:gH xs):dQ zT 109 [v,.func (.func 110) ⟨[]⟩ ⟨[]⟩] ro L (fun r Y=>xC v xs Y):=by
 refine zC [.l L]<|zD 3<|Fy ho<|zD 1<|jc (vs:=[v,zI (xs.length:Int),.func (.func 110) ⟨[]⟩ ⟨[]⟩]) [0] (aBP ho (by omega) hP rfl) ?_
 rintro rv8 Y8 ⟨ys8,hp8,ho8⟩
 have bb9:=hp8.length_eq
 have bb8:=gH.perm hP hp8
 refine zD 1<|zR (.tuple ⟨[]⟩) [] [0] Y8 ⟨_,hp8,ho8⟩
open Go.ConcR (KK wgBlock WgAt stA smA rd wr)
def akG(o:Oper):Array TypeId:=match o.op with
 | .call c=>c.argTypes
 | .go c=>c.argTypes
 | .defer c=>c.argTypes
 |_=> #[]
noncomputable def kE:rY:=ayv zT 77 2
theorem aDS:kE.cl.OK zT 194 where
 ff:=by kernel_rfl
 fn:=⟨(Tryz.prog.funcs[107]?).getD default,by kernel_rfl,by kernel_rfl,by kernel_rfl⟩
 bf:=⟨by kernel_rfl,by kernel_rfl,by kernel_rfl⟩
 enter:=fun p1 p2=>by kernel_rfl
 op0:=by kernel_rfl
 rest:=⟨1,by kernel_rfl⟩
 size:=by kernel_rfl
 op:=⟨by kernel_rfl,by kernel_rfl,akG kE.cl.oc,by kernel_rfl⟩
theorem avw:∀v,v <2→∀W,∃k,Ja zT 194 v (Frame.enter zT 104 #[zP W,zI 1] .normal)=some (List.replicate k W):=by
 intro v hv W
 match v,hv with
 |0,_=>exact⟨7,by kernel_rfl⟩
 |1,_=>exact⟨4,by kernel_rfl⟩
theorem anP:∀W,∃k,x5 zT 194 2 (Frame.enter zT 106 #[zP W] .deferred)=some (List.replicate k W):=fun W=>⟨27,by kernel_rfl⟩
theorem anO:∀W,∃k,Ca zT 194 2 (Frame.enter zT 108 #[zP W] .normal)=some (List.replicate k W):=fun W=>⟨164,by kernel_rfl⟩
noncomputable def nO(Wg Ch:Nat)(ij:Os)(cH:Array (Nat×ByteArray)):eo (List aj):=⟨zT,194,Wg,Ch,2,zS,ij,cH,fun l v X=>aw v 8 115 cG l X⟩
theorem IB(K:aE)(on:Int)(hb:K.after.length≤4):∀(n a:Nat) (p:Nat→Int),(∀i,0≤p i∧p i≤4)→(jb K on n a p).length≤5^n∧∀q∈jb K on n a p,∀i,0≤q i∧q i≤4
 |0,a,p,hp=>by
  simp only[jb]
  cases mf on p K.facts 0 with
  |true=>exact⟨by simp,fun q hq=>by simp only[cond_true,List.mem_singleton] at hq;subst hq;exact hp⟩
  |false=>exact⟨by simp,fun q hq=>by simp at hq⟩
 |n+1,a,p,hp=>by
  obtain⟨h1,h2⟩:=IB K on hb n (a+1) p hp
  have hg:∀b,b <K.after.length→(nM K on n a p b).length≤5^n∧∀q∈nM K on n a p b,∀i,0≤q i∧q i≤4:=fun b cU=>by
   simp only[nM]
   cases !dF K on a b||qK p a ((b:Int)+1) with
   |true=>exact⟨by simp,fun q hq=>by simp at hq⟩
   |false=>
    simp only[cond_false]
    refine IB K on hb n (a+1) _ fun i=>?_
    simp only[iK]
    split
    ·omega
    exact hp i
  rw[qR]
  refine⟨?_,fun q hq=>?_⟩
  ·rw[List.length_append,List.length_flatMap]
   have:((List.range K.after.length).map fun b=>(nM K on n a p b).length).sum≤K.after.length*5^n:=by
    have key:∀l:List Nat,(∀b∈l,b <K.after.length)→(l.map fun b=>(nM K on n a p b).length).sum≤l.length*5^n:=by
     intro l
     induction l with
     |nil=>intro _;simp
     |cons b l ih=>
      intro hl
      have:=ih fun x hx=>hl x (List.mem_cons_of_mem _ hx)
      have:=(hg b (hl b List.mem_cons_self)).1
      simp only[List.map_cons,List.sum_cons,List.length_cons,Nat.succ_mul]
      omega
    have:=key (List.range K.after.length) fun b hb=>List.mem_range.1 hb
    simpa using this
   have h5:K.after.length*5^n≤4*5^n:=Nat.mul_le_mul_right _ hb
   rw[Nat.pow_succ]
   omega
  rcases List.mem_append.1 hq with hq|hq
  ·exact h2 q hq
  obtain⟨b,mT,hq⟩:=List.mem_flatMap.1 hq
  exact(hg b (List.mem_range.1 mT)).2 q hq
theorem gp(hV:eH K)(on:Int):(aN K on).length≤625∧∀q∈aN K on,∀i,0≤q i∧q i≤4:=by
 obtain⟨h1,h2⟩:=IB K on hV.after.1 K.before.length 0 (fun _=>0) fun _=>by omega
 refine⟨Nat.le_trans h1 ?_,h2⟩
 have:=Nat.pow_le_pow_right (n:=5) (by omega) hV.before.1
 omega
abbrev pV(b:Nat):Value:= zP b
noncomputable def Fu(f i:Nat):Array Oper:=c8 (codeOf zT f) i
noncomputable def aUe(f i:Nat):Code:=((codeOf zT f)[i]?).getD .skip
def mX(K:aE)(on:Int)(keep:aj→Bool)(r:bD)(past:Nat):List aj:=((aN K on).map (cB K r past)).filter keep
noncomputable def Z3(f:Nat):Code:=(((Tryz.prog.funcs[f]?).getD default).body).getD .skip
theorem j6{l:List α}{x:α}(h:l[k]?=some x):l.take (k+1)=l.take k++[x]:=by rw[List.take_succ,h];rfl
theorem ayn:gR [Z3 105]=[.region 0 (Fu 105 0) false,.region 1 (Fu 105 1) false,.region 2 (Fu 105 2) false,aUe 105 3,.region 7 (Fu 105 4) false]:=by kernel_rfl
theorem aDM{rows:List bD}{on:Int}{past:Nat}{J6:bD}{keep:aj→Bool}{Wg Ch:Nat}{ij:Os}{cH:Array (Nat×ByteArray)}{b3 b4 b5 b7 b9:Nat}(hV:eH K)(hF:ov ro f K rows)(Dv:rows[past]?=some J6) (Ii:CC zT g=true)
 (iI:∀aC,Sub ro aC→∀p∈aN K on,dv zT g (fi++[.agg ⟨cG (cB K J6 past p)⟩]++ca) aC (.bool (keep (cB K J6 past p))))
 (g3:ro b3=some (.cells ⟨[pV f]⟩ 104 (0,0))) (g4:ro b4=some (.cells ⟨[.int .u8 on]⟩ 120 (0,0))) (g9:ro b9=some (.cells ⟨[zI (past:Int)]⟩ 3 (0,0))) (g5:ro b5=some (.cells ⟨[.func (.func g) ⟨fi⟩ ⟨ca⟩]⟩ 116 (0,0))) (g7:ro b7=some (.cells ⟨[.chan (some Ch)]⟩ 185 (0,0))):
 eY zT false ((nO Wg Ch ij cH).KR (mX K on keep J6 past)) (born zT {target:= .fn (.func 105) ⟨[pV Wg,pV b3,pV b4,pV b9,pV b5,pV b7]⟩,args:= #[]}) ⟨ro,[]⟩:=by
 have hT:Closed zT false (eY zT false ((nO Wg Ch ij cH).KR (mX K on keep J6 past))):=ez _ _ _
 refine aBH (fn:=(Tryz.prog.funcs[105]?).getD default) (c:=Z3 105) (n:=26) (by kernel_rfl) (by kernel_rfl) (by kernel_rfl) (by kernel_rfl) (by rfl)<|ql hT ayn fun l1 yR=>?_
 refine atx hT (a:=eT (Fu 105 0) 0) (f:=106) (xs:= #[.tmp 0]) (vs:=[pV Wg]) (ats:=akG (eT (Fu 105 0) 0)) (by kernel_rfl) (by kernel_rfl) (by kernel_rfl) (by decide) rfl<|ql hT yR fun l2 pF=>?_
 refine vZ ar hT<|jn fun b6=>zD 1<|yq<|ql hT pF fun l3 JL=>?_
 refine vZ ar hT<|jl (b:=b3) (off:=0) (m:=1) (vs:=[pV f]) 0 ⟨_,_,_,.inl g3,rfl⟩<|jl (b:=b4) (off:=0) (m:=1) (vs:=[.int .u8 on]) 0 ⟨_,_,_,.inl g4,rfl⟩<|jc [] (Ms (on:=on) hF hV) ?_
 rintro _ _ ⟨q1,q2,q3,q4,rfl,rfl⟩
 refine jf [0] [(q1,.cells ⟨[pV f]⟩ 104 (0,0)),(q2,.cells ⟨[.func (.func 127) ⟨[]⟩ ⟨[pV q1,pV q4]⟩]⟩ 221 (0,0)),(q3,.cells ⟨B6 ⟨dF K on⟩⟩ 159 (0,0)),(q4,.cells ⟨[.int .u8 on]⟩ 120 (0,0))] fun aF bL hk1=>zD 1<|aBF<|aqx hT JL fun l4 JK=>?_
 refine aBG ar hT ?_
 have yE:=hF.up bL
 refine zD 1<|nB ?_
 refine jrf [] (YO (on:=on) yE hV (hk1 _ (.head _)) (hk1 _ (.tail _ (.head _))) (hk1 _ (.tail _ (.tail _ (.head _)))) (hk1 _ (.tail _ (.tail _ (.tail _ (.head _)))))) (by rintro _ _ _ _ ⟨_,_,rfl,_⟩;rfl)
  (fun(zz:Value×Cells)=>[.b b6 (.cells ⟨[zz.1]⟩ 108 (0,0)),.l zz.2]) (fun kk=>(fun(zz:Value×Cells)=>aw zz.1 8 115 cG ((((aN K on).take kk).map (cB K J6 past)).filter keep) zz.2)) (fun jump=>(fun(zz:Value×Cells)=>False)) (⟨zS,[]⟩) (aw.nil _ _ _) [1,0] ?_ ?_ ?_
 ·rintro bl bd kk vs LL ⟨v,Lb⟩ kU iJ ⟨p,hp,rfl,rfl⟩ hI oC
  dsimp only at hI
  have aEJ:=zL hp
  have hp4:=(gp hV on).2 p aEJ
  have ahm:=Sub.trans bL oC
  have hlen:((((aN K on).take kk).map (cB K J6 past)).filter keep).length≤625:=by
   refine Nat.le_trans (List.length_filter_le _ _) ?_
   rw[List.length_map,List.length_take]
   have:=(gp hV on).1
   omega
  refine zD 1<|jn fun xv=>jd 2 [0]<|jbI 1<|zD 3<|jl (b:=b3) (off:=0) (m:=1) (vs:=[pV f]) 0 ⟨_,_,_,.inl (ahm _ _ g3),rfl⟩<|jl (b:=b9) (off:=0) (m:=1) (vs:=[zI (past:Int)]) 0 ⟨_,_,_,.inl (ahm _ _ g9),rfl⟩<|jd 1 [0]<|jp (vs:=[pV f,zI (past:Int),.agg ⟨eP4 p⟩]) [] [] (fun yt hs hZ=>arb (hF.up (Sub.trans ahm hs)) hV Dv hp4)<|jn fun AY=>jd 4 [0]<|jl (b:=b5) (off:=0) (m:=1) (vs:=[.func (.func g) ⟨fi⟩ ⟨ca⟩]) 0 ⟨_,_,_,.inl (ahm _ _ g5),rfl⟩<|jd 1 [0]<|jpF (f:=g) (V:= .bool (keep (cB K J6 past p))) (vs:=fi++[Value.agg ⟨cG (cB K J6 past p)⟩]++ca) [] [] Ii (fun yt hs hZ=>iI _ (Sub.trans ahm hs) p aEJ)<|zD 1<|js 19 (keep (cB K J6 past p)) (fun h5=>?_) (fun h5=>?_)
  ·refine jd 4 [3,0]<|jn fun Pt=>gL (sz:=8) (ps:=(((aN K on).take kk).map (cB K J6 past)).filter keep) (qs:=[cB K J6 past p]) (enc:=cG) (w:= .slice (some ⟨Pt,0,none⟩) 1 1) [5] [0] [(Pt,.cells ⟨([cB K J6 past p].map cG).flatten⟩ 115 (0,0))] hI (fun s _ hZ=>bN [cB K J6 past p] (hZ _ (.head _)) (by intro p hp;rfl)) (fun p _=>ah rfl) (by simp only[List.length_cons,List.length_nil];omega) (fun v23 L23 Ak=>?_)
   obtain⟨va,vc,he⟩:=Ak.form
   subst he
   refine jd 2 [5]<|jyn qy0 (Sub.refl _) ⟨.slice va _ vc,L23⟩ (by dsimp only;rw[j6 hp,List.map_append,List.filter_append,List.map_cons,List.map_nil,List.filter_cons_of_pos h5,List.filter_nil];exact Ak) [4,5,0]
  refine zD 2<|jyn qy0 (Sub.refl _) ⟨v,Lb⟩ (by dsimp only;rw[j6 hp,List.map_append,List.filter_append,List.map_cons,List.map_nil,List.filter_cons_of_neg (by rw[h5];simp),List.filter_nil,List.append_nil];exact hI) [2,3,4]
 ·rintro bd ⟨v,Lb⟩ Z hI rfl
  dsimp only at hI
  rw[List.take_length] at hI
  refine aBE<|ql hT JK fun l5 MC=>?_
  have:=gE MC
  subst this
  show TT _ _ (.inRegion (Fu 105 4) (0::[1,2])::[]) _ _ _ _ _
  refine tLd hT (.chan (some Ch)) (a:=eT (Fu 105 4) 0) (x:= .tmp 5) (U:=185) (q:=b7) (by kernel_rfl) (by kernel_rfl) (by kernel_rfl) (by kernel_rfl) (by decide) rfl (fun _ _ _ _=> .inl (bL _ _ g7))<|aMd hT v (a:=eT (Fu 105 4) 1) (x:= .tmp 6) (U:=108) (q:=b6) (by kernel_rfl) (by kernel_rfl) (by kernel_rfl) (by kernel_rfl) (by decide) rfl [2] 108<|aBz (E:=nO Wg Ch ij cH) (a:=eT (Fu 105 4) 2) (sc:= .tmp 24) (sv:= .tmp 25) (v:=v) (Y:=Lb) [3] (by kernel_rfl) (by kernel_rfl) (fun ρ=>by kernel_rfl) (by decide) rfl hI<|XK (ez _ _ _)<|att (E:=nO Wg Ch ij cH) (fn:=(Tryz.prog.funcs[105]?).getD default) (dn:=106) (bd:=bd) (by kernel_rfl) (by kernel_rfl) (by kernel_rfl) (anP Wg).choose_spec xK [0] rfl rfl
 rintro bd ⟨v,Lb⟩ Z jump hS hZ
 exact hS.elim
theorem f26:gR [Z3 77]=[.region 0 kE.o0 false,.region 1 kE.o1 false,.region 2 kE.o2 false,.region 3 kE.o3 false,.block 0 (.loop kE.lb),.region 9 kE.o9 false,.region 10 kE.o10 false,.region 11 kE.o11 false,.block 2 (.loop kE.rb),.region 15 (Fu 77 9) false,.region 16 (Fu 77 10) false,.ret]:=by kernel_rfl
theorem aHp:gR [kE.lb]=[.region 4 kE.o4 false,.cond (.tmp 19) .skip (.exit 0),.block 1 kE.EJ,.region 8 kE.o8 false]:=by kernel_rfl
theorem aT1:gR [kE.EJ]=[.region 5 kE.o5 false,.region 6 kE.o6 false,.region 7 kE.o7 false]:=by kernel_rfl
theorem aHo:gR [kE.rb]=[.region 12 kE.Df false,.cond (.tmp 27) .skip (.exit 2),.block 3 kE.uW]:=by kernel_rfl
theorem aT0:gR [kE.uW]=[.region 13 kE.o13 false,.region 14 kE.o14 false]:=by kernel_rfl
def iU(K:aE)(on:Int)(keep:aj→Bool)(rows:List bD)(n:Nat):List (List aj):=(List.range n).map fun i=>mX K on keep ((rows[i]?).getD ⟨fun _ _=>false⟩) i
theorem Qf{on:Int}{keep:aj→Bool}{rows:List bD}{n:Nat}{r:bD}(h:rows[n]?=some r):iU K on keep rows (n+1)=iU K on keep rows n++[mX K on keep r n]:=by
 simp only[iU,List.range_succ,List.map_append,List.map_cons,List.map_nil,h,Option.getD_some]
theorem ze(K:aE)(on:Int)(keep:aj→Bool)(rows:List bD)(n:Nat):(iU K on keep rows n).length=n:=by simp[iU]
def cW(K:aE)(on:Int)(keep:aj→Bool)(rows:List bD):List aj:=(iU K on keep rows rows.length).flatten
theorem lX(hV:eH K)(on:Int)(keep:aj→Bool){rows:List bD}(hR:rows.length≤2):(cW K on keep rows).length≤1250:=by
 have h1:∀r i,(mX K on keep r i).length≤625:=fun r i=>Nat.le_trans (List.length_filter_le _ _) (by rw[List.length_map];exact(gp hV on).1)
 have key:∀n,(iU K on keep rows n).flatten.length≤n*625:=by
  intro n
  induction n with
  |zero=>simp[iU]
  |succ n ih=>
   have:=h1 ((rows[n]?).getD ⟨fun _ _=>false⟩) n
   simp only[iU,List.range_succ,List.map_append,List.map_cons,List.map_nil,List.flatten_append,List.length_append,List.flatten_cons,List.flatten_nil,List.append_nil] at ih ⊢
   omega
 have:=key rows.length
 have h2:rows.length*625≤2*625:=Nat.mul_le_mul_right _ hR
 exact Nat.le_trans this h2
theorem acL{on:Int}{keep:aj→Bool}{rows:List bD}(hR:rows.length≤2):gH (cW K on keep rows):=by
 intro x hx
 obtain⟨l,hl,hx⟩:=List.mem_flatten.1 hx
 obtain⟨i,hi,rfl⟩:=List.mem_map.1 hl
 have hi:=List.mem_range.1 hi
 obtain⟨p,_,rfl⟩:=List.mem_map.1 (List.mem_filter.1 hx).1
 simp only[cB]
 omega
theorem ajI(a:List (List α))(o:List α)(b:List (List α))(zs:List α):((zs++o)++(a++b).flatten).Perm (zs++(a++o::b).flatten):=by
 simp only[List.flatten_append,List.flatten_cons,List.append_assoc]
 refine .append_left _ ?_
 rw[←List.append_assoc,←List.append_assoc]
 exact .append_right _ List.perm_append_comm
theorem aDR{rows:List bD}{on:Int}{keep:aj→Bool}{fr:Cells}(hV:eH K)(hF:ov ro f K rows)(hR:rows.length≤2)(Ii:CC zT g=true)
 (iI:∀i r,rows[i]?=some r→∀aC,Sub ro aC→∀p∈aN K on,dv zT g (fi++[.agg ⟨cG (cB K r i p)⟩]++ca) aC (.bool (keep (cB K r i p)))):
 Fn (C0 zT) zT 77 ⟨[pV f,.int .u8 on,.func (.func g) ⟨fi⟩ ⟨ca⟩]⟩ ⟨ro,fr⟩ (fun en s'=>∃v Y zs,en= .returned v∧s'=⟨ro,Y++fr⟩∧zs.Perm (cW K on keep rows)∧aw v 8 115 cG zs Y):=by
 rintro main T ⟨rfl,ij,cH,Post,rfl⟩ cl Pd kr _
 have hT:=sV zT ij cH Post
 obtain⟨c0,c1,c2,vc,vh,vr,vb,va,vf,vt,hv,hf,nF,mH,hr,DG,It,KA,bX⟩:=id hF
 obtain⟨nW,Fe,Fc,nD,rfl,Q4,NM,NL⟩:=bX
 refine atr (fn:=(Tryz.prog.funcs[77]?).getD default) (c:=Z3 77) (n:=35) (by kernel_rfl) (by kernel_rfl) (by kernel_rfl) (by rfl)<|ql hT f26 fun l1 yR=>?_
 refine vZ ar hT<|jn fun b3=>jn fun b4=>jn fun b5=>zD 2<|yq<|ql hT yR fun l2 pF=>?_
 show TT _ _ (.inRegion kE.o1 (0::[1,2])::_) _ _ _ _ _
 refine aBA hT (a:=kE.a1) (f:=fun q=> .chan (some q)) (ob:= .chan 0 #[] false 0 0 false) (by kernel_rfl) (by kernel_rfl) (fun e q=>by kernel_rfl) (by decide) rfl fun Ch=>?_
 refine vZ ar hT<|jn fun b7=>jd 2 [0]<|yq<|ql hT pF fun l3 JL=>?_
 show TT _ _ (.inRegion kE.o2 (0::[])::_) _ _ _ _ _
 refine aBA hT (a:=kE.a2) (f:=fun q=> zP q) (ob:=wgBlock 194 0 0) (by kernel_rfl) (by kernel_rfl) (fun e q=>by kernel_rfl) (by decide) rfl fun Wg=>?_
 refine XK hT<|atw (E:=nO Wg Ch ij cH) (Q:=Good zT Post) (tm:=false) 0 2 ((b7,.cells ⟨[.chan (some Ch)]⟩ 185 (0,0))::(b5,.cells ⟨[.func (.func g) ⟨fi⟩ ⟨ca⟩]⟩ 116 (0,0))::(b4,.cells ⟨[.int .u8 on]⟩ 120 (0,0))::(b3,.cells ⟨[pV f]⟩ 104 (0,0))::fr) hT (fun L aF hl ek Wh=>?_)
 have h7:=hl.kn _ (.head _)
 have h5:=hl.kn _ (.tail _ (.head _))
 have h4:=hl.kn _ (.tail _ (.tail _ (.head _)))
 have h3:=hl.kn _ (.tail _ (.tail _ (.tail _ (.head _))))
 dsimp only at h7 h5 h4 h3
 have hM:∀pend os,Closed zT true (TM (nO Wg Ch ij cH) L (Good zT Post) pend false os 0):=fun pend os=>fA (E:=nO Wg Ch ij cH) false os (fun e=>(by cases e))
 have hC:∀os,Closed zT true (TM (nO Wg Ch ij cH) L (Good zT Post) 0 true os 0):=fun os=>fA (E:=nO Wg Ch ij cH) true os (fun _=>rfl)
 refine ql (hM 0 []) JL fun l4 JK=>?_
 refine vZ ar (hM 0 [])<|jl (b:=b3) (off:=0) (m:=1) (vs:=[pV f]) 0 ⟨_,_,_,.inl h3,rfl⟩<|zD 2<|jl (b:=f) (off:=0) (m:=13) (vs:=[c0,c1,c2,vc,vh,vr,vb,va,zI K.gone,zI K.new,zI K.ab,vf,.slice nW rows.length nD]) 12 ⟨_,_,_,.inl (hl.sub _ _ hf),rfl⟩<|zD 3<|yq<|Nw (hM 0 []) JK fun l5 MC=>?_
 refine aqw (hM 0 []) (rest:=[]) rfl fun l6 Gs=>?_
 have:=gE Gs
 subst this
 have loop:∀m i kU,m+i=rows.length→Sub aF kU→(∀kU rest,Sub aF kU→TT (TM (nO Wg Ch ij cH) L (Good zT Post) 0 false (iU K on keep rows rows.length) 0) (fr0 77 .normal) (l5.map .code++[]) (cl::Pd) 35 [] kU (some ⟨.fin .normal,[(7,pV b7),(8,pV Wg)]++rest,[],⟨[],[]⟩⟩))→
  ∀rest,TT (TM (nO Wg Ch ij cH) L (Good zT Post) 0 false (iU K on keep rows i) 0) (fr0 77 .normal) ([kE.lb].map .code++(.inLoop kE.lb::(.inBlock 0::(l5.map .code++[])))) (cl::Pd) 35 [] kU (some ⟨.fin .normal,[(3,pV b3),(4,pV b4),(5,pV b5),(7,pV b7),(8,pV Wg),(17,zI (rows.length:Int)),(18,zI (i:Int))]++rest,[],⟨[],[]⟩⟩):=by
  intro m
  induction m with
  |zero=>
   intro i kU hi hs qI rest
   refine ql (hM 0 _) aHp fun m1 hm1=>?_
   refine vZ ar (hM 0 _)<|zD 2<|yq<|XL (hM 0 _) (t:=false) (q:=decide ((i:Int) <(rows.length:Int))) hm1 (by simp;omega) fun m2 Gr=>?_
   refine aqy (hM 0 _) (k':=l5.map .code++[]) (by rw[qU];simp[exitTo]) ?_
   have:i=rows.length:=by omega
   subst this
   exact tSt (hM 0 _) [(7,pV b7),(8,pV Wg)] [] [] fun rest=>qI kU rest hs
  |succ m ih=>
   intro i kU hi hs qI rest
   obtain⟨r,Dv⟩:∃r,rows[i]?=some r:=⟨_,List.getElem?_eq_getElem (by omega)⟩
   refine ql (hM 0 _) aHp fun m1 hm1=>?_
   refine vZ ar (hM 0 _)<|zD 2<|yq<|XL (hM 0 _) (t:=true) (q:=decide ((i:Int) <(rows.length:Int))) hm1 (by simp;omega) fun m2 Gr=>?_
   refine aqu (hM 0 _)<|Nw (hM 0 _) Gr fun m3 hm3=>?_
   refine ql (hM 0 _) aT1 fun m4 hm4=>?_
   refine vZ ar (hM 0 _)<|zD 1<|jn fun b9=>jd 2 [0]<|yq<|ql (hM 0 _) hm4 fun m5 hm5=>?_
   show TT _ _ (.inRegion kE.o6 [0]::_) _ _ _ _ _
   refine aMg (E:=nO Wg Ch ij cH) (a:=kE.a6) (f:=104) (x:= .tmp 8) (ats:=akG kE.a6) ?_ (by kernel_rfl) (by kernel_rfl) (by kernel_rfl) (lH (by kernel_rfl)) (by decide) rfl (by show _ <2;rw[ze];omega) (by show Ja zT 194 _ _=_;rw[ze];exact(avw i (by omega) Wg).choose_spec) xK
   refine ql (hM 1 _) hm5 fun m6 hm6=>?_
   have:=gE hm6
   subst this
   show TT _ _ (.inRegion kE.o7 (0::[1])::_) _ _ _ _ _
   refine aBx (hM 1 _) (a:=eT kE.o7 0) (.func (.func 105) ⟨[]⟩ ⟨[pV Wg,pV b3,pV b4,pV b9,pV b5,pV b7]⟩) (by kernel_rfl) (by kernel_rfl) (by decide) rfl<|tGo (E:=nO Wg Ch ij cH) (mX K on keep r i) (a:=kE.a7) (f:=105) (y:= .tmp 22) (ca:=[pV Wg,pV b3,pV b4,pV b9,pV b5,pV b7]) (ats:=akG kE.a7) [(b9,.cells ⟨[zI (i:Int)]⟩ 3 (0,0))] (by kernel_rfl) (by kernel_rfl) (by kernel_rfl) (by decide) rfl (fun yt JG Zn=>⟨?_,?_⟩)
   ·have Cz:=Sub.trans hs JG
    have h03:=Sub.trans hl.sub Cz
    exact aDM hV (hF.up h03) Dv Ii (fun aC nE=>iI i r Dv aC (Sub.trans h03 nE)) (Cz _ _ h3) (Cz _ _ h4) (Zn _ (.head _)) (Cz _ _ h5) (Cz _ _ h7)
   rw[←Qf Dv]
   refine XK (hM 0 _) (aqz (hM 0 _) ?_)
   refine ql (hM 0 _) hm3 fun m7 hm7=>?_
   have:=gE hm7
   subst this
   refine vZ ar (hM 0 _)<|ja ((i:Int)+1) (by omega)<|zD 2<|yq<|aem (hM 0 _)<|tSt (hM 0 _) [(3,pV b3),(4,pV b4),(5,pV b5),(7,pV b7),(8,pV Wg),(17,zI (rows.length:Int)),(18,zI ((i+1:Nat):Int))] [] [] fun rest=>ih (i+1) yt (by omega) (Sub.trans hs JG) qI rest
 refine tSt (hM 0 _) [(3,pV b3),(4,pV b4),(5,pV b5),(7,pV b7),(8,pV Wg),(17,zI (rows.length:Int)),(18,zI (((0:Nat)):Int))] [] [] fun rest=>loop rows.length 0 aF (by omega) (Sub.refl _) (fun kU rest oC=>?_) rest
 refine ql (hM 0 _) MC fun l7 DE=>?_
 show TT _ _ (.inRegion kE.o9 (0::[1])::_) _ _ _ _ _
 refine aBx (hM 0 _) (a:=eT kE.o9 0) (.func (.func 107) ⟨[]⟩ ⟨[pV Wg,pV b7]⟩) (by kernel_rfl) (by kernel_rfl) (by decide) rfl<|atA (E:=nO Wg Ch ij cH) (a:=kE.a9) (f:=107) (y:= .tmp 24) (ca:=[pV Wg,pV b7]) (ats:=akG kE.a9) [] (by kernel_rfl) (by kernel_rfl) (by kernel_rfl) (by decide) rfl (fun yt JG _=>?_)
 have Cz:=Sub.trans oC JG
 refine⟨amn (E:=nO Wg Ch ij cH) (x:=kE.cl) aDS (anO Wg).choose_spec xK (q:=b7) (t:=185) (fz:=(0,0)) (a:=eT kE.cl.q1 0) (y:= .tmp 1) (U:=185) (Cz _ _ h7) (by kernel_rfl) (by kernel_rfl) (by kernel_rfl) (by kernel_rfl) (by kernel_rfl) (by kernel_rfl),?_⟩
 refine XK (hC _)<|ql (hC _) DE fun l8 Ua=>?_
 refine vZ ar (hC _)<|zD 2<|yq<|ql (hC _) Ua fun l9 Zk=>?_
 refine vZ ar (hC _)<|jl (b:=b7) (off:=0) (m:=1) (vs:=[.chan (some Ch)]) 0 ⟨_,_,_,.inl (Cz _ _ h7),rfl⟩<|zD 1<|yq<|Nw (hC _) Zk fun l10 aol=>?_
 refine aqw (hC _) (rest:=[]) rfl fun l11 aok=>?_
 have:=gE aok
 subst this
 have hlen:=lX hV on keep hR
 have recv:∀m (os:List (List aj)) (v:Value) (L1:Cells) (zs:List aj),os.length=m→aw v 8 115 cG zs L1→(zs++os.flatten).Perm (cW K on keep rows)→∀rest,
  TT (TM (nO Wg Ch ij cH) L (Good zT Post) 0 true os 0) (fr0 77 .normal) ([kE.rb].map .code++(.inLoop kE.rb::(.inBlock 2::(l10.map .code++[])))) (cl::Pd) 35 [] yt (some ⟨.fin .normal,[(10,v),(25,.chan (some Ch))]++rest,[.l L1],⟨[],[]⟩⟩):=by
  intro m
  induction m with
  |zero=>
   intro os v L1 zs tO ho hp rest
   have tO:=List.eq_nil_of_length_eq_zero tO
   subst tO
   refine ql (hC _) aHo fun m1 hm1=>?_
   show TT _ _ (.inRegion kE.Df (0::[1])::_) _ _ _ _ _
   refine aqv (E:=nO Wg Ch ij cH) (a:=kE.TN) (rc:= .tmp 25) (z:= zS) hl Cz Wh (by kernel_rfl) (by kernel_rfl) (fun ρ=>by kernel_rfl) (by decide) rfl (fun a' oo b' v' Y he _=>by simp at he) fun _=>?_
   refine vZ ar hT<|zD 2<|yq<|XL hT (t:=false) (q:=false) hm1 rfl fun m2 Gr=>?_
   refine aqy hT (k':=l10.map .code++[]) (by rw[qU];simp[exitTo]) ?_
   refine ql hT aol fun m3 hm3=>?_
   refine vZ ar hT<|zD 1 ?_
   have hp':zs.Perm (cW K on keep rows):=by simpa using hp
   refine jc (vs:=[v,.func (.func 110) ⟨[]⟩ ⟨[]⟩]) [1] (QU ho (by rw[hp'.length_eq];omega) ((acL hR).perm hp')) ?_
   rintro _ Y ⟨ys,hys,hoY⟩
   refine zD 1<|yq<|ql hT hm3 fun m4 hm4=>?_
   refine vZ ar hT<|zD 3<|yq<|aqx hT hm4 fun m5 hm5=>?_
   refine aMc ar hT (fn:=(Tryz.prog.funcs[77]?).getD default) v [] [0,1] (Y++((b7,.cells ⟨[.chan (some Ch)]⟩ 185 (0,0))::(b5,.cells ⟨[.func (.func g) ⟨fi⟩ ⟨ca⟩]⟩ 116 (0,0))::(b4,.cells ⟨[.int .u8 on]⟩ 120 (0,0))::(b3,.cells ⟨[pV f]⟩ 104 (0,0))::fr)) (by kernel_rfl)<|hT.mono _ ⟨ro,Y++fr⟩ _ (ee (J:=[(b7,.cells ⟨[.chan (some Ch)]⟩ 185 (0,0)),(b5,.cells ⟨[.func (.func g) ⟨fi⟩ ⟨ca⟩]⟩ 116 (0,0)),(b4,.cells ⟨[.int .u8 on]⟩ 120 (0,0)),(b3,.cells ⟨[pV f]⟩ 104 (0,0))]) ?_ (Sub.refl _)) (kr v _ ⟨v,Y,ys,rfl,rfl,hys.trans hp',hoY⟩)
   rw[List.append_assoc]
   exact .append_left _ (List.perm_append_comm (l₁:=[_,_,_,_]))
  |succ m ih=>
   intro os v L1 zs tO ho hp rest
   refine ql (hC _) aHo fun m1 hm1=>?_
   show TT _ _ (.inRegion kE.Df (0::[1])::_) _ _ _ _ _
   refine aqv (E:=nO Wg Ch ij cH) (a:=kE.TN) (rc:= .tmp 25) (z:= zS) hl Cz Wh (by kernel_rfl) (by kernel_rfl) (fun ρ=>by kernel_rfl) (by decide) rfl (fun a' oo b' v' Y he oR=>?_) fun he=>by simp[he] at tO
   subst he
   have oR:aw v' 8 115 cG oo Y:=oR
   refine vZ ar (hC _)<|zD 2<|yq<|XL (hC _) (t:=true) (q:=true) hm1 rfl fun m2 Gr=>?_
   refine aqu (hC _)<|Nw (hC _) Gr fun m3 hm3=>?_
   have:=gE hm3
   subst this
   refine ql (hC _) aT0 fun m4 hm4=>?_
   refine vZ ar (hC _)<|zD 3<|yq<|ql (hC _) hm4 fun m5 hm5=>?_
   have:=gE hm5
   subst this
   refine vZ ar (hC _)<|zD 2 ?_
   have T6:((zs++oo)++(a'++b').flatten).Perm (cW K on keep rows):=(ajI a' oo b' zs).trans hp
   have hlz:zs.length+oo.length≤1250:=by
    have:=T6.length_eq
    simp only[List.length_append] at this
    omega
   refine gL (sz:=8) (ps:=zs) (qs:=oo) (enc:=cG) (w:=v') [1] [0] Y ho (fun s _ hZ=>oR.sl hZ) (fun p _=>ah rfl) (by omega) fun v23 L23 Ak=>zD 2<|yq<|aqz (hC _) (aem (hC _) ?_)
   exact tSt (hC _) [(10,v23),(25,.chan (some Ch))] [.l L23] [0] fun rest=>ih (a'++b') v23 L23 (zs++oo) (by simp at tO ⊢;omega) Ak T6 rest
 refine tGe<|tSt (hC _) [(10,zS),(25,.chan (some Ch))] [.l []] [0] fun rest=>recv rows.length (iU K on keep rows rows.length) (zS) [] [] (ze _ _ _ _ _) (aw.nil _ _ _) (by simp[cW]) rest
theorem agI{rows:List bD}{on:Int}{keep:aj→Bool}(hV:eH K)(hF:ov ro f K rows)(hR:rows.length≤2)(Ii:CC zT g=true)
 (iI:∀i r,rows[i]?=some r→∀aC,Sub ro aC→∀p∈aN K on,dv zT g (fi++[.agg ⟨cG (cB K r i p)⟩]++ca) aC (.bool (keep (cB K r i p)))):
 CH zT 77 [pV f,.int .u8 on,.func (.func g) ⟨fi⟩ ⟨ca⟩] ro [] (fun v Y=>∃zs,zs.Perm (cW K on keep rows)∧aw v 8 115 cG zs Y):=
 fun fr=>Fn.mono (aDR (fr:=fr) hV hF hR Ii iI) fun en s' ⟨v,Y,zs,h1,h2,h3,h4⟩=>⟨v,Y,h1,by rw[h2];exact St.le_refl _,zs,h3,h4⟩
theorem YN{rows:List bD}{on:Int}(hV:eH K)(hF:ov ro f K rows)(hR:rows.length≤2):
 CH zT 50 [pV f,.int .u8 on] ro [] (fun v Y=>∃zs,zs.Perm (cW K on (cw K.gone K.new K.ab) rows)∧aw v 8 115 cG zs Y):=by
 refine Ad ar [] [] aU fun fr=>zD 10<|JF (vs:=[pV f,.int .u8 on,.func (.func 91) ⟨[pV f]⟩ ⟨[]⟩]) [] (fun _ _ h=>h) (agI (keep:=cw K.gone K.new K.ab) hV hF hR (by kernel_rfl) fun i r hr aC hs p hp=>?_) ?_
 ·obtain⟨c0,c1,c2,vc,vh,vr,vb,va,vf,vt,hv,hf,_⟩:=hF.up hs
  exact agD hf
 rintro v Y ⟨zs,hz,ho⟩
 refine zD 3<|Fx qC v [0,1] Y (Sub.refl _) ⟨zs,hz,ho⟩
theorem ayM{x:Int}(h:0≤x∧x≤4):gT x 0 4=true:=by simp only[gT,Bool.and_eq_true,decide_eq_true_eq];omega
theorem afQ:rV (bs [97]):=⟨by decide,.inl (by decide)⟩
def akT(ro:Nat→Option Obj)(v:Value)(W:List (List Int)):Prop:=∃ws,a8 ro v 1 fB ws∧dc (fun w l=>a8 ro w 1 cD l) ws W
def qZ(ro:Nat→Option Obj)(l:List Value)(W:List (List Int)):Prop:=∀aF,Sub ro aF→dQ zT 118 [.agg ⟨l.take 3⟩] aF [] (fun r Y=>∃a n c,r= .tuple ⟨[.slice a n c,zI 0]⟩∧n=W.length∧∀kU,Knows kU Y→akT kU (.slice a n c) W)
theorem avx(hK:eR ro l K)(hO:jm K)(hV:eH K)(hW:1≤W.length∧W.length≤4)(h76:qZ ro l W):dQ zT 84 [.agg ⟨l⟩] ro [] (fun r Y=>∃a n c,r= .slice a n c∧n=W.length∧∀kU,Knows kU Y→akT kU r W):=by
 have MJ:=hK
 obtain⟨vS,vT,vc,vh,vr,vb,va,vf,fa,fc,hv,rfl,hS,hT,nF,mH,hr,hb,ha,hf⟩:=hK
 obtain⟨fD,hs,ei⟩:=id hS
 obtain⟨fK,ht,dY⟩:=id hT
 obtain⟨hc,hh,rJ⟩:=id nF
 have u2:=hr
 have uB:=hb
 have ha0:=ha
 have hf0:=hf
 obtain⟨kg,PO,PM,jo,rfl,PN,Gg,Gf⟩:=hs
 obtain⟨eB,yM,yK,dH,rfl,yL,qt,qp⟩:=ht
 obtain⟨dS,yw,yu,dP,rfl,AR,vK,vJ⟩:=hc
 obtain⟨dC,s9,s8,de,rfl,uX,pJ,pH⟩:=hh
 obtain⟨ju,Fg,Ff,jq,rfl,Kb,Ey,Ex⟩:=hr
 obtain⟨jD,Hf,Hd,jv,rfl,He,Gi,Gh⟩:=hb
 obtain⟨iW,Fs,Fj,iQ,rfl,Fo,EA,Ez⟩:=ha
 obtain⟨fp,td,tb,eS,rfl,wu,pM,pK⟩:=hf
 have yR:=hO.rules
 have pF:=hO.before.1
 have JL:=hO.after.1
 have JK:=hO.facts.1
 have MC:=hO.ways.1
 have Gs:=ei.len
 have DE:=dY.len
 have Ua:=hO.m8.two
 have Zk:=hO.cX.nh
 have Hb:∀(i:Nat) (p:bU),([]:List bU)[i]?=some p→cb ⟨ro,[]⟩ 0 (0+i*6) 6 (jF p):=fun _ _ h=>lR h
 have hgl:=hO.wE
 refine zE<|zD 2<|jn fun b1=>jd 6 [0]<|jc (vs:=[.agg ⟨[.slice kg fD.length jo,.slice eB fK.length dH,.slice fa 0 fc]⟩]) [] (h76 _ (Sub.refl _)) ?_
 rintro _ Y10 ⟨a10,n10,c10,rfl,aQC,ahd⟩
 refine zD 9<|jp (vs:=[zI 0]) [] [] (fun aF hs hZ=>BI)<|zD 10<|zJ 15 ((n10:Int)=0) (fun h1=>?_) fun h1=>?_
 ·
  exfalso;omega
 refine zD 8<|zJ 20 ((n10:Int)>4) (fun h2=>?_) fun h2=>?_
 ·
  exfalso;omega
 refine jd 6 [1]<|jp (vs:=[.agg ⟨[.slice dS K.cs.length dP,.slice dC hv.length de]⟩]) [] [] (fun aF hs hZ=>atC (nF.up hs) mH hV.cX)<|jp (vs:=[zI 0]) [] [] (fun aF hs hZ=>BI)<|jd 5 [1]<|jp (vs:=[.slice ju K.rules.length jq,.string (bs [97]),.string (bs [97])]) [] [] (fun aF hs hZ=>RE (u2.up hs) hV.rules.2 hV.rules.1 afQ afQ)<|zD 8<|jp (vs:=[zI 0]) [] [] (fun aF hs hZ=>BI)<|jd 6 [1,1]<|jp (vs:=[.agg ⟨[.slice kg fD.length jo,.slice eB fK.length dH,.slice fa 0 fc,.slice dS K.cs.length dP,.slice dC hv.length de,.slice ju K.rules.length jq,.slice jD K.before.length jv,.slice iW K.after.length iQ,zI K.gone,zI K.new,zI K.ab,.slice fp K.facts.length eS]⟩,.slice jD K.before.length jv,.bool true]) [] [] (fun aF hs hZ=>agA (MJ.up hs) hO (uB.up hs))<|jp (vs:=[zI 0]) [] [] (fun aF hs hZ=>BI)<|jd 6 [1,1]<|jp (vs:=[.agg ⟨[.slice kg fD.length jo,.slice eB fK.length dH,.slice fa 0 fc,.slice dS K.cs.length dP,.slice dC hv.length de,.slice ju K.rules.length jq,.slice jD K.before.length jv,.slice iW K.after.length iQ,zI K.gone,zI K.new,zI K.ab,.slice fp K.facts.length eS]⟩,.slice iW K.after.length iQ,.bool false]) [] [] (fun aF hs hZ=>agB (MJ.up hs) hO (ha0.up hs))<|jp (vs:=[zI 0]) [] [] (fun aF hs hZ=>BI)<|jd 6 [1]<|jp (vs:=[zI K.gone,zI 0,zI 4]) [] [] (fun aF hs hZ=>dW)<|zD 2<|jj 5 [(1,zP b1),(2,zS),(3,.slice a10 n10 c10),(56,.bool ((!(gT K.gone 0 4))||(!(gT K.new 0 4))))] (fun gN=>?_) (fun hj=>?_)
 rotate_left
 refine js 51 (!(gT K.gone 0 4)) (fun h3=>?_) (fun h3=>?_)
 ·
  have wR:=h3
  try simp only[zB] at wR
  refine zD 5<|jw 56 (.bool ((!(gT K.gone 0 4))||(!(gT K.new 0 4)))) (w:= .bool true) (by rw[h3]<;>rfl) ?_
  exact zK hj
 ·
  have wR:=h3
  try simp only[zB] at wR
  refine jd 2 [1]<|jp (vs:=[zI K.new,zI 0,zI 4]) [] [] (fun aF hs hZ=>dW)<|zD 2<|jw 56 (.bool ((!(gT K.gone 0 4))||(!(gT K.new 0 4)))) (w:= .bool (!(gT K.new 0 4))) (by rw[h3]<;>rfl) ?_
  exact zK hj
 refine zD 1<|jj 5 [(1,zP b1),(2,zS),(3,.slice a10 n10 c10),(62,.bool (((!(gT K.gone 0 4))||(!(gT K.new 0 4)))||(!(gT K.ab 0 4))))] (fun gN=>?_) (fun hj=>?_)
 rotate_left
 refine js 57 ((!(gT K.gone 0 4))||(!(gT K.new 0 4))) (fun h4=>?_) (fun h4=>?_)
 ·
  have uC:=h4
  try simp only[zB] at uC
  refine zD 5<|jw 62 (.bool (((!(gT K.gone 0 4))||(!(gT K.new 0 4)))||(!(gT K.ab 0 4)))) (w:= .bool true) (by rw[h4]<;>rfl) ?_
  exact zK hj
 ·
  have uC:=h4
  try simp only[zB] at uC
  refine jd 2 [1]<|jp (vs:=[zI K.ab,zI 0,zI 4]) [] [] (fun aF hs hZ=>dW)<|zD 2<|jw 62 (.bool (((!(gT K.gone 0 4))||(!(gT K.new 0 4)))||(!(gT K.ab 0 4)))) (w:= .bool (!(gT K.ab 0 4))) (by rw[h4]<;>rfl) ?_
  exact zK hj
 refine zD 1<|js 62 (((!(gT K.gone 0 4))||(!(gT K.new 0 4)))||(!(gT K.ab 0 4))) (fun h5=>?_) (fun h5=>?_)
 ·
  try simp only[zB] at h5
  exfalso;simp[ayM hgl.1,ayM hgl.2.1,ayM hgl.2.2] at h5
 try simp only[zB] at h5
 refine jd 10 [1]<|zJ 67 ((K.facts.length:Int)>4) (fun h6=>?_) fun h6=>?_
 ·
  exfalso;omega
 refine jd 11 [1]<|dL [1,1,1,1,1,1,1,1,1,1,1,0,1,0,0] [] (fun(zz:Nat)=>[(1,zP b1),(2,zS),(3,.slice a10 n10 c10),(70,.slice fp K.facts.length eS),(71,zI (K.facts.length:Int)),(72,zI (zz:Int))]) (fun zz=>[.b b1 (.cells ⟨[.slice kg fD.length jo,.slice eB fK.length dH,.slice fa 0 fc,.slice dS K.cs.length dP,.slice dC hv.length de,.slice ju K.rules.length jq,.slice jD K.before.length jv,.slice iW K.after.length iQ,zI K.gone,zI K.new,zI K.ab,.slice fp K.facts.length eS]⟩ 40 (0,0)),.l Y10]) (fun zz=>zz≤K.facts.length) (fun zz=>K.facts.length-zz) 0 (by omega) [1,0] ?_
 rintro k hI K1 bE rest
 refine zD 5<|zJ 73 ((k:Int) <(K.facts.length:Int)) (fun h7=>?_) fun h7=>?_
 ·
  refine zD 7 ?_
  obtain⟨x75,VG⟩:=zG K.facts k
  refine fL eS 3 pM VG<|jl 0 (pK _ _ VG)<|jn fun b6=>jd 8 [0,1,1]<|jcH (hi:=(k:Int)) (show a8 _ _ _ _ _ from ⟨fp,td,tb,eS,rfl,wu,pM,pK⟩) (by omega) (fun v81 aPT=>?_)
  obtain⟨aqL,aB9,aB5,aqK,rfl,aB7,aB8,aB6⟩:=aPT
  refine jd 1 [0]<|jp (vs:=[.agg ⟨[.slice kg fD.length jo,.slice eB fK.length dH,.slice fa 0 fc,.slice dS K.cs.length dP,.slice dC hv.length de,.slice ju K.rules.length jq,.slice jD K.before.length jv,.slice iW K.after.length iQ,zI K.gone,zI K.new,zI K.ab,.slice fp K.facts.length eS]⟩,.slice aqL ((((K.facts).take (k:Int).toNat)).length) aqK,.agg ⟨[zI x75.a,zI x75.b,.bool x75.same]⟩]) [] [] (fun aF hs hZ=>arc (MJ.up hs) hO ((show a8 _ _ _ _ _ from ⟨aqL,aB9,aB5,aqK,rfl,aB7,aB8,aB6⟩).up hs) (by simp only[List.length_take,List.length_drop];omega) (hO.facts.2 _ (zL VG)) (ajO hO.apart VG)) ?_
  refine jp (vs:=[zI 0]) [] [] (fun aF hs hZ=>BI)<|zD 2<|ja ((k:Int)+1) (by omega)<|zD 2<|bF bE (k+1) (by omega) (by omega) [1,2] (Sub.refl _)
 refine zD 8<|zR (.slice a10 n10 c10) [] [1] Y10 ⟨_,_,_,rfl,aQC,ahd⟩
def iz(ro:Nat→Option Obj)(l:List Value)(K:aE)(rows:List bD):Prop:=∀aF,Sub ro aF→dQ zT 43 [.agg ⟨l⟩] aF [] (fun r Y=>∃f,r= .tuple ⟨[pV f,zI 0]⟩∧∀kU,Sub aF kU→Knows kU Y→ov kU f K rows)
def aQ(K:aE):Int:=IntKind.u8.wrap (dM .u8 1 (K.facts.length:Int)-1)
theorem HL{rows:List bD}(hV:eH K)(hF:ov ro f K rows):dv zT 51 [pV f] ro (.int .u8 (aQ K)):=by
 obtain⟨c0,c1,c2,vc,vh,vr,vb,va,vf,vt,hv,hf,nF,mH,hr,DG,It,KA,bX⟩:=hF
 exact aOI KA hf (by have:=hV.facts.1;omega)
theorem agv{rows:List bD}(hK:eR ro l K)(hV:eH K)(hR:rows.length≤2)(hB:iz ro l K rows):
 CH zT 15 [.agg ⟨l⟩] ro [] (fun r Y=>r= .tuple ⟨[zI ((cW K (aQ K) (cw K.gone K.new K.ab) rows).length:Int),zI 0]⟩∧Y=[]):=by
 obtain⟨v0,v1,v3,v4,v5,v6,v7,vb,fa,fc,hv,rfl,_⟩:=hK
 refine Ad ar [] [] aU fun fr=>zD 2<|jn fun b1=>jd 6 [0]<|jc (vs:=[Value.agg ⟨[v0,v1,.slice fa 0 fc,v3,v4,v5,v6,v7,zI K.gone,zI K.new,zI K.ab,vb]⟩]) [] (hB _ (Sub.refl _)) ?_
 rintro _ Y ⟨f,rfl,hF⟩
 refine jf [0] Y (fun aF hs hk=>?_)
 have yE:=hF aF hs hk
 refine zD 18<|jp (vs:=[pV f]) [] [] (fun yt JG hZ=>HL hV (yE.up JG))<|JF (vs:=[pV f,.int .u8 (aQ K)]) [] (fun _ _ h=>h) (YN hV yE hR) ?_
 rintro v Y2 ⟨zs,hz,ho⟩
 obtain⟨a,c,rfl⟩:=ho.form
 refine zD 5<|Fx qC.a (.tuple ⟨[zI (zs.length:Int),zI 0]⟩) [2] [] hs ⟨by rw[hz.length_eq],rfl⟩
theorem eP{on:Int}{keep:aj→Bool}{rows:List bD}{x:aj}(h:x∈cW K on keep rows):∃i r p,rows[i]?=some r∧p∈aN K on∧x=cB K r i p∧keep x=true:=by
 obtain⟨l,hl,hx⟩:=List.mem_flatten.1 h
 obtain⟨i,hi,rfl⟩:=List.mem_map.1 hl
 have hi:=List.mem_range.1 hi
 obtain⟨h1,h2⟩:=List.mem_filter.1 hx
 obtain⟨p,hp,rfl⟩:=List.mem_map.1 h1
 rw[List.getElem?_eq_getElem hi] at h2 ⊢
 exact⟨i,rows[i],p,List.getElem?_eq_getElem hi,hp,rfl,h2⟩
theorem Yx(r:bD)(p:Nat→Int):∀k,0≤Di r p k∧Di r p k≤k
 |0=>by simp[Di]
 |k+1=>by
  have:=Yx r p k
  simp only[Di]
  cases decide (p k>0)&& !r.c k (p k-1).toNat with
  |true=>simp only[cond_true];omega
  |false=>simp only[cond_false];omega
theorem lg(hV:eH K)(r:bD)(i:Nat)(p:Nat→Int):(-4≤(cB K r i p).gone∧(cB K r i p).gone≤4)∧(-4≤(cB K r i p).new∧(cB K r i p).new≤4)∧(0≤(cB K r i p).ab∧(cB K r i p).ab≤4):=by
 have h1:=Yg p
 have h2:=Yx r p 4
 have h3:=hV.before.1
 have h4:=hV.after.1
 simp only[cB]
 omega
def GX(x:aj):Int:=x.gone+x.new+x.ab
theorem avq{rows:List bD}(hK:eR ro l K)(hV:eH K)(hR:rows.length≤2)(hB:iz ro l K rows):CH zT 36 [.agg ⟨l⟩] ro [] (fun r Y=>∃zs,zs.Perm (cW K (aQ K) (fun _=>true) rows)∧Y=[]∧((zs=[]∧r= .tuple ⟨[zI 0,zI 9]⟩)∨(zs≠[]∧r= .tuple ⟨[zI (vv (zs.map GX)),zI 0]⟩))):=by
 obtain⟨v0,v1,v3,v4,v5,v6,v7,vb,fa,fc,hv,rfl,_⟩:=hK
 refine Ad ar [] [] aU fun fr=>zD 2<|jn fun b1=>jd 6 [0]<|jc (vs:=[.agg ⟨[v0,v1,.slice fa 0 fc,v3,v4,v5,v6,v7,zI K.gone,zI K.new,zI K.ab,vb]⟩]) [] (hB _ (Sub.refl _)) ?_
 rintro _ Y12 ⟨f12,rfl,Wm⟩
 refine zD 5<|jf [0] Y12 (fun yt bL iJ=>?_)
 have yE:=Wm _ bL iJ
 refine zD 13<|jp (vs:=[zP f12]) [] [] (fun aF hs hZ=>HL hV (yE.up hs))<|JF (vs:=[zP f12,.int .u8 (aQ K),.func (.func 78) ⟨[]⟩ ⟨[]⟩]) [] (fun _ _ h=>h) (agI (keep:=fun _=>true) hV yE hR (by kernel_rfl) (fun i r hr aC hs p hp=>anJ)) ?_
 rintro v21 Y21 ⟨zs,anY,aE1⟩
 have Ku:∀x∈zs,(-4≤x.gone∧x.gone≤4)∧(-4≤x.new∧x.new≤4)∧(0≤x.ab∧x.ab≤4):=fun x hx=>by obtain⟨i,r,p,_,_,rfl,_⟩:=eP (anY.mem_iff.1 hx);exact lg hV r i p
 have VD:zs.length≤1250:=by rw[anY.length_eq];exact lX hV _ _ hR
 refine zD 6<|Fy aE1<|zD 1<|jf [0] Y21 (fun ro6 kV Zm=>?_)
 have Wc:=aE1.jC Zm
 obtain⟨mZ,C8,C6,mg,rfl,C7,zr,zq⟩:=Wc
 refine zD 1<|zJ 24 ((zs.length:Int)=0) (fun h7=>?_) fun h7=>?_
 ·
  refine zD 7<|Fx qC.a.a (.tuple ⟨[zI 0,zI 9]⟩) [1] [] (bL.trans kV) ⟨zs,anY,rfl,.inl ⟨List.eq_nil_of_length_eq_zero (by omega),rfl⟩⟩
 refine zD 14<|nB<|dL [1,1,1,1,1,1,0,1,0,0] [] (fun(zz:Nat×Value×Cells)=>[(2,zI 0),(3,zI 0),(7,zz.2.1),(25,.slice mZ zs.length mg),(26,zI (zs.length:Int)),(27,zI (zz.1:Int))]) (fun zz=>[.l zz.2.2,.b b1 (.cells ⟨[v0,v1,.slice fa 0 fc,v3,v4,v5,v6,v7,zI K.gone,zI K.new,zI K.ab,vb]⟩ 40 (0,0)),.l fr]) (fun zz=>zz.1≤zs.length∧aw zz.2.1 1 3 cD ((zs.take zz.1).map GX) zz.2.2) (fun zz=>zs.length-zz.1) (⟨0,zS,[]⟩) ⟨by dsimp only;omega,aw.nil _ _ _⟩ [0,1,2] ?_
 rintro⟨k,vS,LS⟩ hI K1 bE rest
 dsimp only at hI
 refine zD 5<|zJ 28 ((k:Int) <(zs.length:Int)) (fun h8=>?_) fun h8=>?_
 ·
  refine zD 6 ?_
  obtain⟨E6,BK⟩:=zG zs k
  refine fL mg 8 zr BK<|jl 0 (zq _ _ BK)<|jn fun b9=>jd 2 [0] ?_
  have hg:=Ku _ (zL BK)
  refine jd 6 [0,0]<|ja (E6.gone+E6.new) (by omega)<|jd 2 [0]<|ja ((E6.gone+E6.new)+E6.ab) (by omega)<|jn fun sJ=>gL (sz:=1) (ps:=((zs.take k).map GX)) (qs:=[((E6.gone+E6.new)+E6.ab)]) (enc:=cD) (w:= .slice (some ⟨sJ,0,none⟩) 1 1) [2] [0] [(sJ,.cells ⟨([((E6.gone+E6.new)+E6.ab)].map cD).flatten⟩ 3 (0,0))] (hI.2) (fun s _ hZ=>bN [((E6.gone+E6.new)+E6.ab)] (hZ _ (.head _)) (by intro p hp;rfl)) (fun p _=>ah rfl) (by simp only[List.length_map,List.length_take,List.length_cons,List.length_nil];omega) (fun v41 L41 wL=>?_)
  obtain⟨Nq,Nn,OC⟩:=wL.form
  subst OC
  refine zD 3<|ja ((k:Int)+1) (by omega)<|zD 2<|bF bE (⟨k+1,(.slice Nq ((((zs.take k).map GX)++[((E6.gone+E6.new)+E6.ab)])).length Nn),L41⟩) ⟨by dsimp only;omega,by rw[j6 BK,List.map_append];exact wL⟩ (by dsimp only;omega) [0,3,4] (Sub.refl _)
 refine zD 5<|jp (vs:=[vS]) [0] LS (fun aF hs hZ=>aq9 (hI.2.jC hZ) ⟨by simp only[List.length_map,List.length_take];omega,by simp only[List.length_map,List.length_take];omega⟩) ?_
 refine zD 5<|Fx qC.a.a (.tuple ⟨[zI (vv ((zs.take k).map GX)),zI 0]⟩) [2] [] (bL.trans kV) ⟨zs,anY,rfl,.inr ⟨fun e=>by subst e;simp at*,by rw[show k=zs.length by omega,List.take_length]⟩⟩
def aIJ(ro:Nat→Option Obj)(f:Nat)(l:List Value)(rows:List bD):Prop:=∃vt,ro f=some (.cells ⟨l++[vt]⟩ 128 (0,0))∧a8 ro vt 16 B6 rows
def B9(ways:List (List aL))(w:List Int):List (List aL):=List.zipWith (fun l n=>(l.take (n.toNat+1)).drop n.toNat) ways w
theorem aph{ways:List (List aL)}{w:List Int}{l:List aL}(h1:ways[k]?=some l) (h2:w[k]?=some n):(B9 ways w)[k]?=some ((l.take (n.toNat+1)).drop n.toNat):=by
 simp only[B9,List.getElem?_zipWith,h1,h2]
def kZ(K:aE)(q8:List Int→aB→List an)(w:List Int):bD:=⟨fun i j=>match K.before[i]?,K.after[j]? with
 |some x,some y=>decide (bJ (pN y.st y.no 0) (q8 w x) 0≥0)
 |_,_=>false⟩
def FZ(F:Nat→Nat→Bool)(i j:Nat)(r:bD):Prop:=∀x y,r.c x y=((decide (x <i)||(decide (x=i)&&decide (y <j)))&&F x y)
theorem FZ.set{j:Nat}{r:bD}(h:FZ F i j r):FZ F i (j+1) (jI r i j (F i j)):=fun x y=>by
 simp only[jI]
 split
 ·rename_i hx;obtain⟨rfl,rfl⟩:=hx;simp
 rename_i hx
 rw[h x y]
 congr 2
 by_cases e:x=i
 ·subst e
  have:y≠j:=fun e2=>hx ⟨rfl,e2⟩
  simp only[decide_true,Bool.true_and]
  congr 1
  exact propext (by omega)
 simp[e]
theorem FZ.nxt{n:Nat}{r:bD}(hF:∀x y,n≤y→F x y=false)(h:FZ F i n r):FZ F (i+1) 0 r:=fun x y=>by
 rw[h x y]
 by_cases hy:y <n
 ·congr 1
  simp only[hy,decide_true,Bool.and_true,Nat.not_lt_zero,decide_false,Bool.and_false,Bool.or_false]
  rw[Bool.eq_iff_iff];simp;omega
 rw[hF x y (by omega)];simp
theorem FZ.fin{n:Nat}{r:bD}(hF:∀x y,n≤x→F x y=false)(h:FZ F n 0 r):r=⟨F⟩:=by
 rcases r with ⟨c⟩
 congr 1
 funext x y
 have:=h x y
 dsimp only at this
 rw[this]
 by_cases hx:x <n
 ·simp[hx]
 rw[hF x y (by omega)];simp
theorem atV{q8:List Int→aB→List an}{w:List Int}(x y:Nat)(h:K.before.length≤x):(kZ K q8 w).c x y=false:=by simp only[kZ,List.getElem?_eq_none h]
theorem atU{q8:List Int→aB→List an}{w:List Int}(x y:Nat)(h:K.after.length≤y):(kZ K q8 w).c x y=false:=by
 simp only[kZ,List.getElem?_eq_none h]
 split
 ·rename_i h1;cases h1
 rfl
structure Xd(K:aE)(W:List (List Int)):Prop where
 n:1≤W.length∧W.length≤2
 len:∀w∈W,w.length=K.ways.length
 rng:∀w∈W,∀(k:Nat) (l:List aL) (n:Int),K.ways[k]?=some l→w[k]?=some n→0≤n∧n <l.length
def yf(ro:Nat→Option Obj)(l:List Value)(K:aE)(W:List (List Int))(q8:List Int→aB→List an):Prop:=∀w∈W,∀x∈K.before,(q8 w x).length≤1000∧∀aF,Sub ro aF→∀v vS vT vU r,l=vS::vT::vU::r→mz aF v (B9 K.ways w)→
 dQ zT 85 [.agg ⟨[vS,v,vU]⟩,.agg ⟨[zI x.st,zI x.no,zI 0]⟩] aF [] (fun r Y=>∃a n c,r= .tuple ⟨[.slice a n c,zI 0]⟩∧∀kU,Knows kU Y→a8 kU (.slice a n c) 3 cS (q8 w x))
theorem agO{q8:List Int→aB→List an}(hK:eR ro l K)(hO:jm K)(hV:eH K)(hW:Xd K W)(h76:qZ ro l W)(h47:yf ro l K W q8):dQ zT 43 [.agg ⟨l⟩] ro [] (fun r Y=>∃f,r= .tuple ⟨[pV f,zI 0]⟩∧∀kU,Sub ro kU→Knows kU Y→ov kU f K (W.map (kZ K q8))∧aIJ kU f l (W.map (kZ K q8))):=by
 have MJ:=hK
 obtain⟨vS,vT,vc,vh,vr,vb,va,vf,fa,fc,hv,rfl,hS,hT,nF,mH,hr,hb,ha,hf⟩:=hK
 obtain⟨fD,hs,ei⟩:=id hS
 obtain⟨fK,ht,dY⟩:=id hT
 obtain⟨hc,hh,rJ⟩:=id nF
 have u2:=hr
 have uB:=hb
 have ha0:=ha
 have hf0:=hf
 obtain⟨kg,PO,PM,jo,rfl,PN,Gg,Gf⟩:=hs
 obtain⟨eB,yM,yK,dH,rfl,yL,qt,qp⟩:=ht
 obtain⟨dS,yw,yu,dP,rfl,AR,vK,vJ⟩:=hc
 obtain⟨dC,s9,s8,de,rfl,uX,pJ,pH⟩:=hh
 obtain⟨ju,Fg,Ff,jq,rfl,Kb,Ey,Ex⟩:=hr
 obtain⟨jD,Hf,Hd,jv,rfl,He,Gi,Gh⟩:=hb
 obtain⟨iW,Fs,Fj,iQ,rfl,Fo,EA,Ez⟩:=ha
 obtain⟨fp,td,tb,eS,rfl,wu,pM,pK⟩:=hf
 have yR:=hO.rules
 have pF:=hO.before.1
 have JL:=hO.after.1
 have JK:=hO.facts.1
 have MC:=hO.ways.1
 have Gs:=ei.len
 have DE:=dY.len
 have Ua:=hO.m8.two
 have Zk:=hO.cX.nh
 have Hb:∀(i:Nat) (p:bU),([]:List bU)[i]?=some p→cb ⟨ro,[]⟩ 0 (0+i*6) 6 (jF p):=fun _ _ h=>lR h
 have hWn:=hW.n
 refine aOL ar 83 [] [] aU<|zD 2<|jn fun b1=>jn fun b2=>jn fun b3=>zD 4<|jdf (f:=83) (ca:=[zP b2,zP b3])<|jd 5 [2]<|jn fun Jq=>jd 6 [2,3]<|jc (vs:=[.agg ⟨[.slice kg fD.length jo,.slice eB fK.length dH,.slice fa 0 fc,.slice dS K.cs.length dP,.slice dC hv.length de,.slice ju K.rules.length jq,.slice jD K.before.length jv,.slice iW K.after.length iQ,zI K.gone,zI K.new,zI K.ab,.slice fp K.facts.length eS]⟩]) [] (avx MJ hO hV ⟨hW.n.1,by have:=hW.n.2;omega⟩ h76) ?_
 rintro _ Y21 ⟨a21,n21,c21,rfl,bc1,an5⟩
 refine zD 2<|jf [0] Y21 (fun yt bL iJ=>?_)
 obtain⟨KU,hWs,SN⟩:=an5 _ iJ
 obtain⟨qWa,qWb,qWo,qWc,heW,qWk,qWh,qWl⟩:=hWs
 simp only[Value.slice.injEq] at heW
 obtain⟨rfl,rfl,rfl⟩:=heW
 have hlW:=SN.len
 refine zD 2<|nB<|dL [1,1,1,0,1,0,0] [] (fun(zz:Nat×Value×Cells)=>[(1,zP b1),(2,zP b2),(3,zP b3),(21,.slice a21 KU.length c21),(22,zI (KU.length:Int)),(23,zI (zz.1:Int))]) (fun zz=>[.l zz.2.2,.b Jq (.cells ⟨[.slice kg fD.length jo,.slice eB fK.length dH,.slice fa 0 fc,.slice dS K.cs.length dP,.slice dC hv.length de,.slice ju K.rules.length jq,.slice jD K.before.length jv,.slice iW K.after.length iQ,zI K.gone,zI K.new,zI K.ab,.slice fp K.facts.length eS,zz.2.1]⟩ 128 (0,0)),.b b1 (.cells ⟨[.slice kg fD.length jo,.slice eB fK.length dH,.slice fa 0 fc,.slice dS K.cs.length dP,.slice dC hv.length de,.slice ju K.rules.length jq,.slice jD K.before.length jv,.slice iW K.after.length iQ,zI K.gone,zI K.new,zI K.ab,.slice fp K.facts.length eS]⟩ 40 (0,0)),.b b2 (.cells ⟨[zP Jq]⟩ 104 (0,0)),.b b3 (.cells ⟨[zI 0]⟩ 46 (0,0))]) (fun zz=>zz.1≤KU.length∧aw zz.2.1 16 159 B6 ((W.take zz.1).map (kZ K q8)) zz.2.2) (fun zz=>KU.length-zz.1) (⟨0,zS,[]⟩) ⟨by dsimp only;omega,aw.nil _ _ _⟩ [0,1,4,3,2] ?_
 rintro⟨k,vR,LR⟩ hI K1 bE rest
 dsimp only at hI
 refine zD 5<|zJ 24 ((k:Int) <(KU.length:Int)) (fun h4=>?_) fun h4=>?_
 ·
  refine zD 6 ?_
  obtain⟨zc,lS⟩:=zG KU k
  refine fL c21 1 qWh lS ?_
  obtain⟨wF,aFt,h26⟩:=SN.get lS
  obtain⟨aNr,bbd,bbb,aCI,rfl,bbc,aNq,aNp⟩:=h26
  refine jl 0 (qWl _ _ lS)<|zD 3 ?_
  have hwm:=zL aFt
  have hwl:=hW.len _ hwm
  refine jd 8 [2,2]<|jn fun b6=>jd 10 [0]<|nB<|dL [1,1,1,0,1,0,0,1,1,0,0,1,1,0,1,0,0] [K1] (fun(zz:Nat×Value×Cells×(List Value))=>[(1,zP b1),(2,zP b2),(3,zP b3),(6,zP b6),(21,.slice a21 KU.length c21),(22,zI (KU.length:Int)),(23,zI (k:Int)),(34,.slice aNr wF.length aCI),(35,zI (wF.length:Int)),(36,zI (zz.1:Int))]) (fun zz=>[.l zz.2.2.1,.b b6 (.cells ⟨[.slice kg fD.length jo,zz.2.1,.slice fa 0 fc]⟩ 31 (0,0)),.l LR,.b Jq (.cells ⟨[.slice kg fD.length jo,.slice eB fK.length dH,.slice fa 0 fc,.slice dS K.cs.length dP,.slice dC hv.length de,.slice ju K.rules.length jq,.slice jD K.before.length jv,.slice iW K.after.length iQ,zI K.gone,zI K.new,zI K.ab,.slice fp K.facts.length eS,vR]⟩ 128 (0,0)),.b b1 (.cells ⟨[.slice kg fD.length jo,.slice eB fK.length dH,.slice fa 0 fc,.slice dS K.cs.length dP,.slice dC hv.length de,.slice ju K.rules.length jq,.slice jD K.before.length jv,.slice iW K.after.length iQ,zI K.gone,zI K.new,zI K.ab,.slice fp K.facts.length eS]⟩ 40 (0,0)),.b b2 (.cells ⟨[zP Jq]⟩ 104 (0,0)),.b b3 (.cells ⟨[zI 0]⟩ 46 (0,0))]) (fun zz=>(zz.1≤wF.length∧zz.2.2.2.length=zz.1)∧aw zz.2.1 1 81 fB zz.2.2.2 zz.2.2.1∧dc (fun w l=>a8 yt w 7 iu l) zz.2.2.2 ((B9 K.ways wF).take zz.1)) (fun zz=>wF.length-zz.1) (⟨0,zS,[],[]⟩) ⟨⟨by dsimp only;omega,rfl⟩,aw.nil _ _ _,(by simp only[List.take_zero];exact dc.nil)⟩ (zN 0 7) ?_
  rintro⟨j,vT,LT,es⟩ hJ K2 lG rest
  dsimp only at hJ
  refine zD 5<|zJ 37 ((j:Int) <(wF.length:Int)) (fun h5=>?_) fun h5=>?_
  ·
   refine zD 7 ?_
   obtain⟨Ga,yB⟩:=zG wF j
   refine fL aCI 1 aNq yB<|jl 0 (aNp _ _ yB)<|jd 10 [1,4] ?_
   obtain⟨x47,VH⟩:=zG fK j
   refine fL dH 1 qt VH<|zD 1 ?_
   obtain⟨l49,awN,h49⟩:=dY.get VH
   obtain hwr:=hW.rng _ hwm _ _ _ awN yB
   obtain bc7:=(hO.ways.2 _ (zL awN)).1.2
   obtain⟨aNd,aNc,aM7,aNb,rfl,aM9,aNa,aM8⟩:=h49
   refine jl 0 ((qp _ _ VH).ext (uD bL))<|zD 2<|ja (Ga+1) (by omega)<|jcB (lo:=Ga) (hi:=(Ga+1)) ((show a8 _ _ _ _ _ from ⟨aNd,aNc,aM7,aNb,rfl,aM9,aNa,aM8⟩).up bL) (by omega) (fun v53 wK=>?_)
   obtain⟨LI,aCe,aCa,LG,rfl,aCc,aCd,aCb⟩:=wK
   refine zD 1<|aS 14 fun rZ r8 qM=>jn fun b55=>ep qM (zN 1 7)<|aS 15 fun sL sR qL=>gL (sz:=1) (ps:=es) (qs:=[(.slice LI (((((l49).take (Ga+1).toNat).drop Ga.toNat)).length) LG:Value)]) (enc:=fB) (w:= .slice (some ⟨b55,0,none⟩) 1 1) [1] [0] [(b55,.cells ⟨([(.slice LI (((((l49).take (Ga+1).toNat).drop Ga.toNat)).length) LG:Value)].map fB).flatten⟩ 81 (0,0))] (hJ.2.1) (fun s _ hZ=>bN [(.slice LI (((((l49).take (Ga+1).toNat).drop Ga.toNat)).length) LG:Value)] (hZ _ (.head _)) (by intro p hp;rfl)) (by intro p hp;rw[List.mem_singleton] at hp;subst hp;exact ah rfl) (by simp<;>omega) (fun v56 L56 qF=>?_)
   obtain⟨Qk,Qh,DF⟩:=qF.form
   subst DF
   refine fR qL [[],[5]]<|zD 1<|aS 17 fun A0 Bm Au=>jd 1 [2]<|gA Au<|zD 2<|ja ((j:Int)+1) (by omega)<|zD 2<|bF lG (⟨j+1,(.slice Qk ((es++[(.slice LI (((((l49).take (Ga+1).toNat).drop Ga.toNat)).length) LG:Value)])).length Qh),L56,(es++[(.slice LI (((((l49).take (Ga+1).toNat).drop Ga.toNat)).length) LG:Value)])⟩) ⟨⟨by dsimp only;omega,by simp only[zM];omega⟩,qF,by rw[j6 (aph awN yB)];exact hJ.2.2.snoc (by rw[show Ga.toNat+1=(Ga+1).toNat by omega];exact⟨LI,aCe,aCa,LG,rfl,aCc,aCd,aCb⟩)⟩ (by dsimp only;omega) [0,2,3,4,5,6,7] (Sub.refl _)
  refine zD 3 ?_
  have hS6:dc (fun w l=>a8 yt w 7 iu l) es (B9 K.ways wF):=by have:=hJ.2.2;rwa[List.take_of_length_le (by simp only[B9,List.length_zipWith];omega)] at this
  refine zD 1<|jn fun b9=>jd 10 [5]<|dL [1,1,1,0,1,0,0,1,1,0,0,1,1,1,1,0,1,0,0] [K1] (fun(zz:Nat×bD)=>[(1,zP b1),(2,zP b2),(3,zP b3),(6,zP b6),(9,zP b9),(21,.slice a21 KU.length c21),(22,zI (KU.length:Int)),(23,zI (k:Int)),(60,.slice jD K.before.length jv),(61,zI (K.before.length:Int)),(62,zI (zz.1:Int))]) (fun zz=>[.b b9 (.cells ⟨[.bool (zz.2.c 0 0),.bool (zz.2.c 0 1),.bool (zz.2.c 0 2),.bool (zz.2.c 0 3),.bool (zz.2.c 1 0),.bool (zz.2.c 1 1),.bool (zz.2.c 1 2),.bool (zz.2.c 1 3),.bool (zz.2.c 2 0),.bool (zz.2.c 2 1),.bool (zz.2.c 2 2),.bool (zz.2.c 2 3),.bool (zz.2.c 3 0),.bool (zz.2.c 3 1),.bool (zz.2.c 3 2),.bool (zz.2.c 3 3)]⟩ 159 (0,0)),.l LT,.b b6 (.cells ⟨[.slice kg fD.length jo,vT,.slice fa 0 fc]⟩ 31 (0,0)),.l LR,.b Jq (.cells ⟨[.slice kg fD.length jo,.slice eB fK.length dH,.slice fa 0 fc,.slice dS K.cs.length dP,.slice dC hv.length de,.slice ju K.rules.length jq,.slice jD K.before.length jv,.slice iW K.after.length iQ,zI K.gone,zI K.new,zI K.ab,.slice fp K.facts.length eS,vR]⟩ 128 (0,0)),.b b1 (.cells ⟨[.slice kg fD.length jo,.slice eB fK.length dH,.slice fa 0 fc,.slice dS K.cs.length dP,.slice dC hv.length de,.slice ju K.rules.length jq,.slice jD K.before.length jv,.slice iW K.after.length iQ,zI K.gone,zI K.new,zI K.ab,.slice fp K.facts.length eS]⟩ 40 (0,0)),.b b2 (.cells ⟨[zP Jq]⟩ 104 (0,0)),.b b3 (.cells ⟨[zI 0]⟩ 46 (0,0))]) (fun zz=>zz.1≤K.before.length∧FZ (kZ K q8 wF).c zz.1 0 zz.2) (fun zz=>K.before.length-zz.1) (⟨0,⟨fun _ _=>false⟩⟩) ⟨by dsimp only;omega,fun x y=>by simp⟩ (zN 0 8) ?_
  rintro⟨i,r⟩ hQ K6 hK6 rest
  dsimp only at hQ
  refine zD 5<|zJ 63 ((i:Int) <(K.before.length:Int)) (fun h9=>?_) fun h9=>?_
  ·
   refine zD 7 ?_
   obtain⟨Qb,ag1⟩:=zG K.before i
   refine fL jv 5 Gi ag1<|jl 0 ((Gh _ _ ag1).ext (uD bL))<|jn fun Uh=>jd 7 [0,3,0]<|jp (vs:=[.agg ⟨[.string Qb.name,zI Qb.st,zI Qb.no,zI Qb.head,.bool Qb.bold]⟩]) [] [] (fun aF hs hZ=>YQ)<|aS 3 fun adk aea OI=>jcL (vs:=[.agg ⟨[.slice kg fD.length jo,vT,.slice fa 0 fc]⟩,.agg ⟨[zI Qb.st,zI Qb.no,zI 0]⟩]) [] [2] LT (fun aF hs hZ=>(h47 _ hwm _ (zL ag1)).2 _ (bL.trans hs) _ _ _ _ _ rfl ⟨_,hJ.2.1.jC hZ,hS6.imp fun _ _ k=>k.up hs⟩) ?_
   rintro _ Y71 ⟨a71,n71,c71,rfl,aPs⟩
   refine ep OI (zN 1 9)<|zD 9<|jp (vs:=[zI 0]) [] [] (fun aF hs hZ=>BI)<|jf [0] Y71 (fun aMB abM ah8=>?_)
   obtain⟨qPa,qPb,qPo,qPc,heP,qPk,qPh,qPl⟩:=aPs _ ah8
   simp only[Value.slice.injEq] at heP
   obtain⟨rfl,rfl,rfl⟩:=heP
   refine jd 9 [6]<|dL [1,1,1,0,1,0,0,1,1,0,0,1,1,1,1,0,1,0,0,1,1,0,0,1,1,1,1,0,0] [K1,K6] (fun(zz:Nat×bD)=>[(1,zP b1),(2,zP b2),(3,zP b3),(6,zP b6),(9,zP b9),(10,zI (i:Int)),(12,.slice a71 ((q8 wF Qb).length) c71),(21,.slice a21 KU.length c21),(22,zI (KU.length:Int)),(23,zI (k:Int)),(60,.slice jD K.before.length jv),(61,zI (K.before.length:Int)),(62,zI (i:Int)),(77,.slice iW K.after.length iQ),(78,zI (K.after.length:Int)),(79,zI (zz.1:Int))]) (fun zz=>[.b b9 (.cells ⟨[.bool (zz.2.c 0 0),.bool (zz.2.c 0 1),.bool (zz.2.c 0 2),.bool (zz.2.c 0 3),.bool (zz.2.c 1 0),.bool (zz.2.c 1 1),.bool (zz.2.c 1 2),.bool (zz.2.c 1 3),.bool (zz.2.c 2 0),.bool (zz.2.c 2 1),.bool (zz.2.c 2 2),.bool (zz.2.c 2 3),.bool (zz.2.c 3 0),.bool (zz.2.c 3 1),.bool (zz.2.c 3 2),.bool (zz.2.c 3 3)]⟩ 159 (0,0)),.b Uh (.cells ⟨[.string Qb.name,zI Qb.st,zI Qb.no,zI Qb.head,.bool Qb.bold]⟩ 44 (0,0)),.l LT,.b b6 (.cells ⟨[.slice kg fD.length jo,vT,.slice fa 0 fc]⟩ 31 (0,0)),.l LR,.b Jq (.cells ⟨[.slice kg fD.length jo,.slice eB fK.length dH,.slice fa 0 fc,.slice dS K.cs.length dP,.slice dC hv.length de,.slice ju K.rules.length jq,.slice jD K.before.length jv,.slice iW K.after.length iQ,zI K.gone,zI K.new,zI K.ab,.slice fp K.facts.length eS,vR]⟩ 128 (0,0)),.b b1 (.cells ⟨[.slice kg fD.length jo,.slice eB fK.length dH,.slice fa 0 fc,.slice dS K.cs.length dP,.slice dC hv.length de,.slice ju K.rules.length jq,.slice jD K.before.length jv,.slice iW K.after.length iQ,zI K.gone,zI K.new,zI K.ab,.slice fp K.facts.length eS]⟩ 40 (0,0)),.b b2 (.cells ⟨[zP Jq]⟩ 104 (0,0)),.b b3 (.cells ⟨[zI 0]⟩ 46 (0,0))]) (fun zz=>zz.1≤K.after.length∧FZ (kZ K q8 wF).c i zz.1 zz.2) (fun zz=>K.after.length-zz.1) (⟨0,r⟩) ⟨by dsimp only;omega,hQ.2⟩ [1,0,2,3,4,5,6,7,8] ?_
   rintro⟨j,r⟩ hU K8 hK8 rest
   dsimp only at hU
   refine zD 5<|zJ 80 ((j:Int) <(K.after.length:Int)) (fun SW=>?_) fun SW=>?_
   ·
    refine zD 7 ?_
    obtain⟨F8,VF⟩:=zG K.after j
    refine fL iQ 5 EA VF<|jl 0 ((Ez _ _ VF).ext (uD (bL.trans abM)))<|jn fun Jr=>jd 3 [0] ?_
    have hRW:(kZ K q8 wF).c i j=decide (bJ (pN F8.st F8.no 0) (q8 wF Qb) 0≥0):=by simp only[kZ,ag1,VF]
    refine jd 5 [0]<|HN (b:=b9) (off:=0) (len:=4) (sz:=4) (i:Int) (by omega)<|jp (vs:=[.agg ⟨[.string F8.name,zI F8.st,zI F8.no,zI F8.head,.bool F8.bold]⟩]) [] [] (fun aF hs hZ=>YQ)<|jp (vs:=[.slice a71 ((q8 wF Qb).length) c71,.agg ⟨[zI F8.st,zI F8.no,zI 0]⟩]) [] [] (fun aF hs hZ=>Mu ((show a8 _ _ _ _ _ from ⟨a71,qPb,qPo,c71,rfl,qPk,qPh,qPl⟩).up hs) (h47 _ hwm _ (zL ag1)).1)<|HN (b:=b9) (off:=0+(i:Int).toNat*4) (len:=4) (sz:=1) (j:Int) (by omega)<|aS 8 fun Ni Nt KD=>PS 1 b9 (0+(i:Int).toNat*4+(j:Int).toNat*1) [.bool (r.c 0 0),.bool (r.c 0 1),.bool (r.c 0 2),.bool (r.c 0 3),.bool (r.c 1 0),.bool (r.c 1 1),.bool (r.c 1 2),.bool (r.c 1 3),.bool (r.c 2 0),.bool (r.c 2 1),.bool (r.c 2 2),.bool (r.c 2 3),.bool (r.c 3 0),.bool (r.c 3 1),.bool (r.c 3 2),.bool (r.c 3 3)] [.bool (decide (bJ (pN F8.st F8.no 0) (q8 wF Qb) 0≥0))] 159 (by intro v hv;rw[List.mem_singleton] at hv;subst hv;rfl) (X3 (r:=r) (by omega) (by omega)) ?_
    refine jmw 0 [.b b9 (.cells ⟨[.bool ((jI r i j ((kZ K q8 wF).c i j)).c 0 0),.bool ((jI r i j ((kZ K q8 wF).c i j)).c 0 1),.bool ((jI r i j ((kZ K q8 wF).c i j)).c 0 2),.bool ((jI r i j ((kZ K q8 wF).c i j)).c 0 3),.bool ((jI r i j ((kZ K q8 wF).c i j)).c 1 0),.bool ((jI r i j ((kZ K q8 wF).c i j)).c 1 1),.bool ((jI r i j ((kZ K q8 wF).c i j)).c 1 2),.bool ((jI r i j ((kZ K q8 wF).c i j)).c 1 3),.bool ((jI r i j ((kZ K q8 wF).c i j)).c 2 0),.bool ((jI r i j ((kZ K q8 wF).c i j)).c 2 1),.bool ((jI r i j ((kZ K q8 wF).c i j)).c 2 2),.bool ((jI r i j ((kZ K q8 wF).c i j)).c 2 3),.bool ((jI r i j ((kZ K q8 wF).c i j)).c 3 0),.bool ((jI r i j ((kZ K q8 wF).c i j)).c 3 1),.bool ((jI r i j ((kZ K q8 wF).c i j)).c 3 2),.bool ((jI r i j ((kZ K q8 wF).c i j)).c 3 3)]⟩ 159 (0,0))] (L:=[(b9,.cells ⟨dK [.bool (r.c 0 0),.bool (r.c 0 1),.bool (r.c 0 2),.bool (r.c 0 3),.bool (r.c 1 0),.bool (r.c 1 1),.bool (r.c 1 2),.bool (r.c 1 3),.bool (r.c 2 0),.bool (r.c 2 1),.bool (r.c 2 2),.bool (r.c 2 3),.bool (r.c 3 0),.bool (r.c 3 1),.bool (r.c 3 2),.bool (r.c 3 3)] (0+(i:Int).toNat*4+(j:Int).toNat*1) [.bool (decide (bJ (pN F8.st F8.no 0) (q8 wF Qb) 0≥0))]⟩ 159 (0,0))]) (by rw[XY (by omega) (by omega),hRW];rfl) ?_
    refine fR KD []<|zD 2<|ja ((j:Int)+1) (by omega)<|zD 2<|bF hK8 (⟨j+1,(jI r i j ((kZ K q8 wF).c i j))⟩) ⟨by dsimp only;omega,hU.2.set⟩ (by dsimp only;omega) [0,2,3,4,5,6,7,8,9] (Sub.refl _)
   refine zD 3<|ja ((i:Int)+1) (by omega)<|zD 2<|bF hK6 (⟨i+1,r⟩) ⟨by dsimp only;omega,FZ.nxt (fun x y h=>atU x y h) (by have:=hU.2;rwa[show j=K.after.length by omega] at this)⟩ (by dsimp only;omega) [0,2,3,4,5,6,7,8] abM
  refine jd 9 [6,6,4,0]<|aS 6 fun yG yI qN=>jn fun aIe=>ep qN (zN 1 8)<|aS 7 fun Eh Eo wQ=>gL (sz:=16) (ps:=((W.take k).map (kZ K q8))) (qs:=[(r:bD)]) (enc:=B6) (w:= .slice (some ⟨aIe,0,none⟩) 1 1) [4] [0] [(aIe,.cells ⟨([(r:bD)].map B6).flatten⟩ 159 (0,0))] (hI.2) (fun s _ hZ=>bN [(r:bD)] (hZ _ (.head _)) (by intro p hp;rfl)) (fun p _=>ah rfl) (by simp only[List.length_map,List.length_take,List.length_cons,List.length_nil];omega) (fun aZP aVq Zh=>?_)
  obtain⟨aA3,aAV,aFW⟩:=Zh.form
  subst aFW
  refine fR wQ [[7],[7]]<|zD 2<|aS 10 fun GC GS wP=>jd 1 [5]<|fR wP []<|zD 2<|ja ((k:Int)+1) (by omega)<|zD 2<|bF bE (⟨k+1,(.slice aA3 ((((W.take k).map (kZ K q8))++[(r:bD)])).length aAV),aVq⟩) ⟨by dsimp only;omega,by rw[j6 aFt,List.map_append];have e:=FZ.fin (fun x y h=>atV x y h) (by have:=hQ.2;rwa[show i=K.before.length by omega] at this);subst e;exact Zh⟩ (by dsimp only;omega) [0,5,6,7,8] (Sub.refl _)
 refine jd 9 [3,3,4]<|jrD (g:=83) (ca:=[zP b2,zP b3]) ⟨rfl,rfl⟩ (.tuple ⟨[zP Jq,zI 0]⟩) [3,4] [1,0] ((Jq,.cells ⟨[.slice kg fD.length jo,.slice eB fK.length dH,.slice fa 0 fc,.slice dS K.cs.length dP,.slice dC hv.length de,.slice ju K.rules.length jq,.slice jD K.before.length jv,.slice iW K.after.length iQ,zI K.gone,zI K.new,zI K.ab,.slice fp K.facts.length eS,vR]⟩ 128 (0,0))::LR) 9 bL ⟨_,_,rfl,rfl,Jq,rfl,fun kU hs hk=>by have hvt:=hI.2;rw[List.take_of_length_le (by omega)] at hvt;exact⟨⟨_,_,_,_,_,_,_,_,_,_,hv,hk _ (.head _),nF.up hs,mH,u2.up hs,uB.up hs,ha0.up hs,hf0.up hs,hvt.jC hk.tail⟩,⟨_,hk _ (.head _),hvt.jC hk.tail⟩⟩⟩
theorem TR.v(h:TR K):eH K where
 rules:=⟨by have:=h.rules.1;omega,fun r hr=>atS (h.rules.2 r hr)⟩
 before:=⟨by have:=h.before.1;omega,fun p hp=>by
  obtain⟨h1,h2,_⟩:=(h.before.2 p hp).1
  exact⟨⟨⟨h1.1.1,by have:=h1.1.2;omega⟩,h1.2⟩,h2⟩⟩
 after:=⟨by have:=h.after.1;omega,fun p hp=>by
  obtain⟨h1,h2,_⟩:=(h.after.2 p hp).1
  exact⟨⟨⟨h1.1.1,by have:=h1.1.2;omega⟩,h1.2⟩,h2⟩⟩
 cX:=h.cX.v
 facts:=⟨by have:=h.facts.1;omega,h.facts.2⟩
theorem qZ.up{aC:Nat→Option Obj}(h:qZ ro l W)(hs:Sub ro aC):qZ aC l W:=fun aF h1=>h aF (hs.trans h1)
theorem yf.up{aC:Nat→Option Obj}{q8:List Int→aB→List an}(h:yf ro l K W q8)(hs:Sub ro aC):yf aC l K W q8:=fun w hw x hx=>⟨(h w hw x hx).1,fun aF h1=>(h w hw x hx).2 aF (hs.trans h1)⟩
theorem apz{q8:List Int→aB→List an}(hK:eR ro l K)(hO:jm K)(hV:eH K)(hW:Xd K W)(h76:qZ ro l W)(h47:yf ro l K W q8):iz ro l K (W.map (kZ K q8)):=
 fun aF hs=>(agO (hK.up hs) hO hV hW (h76.up hs) (h47.up hs)).mono fun _ _ ⟨f,e,h⟩=>⟨f,e,fun kU h1 h2=>(h kU h1 h2).1⟩
def rq(a b:Int):Int:=if a <b then-1 else if a>b then 1 else 0
def orL:List Int→Int
 | []=>0
 |x::l=>if x=0 then orL l else x
theorem afq{l:List Int}{x:Int}(h:l[k]?=some x):orL (l.drop k)=if x=0 then orL (l.drop (k+1)) else x:=by rw[fG h];rfl
theorem amX{l:List Int}(h:¬k <l.length):orL (l.drop k)=0:=by rw[eO h];rfl
def acp(x y:ai):Int:=orL [rq x.n y.n,rq x.l y.l]
theorem apm{x y:ai}(h:amR x y):acp x y <0:=by
 rcases h with h| ⟨h1,h2⟩
 ·have e:rq x.n y.n= -1:=if_pos h
  simp[acp,orL,e]
 have e:rq x.n y.n=0:=by simp only[rq];rw[if_neg (by omega),if_neg (by omega)]
 have e2:rq x.l y.l= -1:=if_pos h2
 simp[acp,orL,e,e2]
theorem aG8{a:Int}:dv zT 181 [zI a] ro (.bool false):=by
 refine zE<|zD 12<|zX (.bool (!decide (a=a))) ⟨by simp,rfl⟩
theorem ayk{a:Int}:dv zT 153 [zI a,zI b] ro (zI (rq a b)):=by
 refine zE<|zD 7<|jp (vs:=[zI a]) [] [] (fun aF hs hZ=>aG8)<|zD 5<|jp (vs:=[zI b]) [] [] (fun aF hs hZ=>aG8)<|zD 23<|zJ 16 (a <b) (fun h1=>?_) fun h1=>?_
 ·
  refine zD 6<|zX (zI (-1)) ⟨by simp only[rq];first|rw[if_pos (by omega)]|rw[if_neg (by omega),if_pos (by omega)]|rw[if_neg (by omega),if_neg (by omega)],rfl⟩
 refine zD 9<|zJ 19 (a>b) (fun h2=>?_) fun h2=>?_
 ·
  refine zD 6<|zX (zI 1) ⟨by simp only[rq];first|rw[if_pos (by omega)]|rw[if_neg (by omega),if_pos (by omega)]|rw[if_neg (by omega),if_neg (by omega)],rfl⟩
 refine zD 7<|zX (zI 0) ⟨by simp only[rq];first|rw[if_pos (by omega)]|rw[if_neg (by omega),if_pos (by omega)]|rw[if_neg (by omega),if_neg (by omega)],rfl⟩
theorem gOr{v:Value}(hl:a8 ro v 1 cD xs)(hn:xs.length≤1000):dv zT 200 [v] ro (zI (orL xs)):=by
 obtain⟨dB,mP,mO,dz,rfl,qd,gY,jV⟩:=hl
 refine zE<|zD 16<|dL [1,1,0,1,0,0] [] (fun(zz:Nat)=>[(3,zI 0),(6,.slice dB xs.length dz),(7,zI (xs.length:Int)),(8,zI (zz:Int))]) (fun zz=>[]) (fun zz=>zz≤xs.length∧orL xs=orL (xs.drop zz)) (fun zz=>xs.length-zz) 0 ⟨by omega,rfl⟩ [] ?_
 rintro k hI K1 bE rest
 refine zD 5<|zJ 9 ((k:Int) <(xs.length:Int)) (fun h1=>?_) fun h1=>?_
 ·
  refine zD 6 ?_
  obtain⟨x10,sr⟩:=zG xs k
  refine fL dz 1 gY sr<|jl 0 (jV _ _ sr)<|zD 8<|js 14 (!decide (x10=0)) (fun h2=>?_) (fun h2=>?_)
  ·
   replace h2:=of_decide_eq_false (by simpa using h2)
   refine zD 7<|zX (zI x10) ⟨by rw[hI.2,afq sr,if_neg (by simp_all)],rfl⟩
  replace h2:=of_decide_eq_true (by simpa using h2)
  refine zD 3<|ja ((k:Int)+1) (by omega)<|zD 2<|bF bE (k+1) ⟨by omega,by rw[hI.2,afq sr,if_pos (by simp_all)]⟩ (by omega) [] (Sub.refl _)
 refine zD 8<|zX (zI 0) ⟨by rw[hI.2,amX (by omega)],rfl⟩
theorem ar3{x y:ai}:dv zT 201 [.agg ⟨[zI x.n,zI x.l]⟩,.agg ⟨[zI y.n,zI y.l]⟩] ro (zI (acp x y)):=by
 refine zE<|zD 2<|jn fun b2=>jn fun b3=>jd 12 [1,0,1,0]<|jp (vs:=[zI x.n,zI y.n]) [] [] (fun aF hs hZ=>ayk)<|jp (vs:=[zI x.l,zI y.l]) [] [] (fun aF hs hZ=>ayk)<|aS 10 fun E5 E9 Cy=>jn fun Jr=>ep Cy [1,2]<|jp (vs:=[.slice (some ⟨Jr,0,none⟩) 2 2]) [0] [(Jr,.cells ⟨([(rq x.n y.n),(rq x.l y.l)].map cD).flatten⟩ 3 (0,0))] (fun aF hs hZ=>gOr (bV [(rq x.n y.n),(rq x.l y.l)] hZ.head (by intro p hp;rfl)) (by first|omega| (simp only[List.length_set,zM];omega))) ?_
 refine zD 3<|zX (zI (orL [(rq x.n y.n),(rq x.l y.l)])) ⟨rfl,rfl⟩
theorem BU{lo hi:Int}:dv zT 188 [zI n,zI lo,zI hi] ro (.bool (gT n lo hi)):=by
 refine zE<|zD 10<|jj 4 [(6,.bool false),(14,.bool ((decide (lo≤n))&&(decide (n≤hi))))] (fun gN=>?_) (fun hj=>?_)
 rotate_left
 refine js 10 (decide (lo≤n)) (fun h1=>?_) (fun h1=>?_)
 ·
  have fH:=h1
  replace fH:=of_decide_eq_true fH
  refine zD 4<|jw 14 (.bool ((decide (lo≤n))&&(decide (n≤hi)))) (w:= .bool (decide (n≤hi))) (by rw[h1]<;>rfl) ?_
  exact zK hj
 ·
  have fH:=h1
  replace fH:=of_decide_eq_false fH
  refine zD 4<|jw 14 (.bool ((decide (lo≤n))&&(decide (n≤hi)))) (w:= .bool false) (by rw[h1]<;>rfl) ?_
  exact zK hj
 refine zD 3<|zX (.bool ((decide (lo≤n))&&(decide (n≤hi)))) ⟨rfl,rfl⟩
theorem ayf{x:ai}(hx:Cm x):dv zT 190 [.agg ⟨[zI x.n,zI x.l]⟩] ro (.bool true):=by
 obtain⟨⟨hx1,hx2⟩,hx3,hx4⟩:=hx
 refine zE<|zD 2<|jn fun b1=>jd 6 [0]<|jp (vs:=[zI x.n,zI 1,zI 40]) [] [] (fun aF hs hZ=>BU)<|zD 1<|jj 4 [(2,.bool false),(10,.bool ((gT x.n 1 40)&&(gT x.l 0 4)))] (fun gN=>?_) (fun hj=>?_)
 rotate_left
 refine js 6 (gT x.n 1 40) (fun h1=>?_) (fun h1=>?_)
 ·
  refine jd 2 [0]<|jp (vs:=[zI x.l,zI 0,zI 4]) [] [] (fun aF hs hZ=>BU)<|zD 1<|jw 10 (.bool ((gT x.n 1 40)&&(gT x.l 0 4))) (w:= .bool (gT x.l 0 4)) (by rw[h1]<;>rfl) ?_
  exact zK hj
 ·
  refine zD 4<|jw 10 (.bool ((gT x.n 1 40)&&(gT x.l 0 4))) (w:= .bool false) (by rw[h1]<;>rfl) ?_
  exact zK hj
 refine zD 3<|zX (.bool ((gT x.n 1 40)&&(gT x.l 0 4))) ⟨by simp only[gT,Value.bool.injEq,Bool.and_eq_true,decide_eq_true_eq];omega,rfl⟩
theorem ayl{v:Value}{S:List (List ai)}(hS:cQ ro v S)(hO:fo S):dv zT 187 [.agg ⟨[v]⟩] ro (zI 0):=by
 obtain⟨ws,ht,dr⟩:=hS
 obtain⟨eB,yM,yK,dH,rfl,yL,qt,qp⟩:=ht
 have hln:=dr.len
 have Kt:=hO.two
 refine zE<|zD 2<|jn fun b1=>jd 10 [0]<|zJ 10 ((ws.length:Int)=0) (fun h1=>?_) fun h1=>?_
 ·
  exfalso;omega
 refine jd 10 [0]<|zJ 14 ((ws.length:Int)>3) (fun h2=>?_) fun h2=>?_
 ·
  exfalso;omega
 refine jd 11 [0]<|dL [1,1,1,0,1,0,0] [] (fun(zz:Nat)=>[(16,.slice eB ws.length dH),(17,zI (ws.length:Int)),(18,zI (zz:Int))]) (fun zz=>[.b b1 (.cells ⟨[.slice eB ws.length dH]⟩ 27 (0,0))]) (fun zz=>zz≤ws.length) (fun zz=>ws.length-zz) 0 (by omega) [0] ?_
 rintro k hI K1 bE rest
 refine zD 5<|zJ 19 ((k:Int) <(ws.length:Int)) (fun h3=>?_) fun h3=>?_
 ·
  refine zD 6 ?_
  obtain⟨x20,Ot⟩:=zG ws k
  refine fL dH 1 qt Ot ?_
  obtain⟨l21,awP,h21⟩:=dr.get Ot
  obtain bdb:=hO.len _ (zL awP)
  obtain aPF:=hO.ok _ (zL awP)
  obtain an5:=hO.asc _ (zL awP)
  obtain⟨aCS,bbg,bbe,amO,rfl,bbf,aCR,aCQ⟩:=h21
  refine jl 0 (qp _ _ Ot)<|zD 9<|zJ 24 ((l21.length:Int)>8) (fun h4=>?_) fun h4=>?_
  ·
   exfalso;omega
  refine zD 9<|dL [1,1,1,0,1,0,0,1,1,0,0,1,1,1,0,0] [K1] (fun(zz:Nat)=>[(4,.slice aCS l21.length amO),(16,.slice eB ws.length dH),(17,zI (ws.length:Int)),(18,zI (k:Int)),(25,.slice aCS l21.length amO),(26,zI (l21.length:Int)),(27,zI (zz:Int))]) (fun zz=>[.b b1 (.cells ⟨[.slice eB ws.length dH]⟩ 27 (0,0))]) (fun zz=>zz≤l21.length) (fun zz=>l21.length-zz) 0 (by omega) [0] ?_
  rintro i hJ K2 lG rest
  refine zD 5<|zJ 28 ((i:Int) <(l21.length:Int)) (fun h5=>?_) fun h5=>?_
  ·
   refine zD 7 ?_
   obtain⟨oH,jL⟩:=zG l21 i
   refine fL amO 2 aCR jL<|jl 0 (aCQ _ _ jL)<|jn fun b6=>jd 7 [0,0]<|jp (vs:=[.agg ⟨[zI oH.n,zI oH.l]⟩]) [] [] (fun aF hs hZ=>(ayf (x:=oH) (aPF _ (zL jL))))<|zD 9<|js 2 (decide ((i:Int)>0)) (fun h6=>?_) (fun h6=>?_)
   ·
    have SS:=h6
    replace SS:=of_decide_eq_true SS
    refine zD 2<|ja ((i:Int)-1) (by omega) ?_
    obtain⟨x41,avS⟩:=zG l21 (((i:Int)-1).toNat)
    refine PT ((i:Int)-1) amO 2 aCR avS (by omega)<|jl 0 (aCQ _ _ avS)<|jd 1 [0]<|jp (vs:=[.agg ⟨[zI x41.n,zI x41.l]⟩,.agg ⟨[zI oH.n,zI oH.l]⟩]) [] [] (fun aF hs hZ=>(ar3 (x:=x41) (y:=oH)))<|zD 3<|zJ 46 ((acp x41 oH)≥0) (fun h7=>?_) fun h7=>?_
    ·
     exfalso;have:=apm (qu an5 (show ((i:Int)-1).toNat <i by omega) avS jL);simp_all;omega
    refine zD 3<|ja ((i:Int)+1) (by omega)<|zD 2<|bF lG (i+1) (by omega) (by omega) [1] (Sub.refl _)
   have SS:=h6
   replace SS:=of_decide_eq_false SS
   refine zD 13<|ja ((i:Int)+1) (by omega)<|zD 2<|bF lG (i+1) (by omega) (by omega) [1] (Sub.refl _)
  refine zD 3<|ja ((k:Int)+1) (by omega)<|zD 2<|bF bE (k+1) (by omega) (by omega) [0] (Sub.refl _)
 refine zD 7<|zX (zI 0) ⟨rfl,rfl⟩
abbrev px(x:an):Value:= .agg ⟨cS x⟩
instance:DecidableEq an:=fun x y=>match x,y with
 | ⟨a,b,c⟩,⟨d,e,f⟩=>if h:a=d∧b=e∧c=f then isTrue (by obtain⟨rfl,rfl,rfl⟩:=h;rfl) else isFalse fun k=>h (by cases k;exact⟨rfl,rfl,rfl⟩)
def m9(s:Int)(x:ai):an:=⟨s,x.n,x.l⟩
def Sf(S:List (List ai)):Nat→List an
 |0=>[]
 |k+1=>Sf S k++(match S[k]? with
  |some l=>l.map (m9 k)
  |none=>[])
def bI(S:List (List ai)):List an:=Sf S S.length
theorem av6{S:List (List ai)}{l:List ai}(h:S[k]?=some l):Sf S (k+1)=Sf S k++l.map (m9 k):=by simp only[Sf,h]
theorem Gn{S:List (List ai)}{x:an}:∀ {k:Nat},x∈Sf S k↔∃j l p,j <k∧S[j]?=some l∧p∈l∧x=m9 j p
 |0=>by simp[Sf]
 |k+1=>by
  simp only[Sf,List.mem_append,Gn (k:=k)]
  constructor
  ·rintro(⟨j,l,p,h1,h2⟩|h)
   ·exact⟨j,l,p,by omega,h2⟩
   split at h
   ·rename_i l hl
    obtain⟨p,hp,rfl⟩:=List.mem_map.1 h
    exact⟨k,l,p,by omega,hl,hp,rfl⟩
   cases h
  rintro⟨j,l,p,h1,h2,h3,rfl⟩
  by_cases hj:j=k
  ·subst hj;rw[h2];exact .inr (List.mem_map_of_mem h3)
  exact .inl ⟨j,l,p,by omega,h2,h3,rfl⟩
theorem Ic{S:List (List ai)}{j:Nat}{l:List ai}{p:ai}(h1:S[j]?=some l) (h2:p∈l):m9 j p∈bI S:=Gn.2 ⟨j,l,p,(List.getElem?_eq_some_iff.1 h1).1,h1,h2,rfl⟩
theorem VM{S:List (List ai)}(hO:fo S):∀k,(Sf S k).Nodup
 |0=>List.nodup_nil
 |k+1=>by
  simp only[Sf]
  refine List.nodup_append.2 ⟨VM hO k,?_,fun x hx y hy e=>?_⟩
  ·split
   ·rename_i l hl
    refine List.pairwise_map.2 ((hO.asc l (zL hl)).imp fun {a b} h e=>?_)
    simp only[m9,an.mk.injEq] at e
    rcases h with h|h<;>omega
   exact List.nodup_nil
  subst e
  obtain⟨j,l,p,h1,_,_,rfl⟩:=Gn.1 hx
  split at hy
  ·obtain⟨q,_,hq⟩:=List.mem_map.1 hy
   simp only[m9,an.mk.injEq] at hq
   omega
  cases hy
theorem Ov{S:List (List ai)}(hO:fo S):∀k,(Sf S k).length≤4*k
 |0=>by simp[Sf]
 |k+1=>by
  have:=Ov hO k
  simp only[Sf,List.length_append]
  split
  ·rename_i l hl
   have:=hO.len l (zL hl)
   rw[List.length_map];omega
  simp;omega
theorem uz{S:List (List ai)}(hO:fo S):(bI S).length≤8:=by
 have:=Ov hO S.length
 have:=hO.two
 unfold bI;omega
theorem aHw(a b:an):EqD zT 10000 164 (px a) (px b) (decide (a=b)):=by
 have h:=(jO (ig Tryz.typeInfo164 Tryz.underlying164 rfl rfl rfl rfl rfl rfl) Tryz.stoodInHeld164 (.cons (by decide) (cg fw rfl) (cg fw rfl) (gk fw _ _) (.cons (by decide) (ud (ig Tryz.typeInfo73 Tryz.underlying73 rfl rfl rfl rfl rfl rfl) rfl) (ud (ig Tryz.typeInfo73 Tryz.underlying73 rfl rfl rfl rfl rfl rfl) rfl) (Ti _ _ _ _ 9997) .nil)):EqD zT 10000 164 (px a) (px b) _)
 have e:(a.h==b.h&&((a.n==b.n&&(a.l==b.l&&true))&&true))=decide (a=b):=by
  rcases a with ⟨x,y,z⟩;rcases b with ⟨u,v,w⟩
  rw[Bool.eq_iff_iff];simp
 rwa[e] at h
theorem aUf(a:an):CkD zT 10000 164 (px a):=
 Tu (ig Tryz.typeInfo164 Tryz.underlying164 rfl rfl rfl rfl rfl rfl) (.cons (by decide) (cg fw rfl) (I6 fw _) (.cons (by decide) (ud (ig Tryz.typeInfo73 Tryz.underlying73 rfl rfl rfl rfl rfl rfl) rfl) (Tu (dep:=9998) (ig Tryz.typeInfo73 Tryz.underlying73 rfl rfl rfl rfl rfl rfl) (.cons (by decide) (cg fw rfl) (I6 fw _) (.cons (by decide) (cg fw rfl) (I6 fw _) .nil))) .nil))
theorem EK:TS zT 164 px:=agq (ig Tryz.typeInfo164 Tryz.underlying164 rfl rfl rfl rfl rfl rfl) (fun k=>⟨_,rfl⟩) aUf aHw (fun k=>by simp[Instr.sameBits])
def MV(Z:Cells)(F:List (an×Value))(g:an→an):Prop:=∀aC,Knows aC Z→∀x∈F,a8 aC x.2 3 cS [g x.1]
theorem IF[DecidableEq κ]{k:κ}:∀ {F:List (κ×Value)} {i:Nat},k∈F.map (·.1)→∃j v,sI k F i=some (j,v)
 | [],_,h=>by cases h
 |x::F,i,h=>by
  simp only[sI]
  split
  ·exact⟨_,_,rfl⟩
  rename_i hk
  refine IF ?_
  rcases List.mem_cons.1 h with h|h
  ·exact absurd h hk
  exact h
theorem YF[DecidableEq κ]{k:κ}{F:List (κ×Value)}(h:k∈F.map (·.1)):∃v,lkM k F=some v∧(k,v)∈F:=by
 obtain⟨j,v,h1⟩:=IF (i:=0) h
 exact⟨v,by simp[lkM,h1],zL (qS h1).2⟩
theorem adV[DecidableEq κ]{k:κ}{v:Value}{F:List (κ×Value)}(h:k∉F.map (·.1)):mN k v F=F++[(k,v)]:=by
 have:sI k F 0=none:=by
  cases hf:sI k F 0 with
  |none=>rfl
  |some y=>exact absurd (List.mem_map_of_mem (f:=(·.1)) (zL (qS (j:=y.1) (v:=y.2) hf).2)) h
 simp only[mN,this]
theorem Qn[DecidableEq κ]{k:κ}{v:Value}{F:List (κ×Value)}(h:k∈F.map (·.1))(hn:(F.map (·.1)).Nodup):(mN k v F).map (·.1)=F.map (·.1)∧∀x∈mN k v F,x=(k,v)∨(x∈F∧x.1≠k):=by
 obtain⟨j,u,h1⟩:=IF (i:=0) h
 have h2:=(qS h1).2
 rw[Nat.sub_zero] at h2
 obtain⟨hj,Uc⟩:=List.getElem?_eq_some_iff.1 h2
 simp only[mN,h1,Gd]
 refine⟨?_,fun x hx=>?_⟩
 ·rw[List.map_set]
  refine List.ext_getElem? fun i=>?_
  rw[List.getElem?_set]
  split
  ·rename_i hi;subst hi;simp[h2,hj,Uc]
  rfl
 obtain⟨i,hi⟩:=List.getElem?_of_mem hx
 rw[List.getElem?_set] at hi
 split at hi
 ·cases hi;exact .inl rfl
 rename_i JN
 refine .inr ⟨zL hi,fun e=>JN ?_⟩
 obtain⟨hi1,SC⟩:=List.getElem?_eq_some_iff.1 hi
 exact(List.getElem_inj (xs:=F.map (·.1)) (h₀:=by simpa using hj) (h₁:=by simpa using hi1) hn).1 (by simp[Uc,SC,e])
theorem MV.set{F:List (an×Value)}{g:an→an}(h:MV Z F g){k y:an}{v:Value}(hk:k∈F.map (·.1))(hn:(F.map (·.1)).Nodup)(hv:∀aC,Knows aC Z2→a8 aC v 3 cS [y]):MV (Z++Z2) (mN k v F) (fun x=>if x=k then y else g x):=fun aC hr x hx=>by
 rcases(Qn hk hn).2 x hx with rfl| ⟨h1,h2⟩
 ·simp only[if_true];exact hv aC hr.right
 simp only[h2,if_false];exact h aC hr.left x h1
theorem MV.add{F:List (an×Value)}{g:an→an}(h:MV Z F g){k:an}{v:Value}(hv:∀aC,Knows aC Z2→a8 aC v 3 cS [g k]):MV (Z++Z2) (F++[(k,v)]) g:=fun aC hr x hx=>by
 rcases List.mem_append.1 hx with h1|h1
 ·exact h aC hr.left x h1
 rw[List.mem_singleton] at h1;subst h1;exact hv aC hr.right
theorem aHk{v:Value}(hl:a8 ro v 1 cD xs)(hn:xs.length≤1000):dQ zT 101 [v] ro [] (fun r Y=>aw r 1 3 cD xs Y):=by
 obtain⟨dB,mP,mO,dz,rfl,qd,gY,jV⟩:=hl
 refine zE<|zD 8<|jsn 22 (a:=dB) (l:=xs.length) (c:=dz)<|zD 1<|js 4 (dB.isNone) (fun h1=>?_) (fun h1=>?_)
 ·
  refine zD 6<|zX (zS) (by rw[eN gY (by assumption)];exact aw.nil _ _ _)
 refine zD 4<|jn fun b5=>zD 1<|gL (sz:=1) (ps:=[]) (qs:=xs) (enc:=cD) (w:= .slice dB xs.length dz) [0] [] [] (aO (b:=b5) (T:=3)) (fun s he _=>⟨dB,mP,mO,dz,rfl,gY,fun i p hp=>(jV i p hp).ext he⟩) (fun p _=>ah rfl) (by simp<;>omega) (fun v7 L7 cm=>?_)
 rw[List.nil_append] at cm
 obtain⟨yp,yo,wO⟩:=cm.form
 subst wO
 refine zD 3<|zR ((.slice yp (xs).length yo)) [] [0] L7 cm
theorem aTU{v:Value}{xs:List ai}(hl:a8 ro v 2 cA xs)(hn:xs.length≤1000):dQ zT 97 [v] ro [] (fun r Y=>aw r 2 73 cA xs Y):=by
 obtain⟨dB,mP,mO,dz,rfl,qd,gY,jV⟩:=hl
 refine zE<|zD 8<|jsn 74 (a:=dB) (l:=xs.length) (c:=dz)<|zD 1<|js 4 (dB.isNone) (fun h1=>?_) (fun h1=>?_)
 ·
  refine zD 6<|zX (zS) (by rw[eN gY (by assumption)];exact aw.nil _ _ _)
 refine zD 4<|jn fun b5=>zD 1<|gL (sz:=2) (ps:=[]) (qs:=xs) (enc:=cA) (w:= .slice dB xs.length dz) [0] [] [] (aO (b:=b5) (T:=73)) (fun s he _=>⟨dB,mP,mO,dz,rfl,gY,fun i p hp=>(jV i p hp).ext he⟩) (fun p _=>ah rfl) (by simp<;>omega) (fun v7 L7 cm=>?_)
 rw[List.nil_append] at cm
 obtain⟨yp,yo,wO⟩:=cm.form
 subst wO
 refine zD 3<|zR ((.slice yp (xs).length yo)) [] [0] L7 cm
theorem aTV{v:Value}{xs:List an}(hl:a8 ro v 3 cS xs)(hn:xs.length≤1000):dQ zT 159 [v] ro [] (fun r Y=>aw r 3 164 cS xs Y):=by
 obtain⟨dB,mP,mO,dz,rfl,qd,gY,jV⟩:=hl
 refine zE<|zD 8<|jsn 160 (a:=dB) (l:=xs.length) (c:=dz)<|zD 1<|js 4 (dB.isNone) (fun h1=>?_) (fun h1=>?_)
 ·
  refine zD 6<|zX (zS) (by rw[eN gY (by assumption)];exact aw.nil _ _ _)
 refine zD 4<|jn fun b5=>zD 1<|gL (sz:=3) (ps:=[]) (qs:=xs) (enc:=cS) (w:= .slice dB xs.length dz) [0] [] [] (aO (b:=b5) (T:=164)) (fun s he _=>⟨dB,mP,mO,dz,rfl,gY,fun i p hp=>(jV i p hp).ext he⟩) (fun p _=>ah rfl) (by simp<;>omega) (fun v7 L7 cm=>?_)
 rw[List.nil_append] at cm
 obtain⟨yp,yo,wO⟩:=cm.form
 subst wO
 refine zD 3<|zR ((.slice yp (xs).length yo)) [] [0] L7 cm
theorem ao1{v:Value}{S:List (List ai)}(hS:cQ ro v S)(hO:fo S):dQ zT 197 [.agg ⟨[v]⟩] ro [] (fun r Y=>∃a n c,r= .agg ⟨[.slice a n c]⟩∧∀aC,Knows aC Y→cQ aC (.slice a n c) S):=by
 obtain⟨ws,ht,dr⟩:=hS
 obtain⟨eB,yM,yK,dH,rfl,yL,qt,qp⟩:=ht
 have hln:=dr.len
 have Kt:=hO.two
 refine zE<|zD 2<|jn fun b1=>jn fun b2=>zD 4<|jn fun b3=>jd 11 [0,2]<|nB<|nB<|dL [1,1,0,1,0,0] [] (fun(zz:Nat×Value×Cells×(List Value)×Cells)=>[(2,zP b2),(3,zP b3),(8,.slice eB ws.length dH),(9,zI (ws.length:Int)),(10,zI (zz.1:Int))]) (fun zz=>[.b b3 (.cells ⟨[zz.2.1]⟩ 27 (0,0)),.l zz.2.2.1,.l zz.2.2.2.2,.b b2 (.cells ⟨[zS]⟩ 27 (0,0)),.b b1 (.cells ⟨[.slice eB ws.length dH]⟩ 27 (0,0))]) (fun zz=>(zz.1≤ws.length∧zz.2.2.2.1.length=zz.1)∧aw zz.2.1 1 74 fB zz.2.2.2.1 zz.2.2.1∧∀aC,Knows aC zz.2.2.2.2→dc (fun w l=>a8 aC w 2 cA l) zz.2.2.2.1 (S.take zz.1)) (fun zz=>ws.length-zz.1) (⟨0,zS,[],[],[]⟩) ⟨⟨by dsimp only;omega,rfl⟩,aw.nil _ _ _,fun _ _=> .nil⟩ [2,1,0,3,4] ?_
 rintro⟨k,vO,LO,es,Z⟩ hI K1 bE rest
 dsimp only at hI
 refine zD 5<|zJ 11 ((k:Int) <(ws.length:Int)) (fun h1=>?_) fun h1=>?_
 ·
  refine zD 6 ?_
  obtain⟨tN,qE⟩:=zG ws k
  refine fL dH 1 qt qE ?_
  obtain⟨l13,aFx,Cz⟩:=dr.get qE
  obtain aFk:=hO.len _ (zL aFx)
  obtain⟨aC1,aN0,aNW,aC0,rfl,aNY,aNZ,aNX⟩:=Cz
  refine jl 0 (qp _ _ qE)<|jd 6 [0]<|aS 3 fun A1 Bn Av=>jc (vs:=[.slice aC1 l13.length aC0]) [] (aTU (show a8 _ _ _ _ _ from ⟨aC1,aN0,aNW,aC0,rfl,aNY,aNZ,aNX⟩) (by first|omega| (simp only[List.length_set,zM];omega))) ?_
  rintro v17 L17 Dx
  obtain⟨vo,vk,FK⟩:=Dx.form
  subst FK
  refine ep Av (zN 1 5)<|aS 4 fun rZ r8 qM=>jn fun AJ=>ep qM (zN 1 6)<|aS 5 fun sL sR qL=>gL (sz:=1) (ps:=es) (qs:=[((.slice vo (l13).length vk):Value)]) (enc:=fB) (w:= .slice (some ⟨AJ,0,none⟩) 1 1) [3] [0] [(AJ,.cells ⟨([((.slice vo (l13).length vk):Value)].map fB).flatten⟩ 74 (0,0))] (hI.2.1) (fun s _ hZ=>bN [((.slice vo (l13).length vk):Value)] (hZ _ (.head _)) (by intro p hp;rfl)) (by intro p hp;rw[List.mem_singleton] at hp;subst hp;exact ah rfl) (by simp<;>omega) (fun v19 L19 ahI=>?_)
  obtain⟨atd,as1,axn⟩:=ahI.form
  subst axn
  refine fR qL []<|zD 1<|aS 7 fun A0 Bm Au=>jd 1 [3]<|gA Au<|zD 2<|ja ((k:Int)+1) (by omega)<|zD 2<|HM bE (⟨k+1,(.slice atd ((es++[((.slice vo (l13).length vk):Value)])).length as1),L19,(es++[((.slice vo (l13).length vk):Value)]),L17++Z⟩) ⟨⟨by dsimp only;omega,by simp only[zM];omega⟩,ahI,fun aC hk=>mL (hI.2.2 aC hk.right) aFx (Dx.jC hk.left)⟩ (by dsimp only;omega) [[3],[0],[2,4],[5],[6]] (Sub.refl _)
 refine jd 5 [0] ?_
 obtain⟨va6,vc6,he6⟩:=hI.2.1.form
 subst he6
 refine jd 3 [3]<|zR (.agg ⟨[(.slice va6 (es).length vc6)]⟩) [3] [1,2] (LO++Z) ⟨_,_,_,rfl,fun aC hk=>⟨es,hI.2.1.jC hk.left,by have:=hI.2.2 aC hk.right;rwa[List.take_of_length_le (by omega)] at this⟩⟩
theorem ZD{v:Value}{S:List (List ai)}(hS:cQ ro v S)(hO:fo S):dQ zT 189 [.agg ⟨[v]⟩] ro [] (fun r Y=>aw r 3 164 cS (bI S) Y):=by
 obtain⟨ws,ht,dr⟩:=hS
 obtain⟨eB,yM,yK,dH,rfl,yL,qt,qp⟩:=ht
 have hln:=dr.len
 have Kt:=hO.two
 refine zE<|zD 2<|jn fun b1=>jd 15 [0]<|nB<|dL [1,1,0,1,0,0] [] (fun(zz:Nat×Value×Cells)=>[(2,zS),(3,zz.2.1),(9,.slice eB ws.length dH),(10,zI (ws.length:Int)),(11,zI (zz.1:Int))]) (fun zz=>[.l zz.2.2,.b b1 (.cells ⟨[.slice eB ws.length dH]⟩ 27 (0,0))]) (fun zz=>zz.1≤ws.length∧aw zz.2.1 3 164 cS (Sf S zz.1) zz.2.2) (fun zz=>ws.length-zz.1) (⟨0,zS,[]⟩) ⟨by dsimp only;omega,aw.nil _ _ _⟩ [0,1] ?_
 rintro⟨k,vO,LO⟩ hI K1 bE rest
 dsimp only at hI
 refine zD 5<|zJ 12 ((k:Int) <(ws.length:Int)) (fun h1=>?_) fun h1=>?_
 ·
  refine zD 7 ?_
  obtain⟨eE,dN⟩:=zG ws k
  refine fL dH 1 qt dN ?_
  obtain⟨R2,abW,Ix⟩:=dr.get dN
  obtain aQP:=hO.len _ (zL abW)
  obtain⟨aur,aNV,aNT,ae9,rfl,aNU,auq,aup⟩:=Ix
  refine jl 0 (qp _ _ dN)<|zD 10<|dL [1,1,0,1,0,0,1,1,0,0,1,1,0,0] [K1] (fun(zz:Nat×Value×Cells)=>[(2,zS),(3,zz.2.1),(4,zI (k:Int)),(9,.slice eB ws.length dH),(10,zI (ws.length:Int)),(11,zI (k:Int)),(16,.slice aur R2.length ae9),(17,zI (R2.length:Int)),(18,zI (zz.1:Int))]) (fun zz=>[.l zz.2.2,.b b1 (.cells ⟨[.slice eB ws.length dH]⟩ 27 (0,0))]) (fun zz=>zz.1≤R2.length∧aw zz.2.1 3 164 cS (Sf S k++(R2.take zz.1).map (m9 k)) zz.2.2) (fun zz=>R2.length-zz.1) (⟨0,vO,LO⟩) ⟨by dsimp only;omega,by simpa using hI.2⟩ [0,1] ?_
  rintro⟨i,vO,LO⟩ hJ K2 lG rest
  dsimp only at hJ
  refine zD 5<|zJ 19 ((i:Int) <(R2.length:Int)) (fun h2=>?_) fun h2=>?_
  ·
   refine zD 6 ?_
   obtain⟨x20,Ot⟩:=zG R2 i
   refine fL ae9 2 auq Ot<|jl 0 (aup _ _ Ot)<|jn fun b7=>jd 7 [0,0]<|jn fun b26=>gL (sz:=3) (ps:=(Sf S k++(R2.take i).map (m9 k))) (qs:=[(⟨(k:Int),x20.n,x20.l⟩:an)]) (enc:=cS) (w:= .slice (some ⟨b26,0,none⟩) 1 1) [2] [0] [(b26,.cells ⟨([(⟨(k:Int),x20.n,x20.l⟩:an)].map cS).flatten⟩ 164 (0,0))] (hJ.2) (fun s _ hZ=>bN [(⟨(k:Int),x20.n,x20.l⟩:an)] (hZ _ (.head _)) (by intro p hp;rfl)) (fun p _=>ah rfl) (by have:=Ov hO k;simp only[List.length_append,List.length_map,List.length_take,List.length_cons,List.length_nil];omega) (fun v27 L27 ahG=>?_)
   obtain⟨aLV,aLu,aRF⟩:=ahG.form
   subst aRF
   refine zD 3<|ja ((i:Int)+1) (by omega)<|zD 2<|bF lG (⟨i+1,(.slice aLV (((Sf S k++(R2.take i).map (m9 k))++[(⟨(k:Int),x20.n,x20.l⟩:an)])).length aLu),L27⟩) ⟨by dsimp only;omega,by rw[e8 Ot,List.map_append,←List.append_assoc];exact ahG⟩ (by dsimp only;omega) [0,3] (Sub.refl _)
  refine zD 3<|ja ((k:Int)+1) (by omega)<|zD 2<|bF bE (⟨k+1,vO,LO⟩) ⟨by dsimp only;omega,by rw[av6 abW];have:=hJ.2;rwa[List.take_of_length_le (by omega)] at this⟩ (by dsimp only;omega) [0,1] (Sub.refl _)
 refine zD 8<|zR (vO) [] [0] LO (by have:=hI.2;rwa[show k=S.length by omega] at this)
theorem UD{l:List α}{x:α}(hn:l.Nodup)(h:l[k]?=some x):x∉l.take k:=fun hx=>by
 obtain⟨hk,he⟩:=List.getElem?_eq_some_iff.1 h
 obtain⟨i,hi⟩:=List.getElem?_of_mem hx
 have hik:i <k:=by have:=(List.getElem?_eq_some_iff.1 hi).1;rw[List.length_take] at this;omega
 rw[List.getElem?_take_of_lt hik] at hi
 obtain⟨hi1,SC⟩:=List.getElem?_eq_some_iff.1 hi
 have:=(List.getElem_inj (h₀:=hi1) (h₁:=hk) hn).1 (SC.trans he.symm)
 omega
def yy(n:Int):Bool:= !decide (Int.tmod n 2=0)
def FO(n:Int):Bool:=decide (Int.tmod n 2=0)
theorem rN{p:α→Bool}{l:List α}{x:α}(h:l[i]?=some x):(l.take (i+1)).filter p=(l.take i).filter p++bif p x then [x] else []:=by
 rw[e8 h,List.filter_append]
 cases hp:p x<;>simp[hp]
def rI(l:List ai):List (List ai):=[l.filter fun x=>yy x.n,l.filter fun x=>FO x.n]
theorem aiC{l h:List ai}{x:ai}(hh:h∈rI l)(hx:x∈h):x∈l:=by
 simp only[rI,List.mem_cons,List.not_mem_nil,or_false] at hh
 rcases hh with rfl|rfl<;>exact(List.mem_filter.1 hx).1
theorem aiD{l h:List ai}(hh:h∈rI l):h.length≤l.length:=by
 simp only[rI,List.mem_cons,List.not_mem_nil,or_false] at hh
 rcases hh with rfl|rfl<;>exact List.length_filter_le _ _
def J7(s:Int)(h:List ai):List (an×an):=(h.zip h.reverse).map fun p=>(m9 s p.1,m9 s p.2)
def ad5(s:Int)(l:List ai):List (an×an):=(rI l).flatMap (J7 s)
def Lf(s:Int)(l:List ai):List (an×an):=l.map fun x=>(m9 s x,⟨s,if yy x.n=true then x.n+1 else x.n-1,x.l⟩)
def sg(l:List ai):Int:=match l[l.length-1]? with
 |some y=>y.n+Int.tmod y.n 2
 |none=>0
def Mv(s o:Int)(l:List ai)(r:Int):List (an×an):=l.map fun x=>(m9 s x,⟨o,x.n+r,x.l⟩)
def gU(u:List (an×an))(x:an):an:=u.foldl (fun y p=>if x=p.1 then p.2 else y) x
theorem aoY(u:List (an×an))(a b:an):gU (u++[(a,b)])=fun x=>if x=a then b else gU u x:=by
 funext x;simp only[gU,List.foldl_append,List.foldl_cons,List.foldl_nil]
theorem amy{s:Int}{h:List ai}{x y:ai}(hx:h[i]?=some x) (hy:h[(((h.length:Int)-1)-(i:Int)).toNat]?=some y):(J7 s h)[i]?=some (m9 s x,m9 s y):=by
 have hi:=(List.getElem?_eq_some_iff.1 hx).1
 have h2:h.reverse[i]?=some y:=by rw[List.getElem?_reverse hi,←hy];congr 1;omega
 have:=(List.getElem?_zip_eq_some (z:=(x,y))).2 ⟨hx,h2⟩
 simp only[J7,List.getElem?_map,this];rfl
theorem aeM(s:Int)(h:List ai):(J7 s h).length=h.length:=by simp[J7]
theorem af2{β:Type}{f:α→β}{l:List α}{x:α}(h:l[i]?=some x):(l.map f)[i]?=some (f x):=by rw[List.getElem?_map,h];rfl
theorem ao5{β:Type}{f:α→List β}{l:List α}{x:α}(h:l[i]?=some x):(l.take (i+1)).flatMap f=(l.take i).flatMap f++f x:=by rw[e8 h,List.flatMap_append,List.flatMap_singleton]
theorem MV.upd{S:List (List ai)}(hO:fo S){F:List (an×Value)}{u:List (an×an)}{l:List ai}{x:ai}{y:an}{b:Nat}{T:TypeId}(h:MV Z F (gU u))(hk:F.map (·.1)=bI S)(hl:S[s]?=some l) (hx:x∈l):
 MV (Z++[(b,.cells ⟨cS y⟩ T (0,0))]) (mN (m9 s x) (.slice (some ⟨b,0,none⟩) 1 1) F) (gU (u++[(m9 s x,y)]))∧(mN (m9 s x) (.slice (some ⟨b,0,none⟩) 1 1) F).map (·.1)=bI S:=by
 have hm:m9 s x∈F.map (·.1):=by rw[hk];exact Ic hl hx
 have hn:(F.map (·.1)).Nodup:=by rw[hk];exact VM hO _
 rw[aoY]
 exact⟨h.set hm hn fun aC hk=>bV [y] (hk _ (.head _)) (fun _ _=>rfl),(Qn hm hn).1.trans hk⟩
theorem QJ{S:List (List ai)}(hO:fo S){F:List (an×Value)}{x:an}{b:Nat}{T:TypeId}(h:MV Z F id)(hk:F.map (·.1)=(bI S).take k)(hx:(bI S)[k]?=some x):
 MV (Z++[(b,.cells ⟨cS x⟩ T (0,0))]) (mN x (.slice (some ⟨b,0,none⟩) 1 1) F) id∧(mN x (.slice (some ⟨b,0,none⟩) 1 1) F).map (·.1)=(bI S).take (k+1):=by
 have:x∉F.map (·.1):=by rw[hk];exact UD (VM hO _) hx
 rw[adV this]
 exact⟨h.add fun aC hk=>bV [x] (hk _ (.head _)) (fun _ _=>rfl),by rw[List.map_append,hk,e8 hx];rfl⟩
theorem MO{v:Value}{S:List (List ai)}(hS:cQ ro v S)(hO:fo S):dQ zT 198 [.agg ⟨[v]⟩] ro [] (fun r Y=>∃rm F LM Z,r= .map (some rm)∧Y=LM++Z∧kK rm px F LM∧F.map (·.1)=bI S∧MV Z F id):=by
 have xU:=hS
 obtain⟨ws,ht,dr⟩:=hS
 obtain⟨eB,yM,yK,dH,rfl,yL,qt,qp⟩:=ht
 have hln:=dr.len
 have Kt:=hO.two
 have hhl:=uz hO
 refine zE<|zD 2<|jn fun b1=>zD 4<|jmk px fun r6 L6 hm6=>jd 6 [1]<|jc (vs:=[.agg ⟨[.slice eB ws.length dH]⟩]) [] (ZD xU hO) ?_
 rintro v8 L8 ho8
 refine Fy ho8<|zD 1<|jf [0] L8 (fun yt bL iJ=>?_)
 have hzh:=ho8.jC iJ
 obtain⟨aMJ,bap,ban,aB3,rfl,bao,aMI,aMH⟩:=hzh
 refine zD 2<|nB<|dL [1,1,0,1,0,0] [] (fun(zz:Nat×(List (an×Value))×Cells×Cells)=>[(2,(.map none)),(3,(.map (some r6))),(8,.slice aMJ ((bI S).length) aB3),(9,zI ((bI S).length:Int)),(10,zI (zz.1:Int))]) (fun(zz:Nat×(List (an×Value))×Cells×Cells)=>[.l zz.2.2.1,.l zz.2.2.2,.b b1 (.cells ⟨[.slice eB ws.length dH]⟩ 27 (0,0))]) (fun(zz:Nat×(List (an×Value))×Cells×Cells)=>zz.1≤(bI S).length∧kK r6 px zz.2.1 zz.2.2.1∧zz.2.1.map (·.1)=(bI S).take zz.1∧MV zz.2.2.2 zz.2.1 id) (fun(zz:Nat×(List (an×Value))×Cells×Cells)=>(bI S).length-zz.1) (⟨0,[],L6,[]⟩) ⟨by dsimp only;omega,hm6,rfl,fun _ _ _ h=>(by cases h)⟩ [1,0,2] ?_
 rintro⟨k,F,LM,Z⟩ hI K1 bE rest
 dsimp only at hI
 refine zD 5<|zJ 11 ((k:Int) <((bI S).length:Int)) (fun h4=>?_) fun h4=>?_
 ·
  refine zD 6 ?_
  obtain⟨tN,qE⟩:=zG ((bI S)) k
  refine fL aB3 3 aMI qE<|jl 0 (aMH _ _ qE)<|jn fun b5=>jd 6 [0,0,0]<|jn fun b17=>jmu (kv:=px) (F:=F) (r:=r6) (K:=164) 2 tN (.slice (some ⟨b17,0,none⟩) 1 1) EK hI.2.1 fun Lm5 hm5=>zD 2<|ja ((k:Int)+1) (by omega)<|zD 2<|HM bE (⟨k+1,_,Lm5,Z++[(b17,.cells ⟨[zI tN.h,zI tN.n,zI tN.l]⟩ 164 (0,0))]⟩) ⟨by dsimp only;omega,hm5,(QJ (T:=164) hO hI.2.2.2 hI.2.2.1 qE).2,(QJ (T:=164) hO hI.2.2.2 hI.2.2.1 qE).1⟩ (by dsimp only;omega) [[0],[3,1],[4]] (Sub.refl _)
 refine zD 8<|aI q0.a ((.map (some r6))) [] [0,1] (LM++Z) bL ⟨_,_,rfl,rfl,_,F,LM,Z,rfl,rfl,hI.2.1,by rw[hI.2.2.1,List.take_of_length_le (by omega)],hI.2.2.2⟩
theorem gAt{h l:Int}:dv zT 263 [zI h,zI n,zI l] ro (.agg ⟨[zI h,zI n,zI l]⟩):=by
 refine zE<|zD 2<|jn fun b6=>jd 11 [0]<|zR (.agg ⟨[zI h,zI n,zI l]⟩) [0] [] [] ⟨rfl,rfl⟩
theorem aG7{x:ai}:dv zT 261 [.agg ⟨[zI x.n,zI x.l]⟩] ro (.bool (yy x.n)):=by
 refine zE<|zD 2<|jn fun b1=>jd 11 [0]<|zX (.bool (!decide ((Int.tmod x.n 2)=0))) ⟨rfl,rfl⟩
theorem ajA{v:Value}{l:List ai}(hl:a8 ro v 2 cA l)(hn:l.length≤4):dQ zT 260 [v,.func (.func 261) ⟨[]⟩ ⟨[]⟩] ro [] (fun r Y=>aw r 2 73 cA (l.filter fun x=>yy x.n) Y):=by
 obtain⟨dB,mP,mO,dz,rfl,qd,gY,jV⟩:=hl
 refine zE<|zD 16<|nB<|dL [1,1,0,1,0,0] [] (fun(zz:Nat×Value×Cells)=>[(1,.func (.func 261) ⟨[]⟩ ⟨[]⟩),(4,zS),(5,zz.2.1),(8,.slice dB l.length dz),(9,zI (l.length:Int)),(10,zI (zz.1:Int))]) (fun zz=>[.l zz.2.2]) (fun zz=>zz.1≤l.length∧aw zz.2.1 2 73 cA ((l.take zz.1).filter fun x=>yy x.n) zz.2.2) (fun zz=>l.length-zz.1) (⟨0,zS,[]⟩) ⟨by dsimp only;omega,aw.nil _ _ _⟩ [0] ?_
 rintro⟨k,vO,LO⟩ hI K1 bE rest
 dsimp only at hI
 refine zD 5<|zJ 11 ((k:Int) <(l.length:Int)) (fun h1=>?_) fun h1=>?_
 ·
  refine zD 6 ?_
  obtain⟨tN,qE⟩:=zG l k
  refine fL dz 2 gY qE<|jl 0 (jV _ _ qE)<|jn fun b7=>jd 6 [0,0]<|jp (vs:=[.agg ⟨[zI tN.n,zI tN.l]⟩]) [] [] (fun aF hs hZ=>(aG7 (x:=tN)))<|zD 1<|js 16 (yy tN.n) (fun h2=>?_) (fun h2=>?_)
  ·
   refine jd 4 [0]<|jn fun Jq=>gL (sz:=2) (ps:=((l.take k).filter fun x=>yy x.n)) (qs:=[(⟨tN.n,tN.l⟩:ai)]) (enc:=cA) (w:= .slice (some ⟨Jq,0,none⟩) 1 1) [2] [0] [(Jq,.cells ⟨([(⟨tN.n,tN.l⟩:ai)].map cA).flatten⟩ 73 (0,0))] (hI.2) (fun s _ hZ=>bN [(⟨tN.n,tN.l⟩:ai)] (hZ _ (.head _)) (by intro p hp;rfl)) (fun p _=>ah rfl) (by have:=List.length_filter_le (fun x:ai=>yy x.n) (l.take k);rw[List.length_take] at this;simp only[List.length_cons,List.length_nil];omega) (fun v20 L20 Ia=>?_)
   obtain⟨adT,adM,aip⟩:=Ia.form
   subst aip
   refine zD 3<|ja ((k:Int)+1) (by omega)<|zD 2<|bF bE (⟨k+1,(.slice adT ((((l.take k).filter fun x=>yy x.n)++[(⟨tN.n,tN.l⟩:ai)])).length adM),L20⟩) ⟨by dsimp only;omega,by rw[rN qE,show yy tN.n=true from (by assumption)];exact Ia⟩ (by dsimp only;omega) [0] (Sub.refl _)
  refine zD 3<|ja ((k:Int)+1) (by omega)<|zD 2<|bF bE (⟨k+1,vO,LO⟩) ⟨by dsimp only;omega,by rw[rN qE,show yy tN.n=false from (by assumption)];simpa using hI.2⟩ (by dsimp only;omega) [1] (Sub.refl _)
 refine zD 8<|zR (vO) [] [0] LO (by have:=hI.2;rwa[List.take_of_length_le (by omega)] at this)
theorem aHe{x:ai}:dv zT 262 [.agg ⟨[zI x.n,zI x.l]⟩] ro (.bool (FO x.n)):=by
 refine zE<|zD 2<|jn fun b1=>jd 11 [0]<|zX (.bool (decide ((Int.tmod x.n 2)=0))) ⟨rfl,rfl⟩
theorem ajz{v:Value}{l:List ai}(hl:a8 ro v 2 cA l)(hn:l.length≤4):dQ zT 260 [v,.func (.func 262) ⟨[]⟩ ⟨[]⟩] ro [] (fun r Y=>aw r 2 73 cA (l.filter fun x=>FO x.n) Y):=by
 obtain⟨dB,mP,mO,dz,rfl,qd,gY,jV⟩:=hl
 refine zE<|zD 16<|nB<|dL [1,1,0,1,0,0] [] (fun(zz:Nat×Value×Cells)=>[(1,.func (.func 262) ⟨[]⟩ ⟨[]⟩),(4,zS),(5,zz.2.1),(8,.slice dB l.length dz),(9,zI (l.length:Int)),(10,zI (zz.1:Int))]) (fun zz=>[.l zz.2.2]) (fun zz=>zz.1≤l.length∧aw zz.2.1 2 73 cA ((l.take zz.1).filter fun x=>FO x.n) zz.2.2) (fun zz=>l.length-zz.1) (⟨0,zS,[]⟩) ⟨by dsimp only;omega,aw.nil _ _ _⟩ [0] ?_
 rintro⟨k,vO,LO⟩ hI K1 bE rest
 dsimp only at hI
 refine zD 5<|zJ 11 ((k:Int) <(l.length:Int)) (fun h1=>?_) fun h1=>?_
 ·
  refine zD 6 ?_
  obtain⟨tN,qE⟩:=zG l k
  refine fL dz 2 gY qE<|jl 0 (jV _ _ qE)<|jn fun b7=>jd 6 [0,0]<|jp (vs:=[.agg ⟨[zI tN.n,zI tN.l]⟩]) [] [] (fun aF hs hZ=>(aHe (x:=tN)))<|zD 1<|js 16 (FO tN.n) (fun h2=>?_) (fun h2=>?_)
  ·
   refine jd 4 [0]<|jn fun Jq=>gL (sz:=2) (ps:=((l.take k).filter fun x=>FO x.n)) (qs:=[(⟨tN.n,tN.l⟩:ai)]) (enc:=cA) (w:= .slice (some ⟨Jq,0,none⟩) 1 1) [2] [0] [(Jq,.cells ⟨([(⟨tN.n,tN.l⟩:ai)].map cA).flatten⟩ 73 (0,0))] (hI.2) (fun s _ hZ=>bN [(⟨tN.n,tN.l⟩:ai)] (hZ _ (.head _)) (by intro p hp;rfl)) (fun p _=>ah rfl) (by have:=List.length_filter_le (fun x:ai=>FO x.n) (l.take k);rw[List.length_take] at this;simp only[List.length_cons,List.length_nil];omega) (fun v20 L20 Ia=>?_)
   obtain⟨adT,adM,aip⟩:=Ia.form
   subst aip
   refine zD 3<|ja ((k:Int)+1) (by omega)<|zD 2<|bF bE (⟨k+1,(.slice adT ((((l.take k).filter fun x=>FO x.n)++[(⟨tN.n,tN.l⟩:ai)])).length adM),L20⟩) ⟨by dsimp only;omega,by rw[rN qE,show FO tN.n=true from (by assumption)];exact Ia⟩ (by dsimp only;omega) [0] (Sub.refl _)
  refine zD 3<|ja ((k:Int)+1) (by omega)<|zD 2<|bF bE (⟨k+1,vO,LO⟩) ⟨by dsimp only;omega,by rw[rN qE,show FO tN.n=false from (by assumption)];simpa using hI.2⟩ (by dsimp only;omega) [1] (Sub.refl _)
 refine zD 8<|zR (vO) [] [0] LO (by have:=hI.2;rwa[List.take_of_length_le (by omega)] at this)
theorem ZB{v:Value}{S:List (List ai)}{l:List ai}{c2 c3 c4:Int}{F:List (an×Value)}(hS:cQ ro v S)(hO:fo S)(hl:S[s]?=some l) (hm:kK rm px F LM) (hk:F.map (·.1)=bI S) (hM:MV Z F id):dQ zT 240 [.agg ⟨[v]⟩,.agg ⟨[zI ck,zI (s:Int),zI c2,zI c3,zI c4,zI c5,zI c6]⟩,(.map (some rm))] ro (LM++Z) (fun r Y=>∃F' L' Z',r= zI 0∧Y=L'++Z'∧kK rm px F' L'∧F'.map (·.1)=bI S∧MV Z' F' (gU (ad5 (s:Int) l))):=by
 obtain⟨ws,ht,dr⟩:=hS
 obtain⟨eB,yM,yK,dH,rfl,yL,qt,qp⟩:=ht
 have hln:=dr.len
 have Kt:=hO.two
 have Mz:=(List.getElem?_eq_some_iff.1 hl).1
 have hlm:=zL hl
 have hll:=hO.len _ hlm
 refine zC [.l LM,.l Z]<|zD 2<|jn fun b3=>jn fun b4=>zD 4<|EL [1,0,1] [] (fun(zz:Nat×Value×Value×Cells×Cells)=>[(2,(.map (some rm))),(4,zP b4),(6,zI 0),(25,.slice (some ⟨zz.1,0,none⟩) 2 2),(26,zI 2),(27,zI 0)]) (fun zz=>[.b zz.1 (.cells ⟨[zz.2.1,zz.2.2.1]⟩ 74 (0,0)),.l zz.2.2.2.1,.l zz.2.2.2.2,.l LM,.l Z,.b b4 (.cells ⟨[zI ck,zI (s:Int),zI c2,zI c3,zI c4,zI c5,zI c6]⟩ 77 (0,0)),.b b3 (.cells ⟨[.slice eB ws.length dH]⟩ 27 (0,0))]) (fun zz=>aw zz.2.1 2 73 cA (l.filter fun x=>yy x.n) zz.2.2.2.1∧aw zz.2.2.1 2 73 cA (l.filter fun x=>FO x.n) zz.2.2.2.2) ?_ (fun K1 bE=>?_)
 ·
  rintro⟨oF,v1,v2,L1,L2⟩ hC rest
  dsimp only at hC
  refine jf [0,1,2] ((oF,.cells ⟨[v1,v2]⟩ 74 (0,0))::(L1++L2)) (fun yt bL iJ=>?_)
  have hhv:=bV (enc:=fB) (T:=74) [v1,v2] (iJ _ (.head _)) (fun _ _=>rfl)
  have aFE:dc (fun w l=>a8 yt w 2 cA l) [v1,v2] (rI l):= .cons (hC.1.jC (Knows.left (Knows.tail iJ))) (.cons (hC.2.jC (Knows.right (Knows.tail iJ))) .nil)
  have hvl: [v1,v2].length=2:=rfl
  obtain⟨qga,qgb,qgo,qgc,SF,qgk,qgh,qgl⟩:=hhv
  simp only[Value.slice.injEq] at SF
  obtain⟨rfl,_,rfl⟩:=SF
  refine zD 1<|dL [1,0,1,0,0] [] (fun(zz:Nat×(List (an×Value))×Cells×Cells)=>[(2,(.map (some rm))),(4,zP b4),(6,zI 0),(25,.slice (some ⟨oF,0,none⟩) 2 2),(26,zI 2),(27,zI (zz.1:Int))]) (fun(zz:Nat×(List (an×Value))×Cells×Cells)=>[.l zz.2.2.1,.l zz.2.2.2,.b b4 (.cells ⟨[zI ck,zI (s:Int),zI c2,zI c3,zI c4,zI c5,zI c6]⟩ 77 (0,0)),.b b3 (.cells ⟨[.slice eB ws.length dH]⟩ 27 (0,0))]) (fun(zz:Nat×(List (an×Value))×Cells×Cells)=>zz.1≤2∧kK rm px zz.2.1 zz.2.2.1∧zz.2.1.map (·.1)=bI S∧MV zz.2.2.2 zz.2.1 (gU (((rI l).take zz.1).flatMap (J7 (s:Int))))) (fun(zz:Nat×(List (an×Value))×Cells×Cells)=>2-zz.1) (⟨0,F,LM,Z⟩) ⟨by dsimp only;omega,hm,hk,hM⟩ (zN 0 4) ?_
  rintro⟨k,F,LM,Z⟩ hI K2 lG rest
  dsimp only at hI
  refine zD 5<|zJ 28 ((k:Int) <2) (fun h4=>?_) fun h4=>?_
  ·
   refine zD 6 ?_
   obtain⟨E6,BK⟩:=zG ([v1,v2]) k
   refine fL 2 1 qgh BK ?_
   obtain⟨Vw,awO,h30⟩:=aFE.get BK
   obtain aFh:Vw.length≤4:=by have:=aiD (zL awO);omega
   obtain⟨aCG,ba7,ba5,amL,rfl,ba6,aCF,aCE⟩:=h30
   refine jl 0 (qgl _ _ BK)<|zD 9<|dL [1,0,1,0,0,1,1,0,0,1,1,0,0] [K2] (fun(zz:Nat×(List (an×Value))×Cells×Cells)=>[(2,(.map (some rm))),(4,zP b4),(6,zI 0),(8,.slice aCG Vw.length amL),(25,.slice (some ⟨oF,0,none⟩) 2 2),(26,zI 2),(27,zI (k:Int)),(31,.slice aCG Vw.length amL),(32,zI (Vw.length:Int)),(33,zI (zz.1:Int))]) (fun(zz:Nat×(List (an×Value))×Cells×Cells)=>[.l zz.2.2.1,.l zz.2.2.2,.b b4 (.cells ⟨[zI ck,zI (s:Int),zI c2,zI c3,zI c4,zI c5,zI c6]⟩ 77 (0,0)),.b b3 (.cells ⟨[.slice eB ws.length dH]⟩ 27 (0,0))]) (fun(zz:Nat×(List (an×Value))×Cells×Cells)=>zz.1≤Vw.length∧kK rm px zz.2.1 zz.2.2.1∧zz.2.1.map (·.1)=bI S∧MV zz.2.2.2 zz.2.1 (gU (((rI l).take k).flatMap (J7 (s:Int))++(J7 (s:Int) Vw).take zz.1))) (fun(zz:Nat×(List (an×Value))×Cells×Cells)=>Vw.length-zz.1) (⟨0,F,LM,Z⟩) ⟨by dsimp only;omega,hI.2.1,hI.2.2.1,by simpa using hI.2.2.2⟩ (zN 0 4) ?_
   rintro⟨i,F,LM,Z⟩ hJ K3 Zy rest
   dsimp only at hJ
   refine zD 5<|zJ 34 ((i:Int) <(Vw.length:Int)) (fun h5=>?_) fun h5=>?_
   ·
    refine zD 7 ?_
    obtain⟨x36,Ag⟩:=zG Vw i
    refine fL amL 2 aCF Ag<|jl 0 (aCE _ _ Ag)<|jn fun lV=>jd 14 [0,3,0,3]<|ja ((Vw.length:Int)-1) (by omega)<|zD 1<|ja (((Vw.length:Int)-1)-(i:Int)) (by omega) ?_
    obtain⟨x51,FC⟩:=zG Vw (((((Vw.length:Int)-1)-(i:Int))).toNat)
    refine PT (((Vw.length:Int)-1)-(i:Int)) amL 2 aCF FC (by omega)<|jl 0 (aCE _ _ FC)<|zD 1<|aS 16 fun sL sR qL=>jn fun TE=>ep qL (zN 1 5)<|aS 17 fun A0 Bm Au=>jmu (kv:=px) (F:=F) (r:=rm) (K:=164) 2 (m9 (s:Int) x36) (.slice (some ⟨TE,0,none⟩) 1 1) EK hJ.2.1 fun Lm8 hm8=>gA Au<|zD 2<|ja ((i:Int)+1) (by omega)<|zD 2 ?_
    have hup:=MV.upd (T:=164) (b:=TE) (y:=m9 s x51) hO hJ.2.2.2 hJ.2.2.1 hl (aiC (zL awO) (zL Ag))
    exact HM Zy (⟨i+1,_,Lm8,Z++[(TE,.cells ⟨[zI (s:Int),zI x51.n,zI x51.l]⟩ 164 (0,0))]⟩) ⟨by dsimp only;omega,hm8,hup.2,by rw[e8 (amy Ag FC),←List.append_assoc];exact hup.1⟩ (by dsimp only;omega) [[0],[3,1],[4],[5]] (Sub.refl _)
   refine zD 3<|ja ((k:Int)+1) (by omega)<|zD 2<|bF lG (⟨k+1,F,LM,Z⟩) ⟨by dsimp only;omega,hJ.2.1,hJ.2.2.1,by have:=hJ.2.2.2;rw[List.take_of_length_le (l:=J7 (s:Int) Vw) (by rw[aeM];omega)] at this;rw[ao5 awO];exact this⟩ (by dsimp only;omega) (zN 0 4) (Sub.refl _)
  refine zD 7<|aI q0.a (zI 0) [] [0,1] (LM++Z) bL ⟨_,_,rfl,rfl,F,LM,Z,rfl,rfl,hI.2.1,hI.2.2.1,by have:=hI.2.2.2;rwa[show k=2 by omega] at this⟩
 refine jd 5 [1,0] ?_
 obtain⟨A3,ag6⟩:=zG ws s
 refine fL dH 1 qt ag6 ?_
 obtain⟨l16,aFw,SV⟩:=dr.get ag6
 obtain bdd:=hO.len _ (zL aFw)
 obtain aiq:l16=l:=Option.some.inj (aFw.symm.trans hl)
 obtain⟨aCZ,aNS,aNO,aCY,rfl,aNQ,aNR,aNP⟩:=SV
 refine jl 0 (qp _ _ ag6)<|jd 4 [1,0] ?_
 obtain⟨sH,uv⟩:=zG ws s
 refine fL dH 1 qt uv ?_
 obtain⟨l23,aFv,Gw⟩:=dr.get uv
 obtain bda:=hO.len _ (zL aFv)
 obtain aio:l23=l:=Option.some.inj (aFv.symm.trans hl)
 obtain⟨aCP,aNB,aNx,aCO,rfl,aNz,aNA,aNy⟩:=Gw
 refine jl 0 (qp _ _ uv)<|zD 1<|aS 6 fun adl aeb hL6=>jc (vs:=[.slice aCZ l16.length aCY,.func (.func 261) ⟨[]⟩ ⟨[]⟩]) [] (ajA (show a8 _ _ _ _ _ from ⟨aCZ,aNS,aNO,aCY,rfl,aNQ,aNR,aNP⟩) (by omega)) ?_
 rintro v17 L17 Dx
 obtain⟨vo,vk,aos⟩:=Dx.form
 subst aos
 refine ep hL6 (zN 1 4)<|aS 13 fun adk aea OI=>jc (vs:=[.slice aCP l23.length aCO,.func (.func 262) ⟨[]⟩ ⟨[]⟩]) [] (ajz (show a8 _ _ _ _ _ from ⟨aCP,aNB,aNx,aCO,rfl,aNz,aNA,aNy⟩) (by omega)) ?_
 rintro v24 L24 aEZ
 obtain⟨Uz,Ut,aRh⟩:=aEZ.form
 subst aRh
 refine ep OI (zN 1 5)<|aS 14 fun P8 Qv OH=>jn fun oF=>ep OH (zN 1 6)<|zD 2<|bF bE ⟨oF,(.slice vo (l16.filter fun x=>yy x.n).length vk),(.slice Uz (l23.filter fun x=>FO x.n).length Ut),L17,L24⟩ ⟨by rw[←aiq];exact Dx,by rw[←aio];exact aEZ⟩ Nat.zero_lt_one [0,2,1,5,6,3,4] (Sub.refl _)
theorem XO{s:Int}{l:List ai}{x:ai}(h:l[i]?=some x):(Lf s l)[i]?=some (m9 s x,⟨s,if yy x.n=true then x.n+1 else x.n-1,x.l⟩):=af2 h
theorem anR{s o r:Int}{l:List ai}{x:ai}(h:l[i]?=some x):(Mv s o l r)[i]?=some (m9 s x,⟨o,x.n+r,x.l⟩):=af2 h
theorem raise_at{l:List ai}{x:ai}(h:l[(((l.length:Int)-1)).toNat]?=some x):sg l=x.n+Int.tmod x.n 2:=by
 have:l[l.length-1]?=some x:=by rw[←h];congr 1;omega
 simp only[sg,this]
theorem aaV{l:List ai}(h:¬(l.length:Int)>0):sg l=0:=by
 have:l=[]:=List.eq_nil_of_length_eq_zero (by omega)
 subst this;rfl
theorem tm2(h:1≤n∧n≤9):0≤Int.tmod n 2∧Int.tmod n 2≤1:=by
 rw[Int.tmod_eq_emod_of_nonneg (by omega)]
 omega
theorem ae0{l:List ai}(h:∀x∈l,Cm x):0≤sg l∧sg l≤10:=by
 unfold sg
 split
 ·rename_i y hy
  have h1:=(h y (zL hy)).1
  have:=tm2 h1
  omega
 omega
theorem S1{v:Value}{S:List (List ai)}{l:List ai}{c2 c3 c4:Int}{F:List (an×Value)}(hS:cQ ro v S)(hO:fo S)(hl:S[s]?=some l) (hm:kK rm px F LM) (hk:F.map (·.1)=bI S) (hM:MV Z F id):dQ zT 241 [.agg ⟨[v]⟩,.agg ⟨[zI ck,zI (s:Int),zI c2,zI c3,zI c4,zI c5,zI c6]⟩,(.map (some rm))] ro (LM++Z) (fun r Y=>∃F' L' Z',r= zI 0∧Y=L'++Z'∧kK rm px F' L'∧F'.map (·.1)=bI S∧MV Z' F' (gU (Lf (s:Int) l))):=by
 obtain⟨ws,ht,dr⟩:=hS
 obtain⟨eB,yM,yK,dH,rfl,yL,qt,qp⟩:=ht
 have hln:=dr.len
 have Kt:=hO.two
 have Mz:=(List.getElem?_eq_some_iff.1 hl).1
 have hlm:=zL hl
 have hll:=hO.len _ hlm
 refine zC [.l LM,.l Z]<|zD 2<|jn fun b3=>jn fun b4=>jd 9 [1,0] ?_
 obtain⟨eE,dN⟩:=zG ws s
 refine fL dH 1 qt dN ?_
 obtain⟨R2,abW,Ix⟩:=dr.get dN
 obtain aQP:=hO.len _ (zL abW)
 obtain OE:R2=l:=Option.some.inj (abW.symm.trans hl)
 obtain aPI:=hO.ok _ (zL abW)
 obtain⟨aur,aNV,aNT,ae9,rfl,aNU,auq,aup⟩:=Ix
 refine jl 0 (qp _ _ dN)<|zD 4<|dL [1,0,1,0,0] [] (fun(zz:Nat×(List (an×Value))×Cells×Cells)=>[(2,(.map (some rm))),(4,zP b4),(6,zI 0),(15,.slice aur R2.length ae9),(16,zI (R2.length:Int)),(17,zI (zz.1:Int))]) (fun(zz:Nat×(List (an×Value))×Cells×Cells)=>[.l zz.2.2.1,.l zz.2.2.2,.b b4 (.cells ⟨[zI ck,zI (s:Int),zI c2,zI c3,zI c4,zI c5,zI c6]⟩ 77 (0,0)),.b b3 (.cells ⟨[.slice eB ws.length dH]⟩ 27 (0,0))]) (fun(zz:Nat×(List (an×Value))×Cells×Cells)=>zz.1≤R2.length∧kK rm px zz.2.1 zz.2.2.1∧zz.2.1.map (·.1)=bI S∧MV zz.2.2.2 zz.2.1 (gU ((Lf (s:Int) l).take zz.1))) (fun(zz:Nat×(List (an×Value))×Cells×Cells)=>R2.length-zz.1) (⟨0,F,LM,Z⟩) ⟨by dsimp only;omega,hm,hk,hM⟩ [2,3,0,1] ?_
 rintro⟨i,F,LM,Z⟩ hI K1 bE rest
 dsimp only at hI
 refine zD 5<|zJ 18 ((i:Int) <(R2.length:Int)) (fun h1=>?_) fun h1=>?_
 ·
  refine zD 6 ?_
  obtain⟨tM,pU⟩:=zG R2 i
  refine fL ae9 2 auq pU<|jl 0 (aup _ _ pU)<|jn fun b8=>jd 3 [0] ?_
  have Kv:=aPI _ (zL pU)
  have aQa:=Kv.1.1
  have aP9:=Kv.1.2
  refine jd 3 [0]<|ja (tM.n-1) (by omega)<|jd 6 [0]<|jp (vs:=[.agg ⟨[zI tM.n,zI tM.l]⟩]) [] [] (fun aF hs hZ=>(aG7 (x:=tM)))<|zD 1<|js 25 (yy tM.n) (fun h2=>?_) (fun h2=>?_)
  ·
   refine jd 4 [0]<|ja (tM.n+1) (by omega)<|jd 13 [3,0,3,0]<|jp (vs:=[zI (s:Int),zI (tM.n+1),zI tM.l]) [] [] (fun aF hs hZ=>gAt)<|aS 11 fun A1 Bn Av=>jn fun sJ=>ep Av (zN 1 5)<|aS 12 fun rZ r8 qM=>jmu (kv:=px) (F:=F) (r:=rm) (K:=164) 2 (m9 (s:Int) tM) (.slice (some ⟨sJ,0,none⟩) 1 1) EK hI.2.1 fun Lm5 hm5=>gA qM<|zD 2<|ja ((i:Int)+1) (by omega)<|zD 2 ?_
   have hup:=MV.upd (T:=164) (b:=sJ) (y:=⟨s,tM.n+1,tM.l⟩) hO hI.2.2.2 hI.2.2.1 hl (by rw[←OE];exact zL pU)
   exact HM bE (⟨i+1,_,Lm5,Z++[(sJ,.cells ⟨[zI (s:Int),zI (tM.n+1),zI tM.l]⟩ 164 (0,0))]⟩) ⟨by dsimp only;omega,hm5,hup.2,by rw[e8 (XO (by rw[←OE];exact pU))];rw[if_pos (by assumption)];exact hup.1⟩ (by dsimp only;omega) [[0],[3,1],[4],[5]] (Sub.refl _)
  refine jd 13 [3,0,3,0]<|jp (vs:=[zI (s:Int),zI (tM.n-1),zI tM.l]) [] [] (fun aF hs hZ=>gAt)<|aS 11 fun sL sR qL=>jn fun sJ=>ep qL (zN 1 5)<|aS 12 fun A0 Bm Au=>jmu (kv:=px) (F:=F) (r:=rm) (K:=164) 2 (m9 (s:Int) tM) (.slice (some ⟨sJ,0,none⟩) 1 1) EK hI.2.1 fun Lm8 hm8=>gA Au<|zD 2<|ja ((i:Int)+1) (by omega)<|zD 2 ?_
  have hup:=MV.upd (T:=164) (b:=sJ) (y:=⟨s,tM.n-1,tM.l⟩) hO hI.2.2.2 hI.2.2.1 hl (by rw[←OE];exact zL pU)
  exact HM bE (⟨i+1,_,Lm8,Z++[(sJ,.cells ⟨[zI (s:Int),zI (tM.n-1),zI tM.l]⟩ 164 (0,0))]⟩) ⟨by dsimp only;omega,hm8,hup.2,by rw[e8 (XO (by rw[←OE];exact pU))];rw[if_neg (by rw[show yy tM.n=false from (by assumption)];decide)];exact hup.1⟩ (by dsimp only;omega) [[0],[3,1],[4],[5]] (Sub.refl _)
 refine zD 7<|zR (zI 0) [] [0,1] (LM++Z) ⟨F,LM,Z,rfl,rfl,hI.2.1,hI.2.2.1,by have:=hI.2.2.2;rwa[List.take_of_length_le (by simp only[Lf,List.length_map];rw[←OE];omega)] at this⟩
theorem ao0{v:Value}{S:List (List ai)}{o:Nat}{l lo:List ai}{c3 c4:Int}{F:List (an×Value)}(hS:cQ ro v S)(hO:fo S)(hl:S[s]?=some l) (hm:kK rm px F LM) (hk:F.map (·.1)=bI S) (hM:MV Z F id) (BP:S[o]?=some lo):dQ zT 243 [.agg ⟨[v]⟩,.agg ⟨[zI ck,zI (s:Int),zI (o:Int),zI c3,zI c4,zI c5,zI c6]⟩,(.map (some rm))] ro (LM++Z) (fun r Y=>∃F' L' Z',r= zI 0∧Y=L'++Z'∧kK rm px F' L'∧F'.map (·.1)=bI S∧MV Z' F' (gU (Mv (s:Int) (o:Int) l (sg lo)))):=by
 obtain⟨ws,ht,dr⟩:=hS
 obtain⟨eB,yM,yK,dH,rfl,yL,qt,qp⟩:=ht
 have hln:=dr.len
 have Kt:=hO.two
 have Mz:=(List.getElem?_eq_some_iff.1 hl).1
 have hlm:=zL hl
 have hll:=hO.len _ hlm
 have hso:=(List.getElem?_eq_some_iff.1 BP).1
 have aFl:=zL BP
 have hr:=ae0 (hO.ok _ aFl)
 have bdh:=hO.len _ aFl
 refine zC [.l LM,.l Z]<|zD 2<|jn fun b3=>jn fun b4=>jd 8 [1,0] ?_
 obtain⟨Xt,HV⟩:=zG ws s
 refine fL dH 1 qt HV ?_
 obtain⟨l18,awR,OW⟩:=dr.get HV
 obtain bdc:=hO.len _ (zL awR)
 obtain Im:l18=l:=Option.some.inj (awR.symm.trans hl)
 obtain kH:=hO.ok _ (zL awR)
 obtain⟨aCV,bbj,bbh,auo,rfl,bbi,aNI,aNH⟩:=OW
 refine jl 0 (qp _ _ HV)<|jd 4 [1,0] ?_
 obtain⟨mV,lT⟩:=zG ws o
 refine fL dH 1 qt lT ?_
 obtain⟨Vx,V0,h24⟩:=dr.get lT
 obtain aFj:=hO.len _ (zL V0)
 obtain OD:Vx=lo:=Option.some.inj (V0.symm.trans BP)
 obtain aEo:=hO.ok _ (zL V0)
 obtain⟨aun,aCN,aCL,ae8,rfl,aCM,amN,amM⟩:=h24
 refine jl 0 (qp _ _ lT)<|zD 10<|ja ((l18.length:Int)+(Vx.length:Int)) (by omega)<|zD 2<|zJ 30 (((l18.length:Int)+(Vx.length:Int))>8) (fun h1=>?_) fun h1=>?_
 ·
  exfalso;omega
 refine zD 18<|EL [1,1,1,1,1] [] (fun(zz:Int)=>[(2,(.map (some rm))),(4,zP b4),(6,zI 0),(7,.slice aCV l18.length auo),(9,zI zz)]) (fun zz=>[.l LM,.l Z,.b b4 (.cells ⟨[zI ck,zI (s:Int),zI (o:Int),zI c3,zI c4,zI c5,zI c6]⟩ 77 (0,0)),.b b3 (.cells ⟨[.slice eB ws.length dH]⟩ 27 (0,0))]) (fun zz=>zz=sg lo) ?_ (fun K1 bE=>?_)
 ·
  rintro q hQ rest
  refine zD 8<|dL [1,1,1,1,1,0,1,0,0] [] (fun(zz:Nat×(List (an×Value))×Cells×Cells)=>[(2,(.map (some rm))),(4,zP b4),(9,zI q),(49,.slice aCV l18.length auo),(50,zI (l18.length:Int)),(51,zI (zz.1:Int))]) (fun(zz:Nat×(List (an×Value))×Cells×Cells)=>[.l zz.2.2.1,.l zz.2.2.2,.b b4 (.cells ⟨[zI ck,zI (s:Int),zI (o:Int),zI c3,zI c4,zI c5,zI c6]⟩ 77 (0,0)),.b b3 (.cells ⟨[.slice eB ws.length dH]⟩ 27 (0,0))]) (fun(zz:Nat×(List (an×Value))×Cells×Cells)=>zz.1≤l18.length∧kK rm px zz.2.1 zz.2.2.1∧zz.2.1.map (·.1)=bI S∧MV zz.2.2.2 zz.2.1 (gU ((Mv (s:Int) (o:Int) l (sg lo)).take zz.1))) (fun(zz:Nat×(List (an×Value))×Cells×Cells)=>l18.length-zz.1) (⟨0,F,LM,Z⟩) ⟨by dsimp only;omega,hm,hk,hM⟩ (zN 0 4) ?_
  rintro⟨i,F,LM,Z⟩ hI K2 lG rest
  dsimp only at hI
  refine zD 5<|zJ 52 ((i:Int) <(l18.length:Int)) (fun h2=>?_) fun h2=>?_
  ·
   refine zD 6 ?_
   obtain⟨xF,yA⟩:=zG l18 i
   refine fL auo 2 aNI yA<|jl 0 (aNH _ _ yA)<|jn fun xv=>jd 4 [0] ?_
   have Kv:=kH _ (zL yA)
   have aQa:=Kv.1.1
   have aP9:=Kv.1.2
   refine jd 4 [0]<|ja (xF.n+q) (by omega)<|zD 2<|zJ 59 ((xF.n+q)>40) (fun h3=>?_) fun h3=>?_
   ·
    exfalso;omega
   refine jd 13 [3,0,3,0]<|ja (xF.n+q) (by omega)<|jd 2 [0]<|jp (vs:=[zI (o:Int),zI (xF.n+q),zI xF.l]) [] [] (fun aF hs hZ=>gAt)<|aS 14 fun rZ r8 qM=>jn fun b74=>ep qM (zN 1 5)<|aS 15 fun sL sR qL=>jmu (kv:=px) (F:=F) (r:=rm) (K:=164) 2 (m9 (s:Int) xF) (.slice (some ⟨b74,0,none⟩) 1 1) EK hI.2.1 fun Lm6 hm6=>gA qL<|zD 2<|ja ((i:Int)+1) (by omega)<|zD 2 ?_
   have hup:=MV.upd (T:=164) (b:=b74) (y:=⟨o,xF.n+q,xF.l⟩) hO hI.2.2.2 hI.2.2.1 hl (by rw[←Im];exact zL yA)
   exact HM lG (⟨i+1,_,Lm6,Z++[(b74,.cells ⟨[zI (o:Int),zI (xF.n+q),zI xF.l]⟩ 164 (0,0))]⟩) ⟨by dsimp only;omega,hm6,hup.2,by rw[e8 (anR (by rw[←Im];exact yA))];have e:=hup.1;rw[hQ] at e ⊢;exact e⟩ (by dsimp only;omega) [[0],[3,1],[4],[5]] (Sub.refl _)
  refine zD 7<|zR (zI 0) [] [0,1] (LM++Z) ⟨F,LM,Z,rfl,rfl,hI.2.1,hI.2.2.1,by have:=hI.2.2.2;rwa[List.take_of_length_le (by simp only[Mv,List.length_map];rw[←Im];omega)] at this⟩
 refine zJ 34 ((Vx.length:Int)>0) (fun h7=>?_) fun h7=>?_
 ·
  refine zD 4<|ja ((Vx.length:Int)-1) (by omega) ?_
  obtain⟨x38,Oo⟩:=zG Vx ((((Vx.length:Int)-1)).toNat)
  refine PT ((Vx.length:Int)-1) ae8 2 amN Oo (by omega)<|zD 1<|jl 0 (amM _ _ Oo)<|zD 2<|ja ((Vx.length:Int)-1) (by omega) ?_
  obtain⟨Xs,BJ⟩:=zG Vx ((((Vx.length:Int)-1)).toNat)
  refine PT ((Vx.length:Int)-1) ae8 2 amN BJ (by omega)<|zD 1<|jl 0 (amM _ _ BJ)<|zD 1<|ja (x38.n+(Int.tmod Xs.n 2)) (by have h1:=(aEo _ (zL Oo)).1;have h2:=(aEo _ (zL BJ)).1;have:=tm2 h2;omega) ?_
  refine zD 2 ?_
  have hra:=raise_at Oo
  rw[OD] at hra
  exact bF bE (x38.n+(Int.tmod Xs.n 2)) (by rw[←OD];have e:x38=Xs:=Option.some.inj (Oo.symm.trans BJ);subst e;exact(raise_at Oo).symm) Nat.zero_lt_one [2,3,0,1] (Sub.refl _)
 refine zD 2<|bF bE 0 (by rw[←OD];exact(aaV (by omega)).symm) Nat.zero_lt_one [2,3,0,1] (Sub.refl _)
end Go.L
