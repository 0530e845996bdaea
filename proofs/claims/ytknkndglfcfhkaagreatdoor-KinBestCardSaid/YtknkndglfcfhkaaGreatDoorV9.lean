/- Part 9 of the proof. -/
import Derived.Test.YtknkndglfcfhkaaGreatDoorV8
set_option maxRecDepth 100000
set_option linter.all false
namespace Go.L
open Go Go.Conc Go.Proofs
variable {ro:Nat→Option Obj} {K:aB} {l fi ca:List Value} {W:List (List Int)} {Z LM Z2:Cells} {F:Nat→Nat→Bool} {i k f s rm:Nat} {α κ:Type} {n b ck c5 c6:Int} {g:FuncId} {xs:List Int}
def aJo(n:Nat):Prop:=∀(ro:Nat→Option Obj) (v:Value) (xs:List ah) (L:Cells) (a m b:Int),ax v 8 128 cE xs L→xs.length≤100000→gp xs→(0≤a∧a <m∧m <b∧b≤xs.length)→(b-a).toNat=n→
 dO zT 191 [v,zI a,zI m,zI b,.func (.func 109) ⟨[]⟩ ⟨[]⟩] ro L (fun _ Y=>xb v xs Y)
theorem aem{v:Value}{xs:List ah}{L:Cells}{a:Int}(ho:ax v 8 128 cE xs L)(hN:xs.length≤100000)(hP:gp xs)(zh:(0≤a∧0≤b∧0≤n)∧a+n≤xs.length∧b+n≤xs.length∧a≠b):dO zT 241 [v,zI a,zI b,zI n,.func (.func 109) ⟨[]⟩ ⟨[]⟩] ro L (fun r Y=>xb v xs Y):=by
 refine zC [.l L]<|zD 5<|dP [1,0,0] [] (fun(zz:Int×(List ah)×Cells)=>[(0,v),(1,zI a),(2,zI b),(3,zI n),(10,zI zz.1)]) (fun zz=>[.l zz.2.2]) (fun zz=>(0≤zz.1∧zz.1≤n)∧ax v 8 128 cE zz.2.1 zz.2.2∧zz.2.1.Perm xs) (fun zz=>(n-zz.1).toNat) (⟨0,xs,L⟩) ⟨by dsimp only;omega,ho,.refl _⟩ [0] ?_
 rintro⟨i,ys,L⟩ hI K1 bH rest
 dsimp only at hI
 have YA:=hI.2.2.length_eq
 have hyp:=hP.perm hI.2.2
 refine zD 7<|zJ 13 (i <n) (fun h1=>?_) fun h1=>?_
 ·
  refine zD 8<|ja (a+i) (by omega)<|zD 3<|ja (b+i) (by omega)<|zD 3<|ja (b+i) (by omega) ?_
  obtain⟨Z3,av0⟩:=zG ys ((b+i).toNat) (by first|omega| (simp only[List.length_set];omega))
  refine qi (b+i) 8 hI.2.1 av0 (Int.toNat_of_nonneg (show 0≤(b+i)∧(b+i) <((ys).length:Int) from (by first|omega| (simp only[List.length_set];omega))).1).symm (fun b28 aSO=>?_)
  refine pg 0 [0] L (fun s _ hZ=>cK hI.2.1 aSO hZ av0)<|zD 3<|ja (a+i) (by omega) ?_
  obtain⟨Z0,NR⟩:=zG ys ((a+i).toNat) (by first|omega| (simp only[List.length_set];omega))
  refine qi (a+i) 8 hI.2.1 NR (Int.toNat_of_nonneg (show 0≤(a+i)∧(a+i) <((ys).length:Int) from (by first|omega| (simp only[List.length_set];omega))).1).symm (fun b34 aSL=>?_)
  refine pg 0 [0] L (fun s _ hZ=>cK hI.2.1 aSL hZ NR) ?_
  obtain⟨x36,y6⟩:=zG ys ((a+i).toNat) (by first|omega| (simp only[List.length_set];omega))
  refine qi (a+i) 8 hI.2.1 y6 (Int.toNat_of_nonneg (show 0≤(a+i)∧(a+i) <((ys).length:Int) from (by first|omega| (simp only[List.length_set];omega))).1).symm (fun sq axX=>?_)
  refine aV 21 fun yA yI x6=>Tj 0 0 [zI Z3.past,zI Z3.w0,zI Z3.w1,zI Z3.w2,zI Z3.w3,zI Z3.gone,zI Z3.new,zI Z3.af] Z3 hI.2.1 axX y6 rfl rfl (Nat.le_of_ble_eq_true rfl) fun L3 ho4=>gM x6 [] ?_
  obtain⟨x37,abr⟩:=zG ((ys.set ((a+i).toNat) Z3)) ((b+i).toNat) (by first|omega| (simp only[List.length_set];omega))
  refine qi (b+i) 8 ho4 abr (Int.toNat_of_nonneg (show 0≤(b+i)∧(b+i) <(((ys.set ((a+i).toNat) Z3)).length:Int) from (by first|omega| (simp only[List.length_set];omega))).1).symm (fun b37 aSJ=>?_)
  refine aV 23 fun pW pZ oU=>Tj 0 0 [zI Z0.past,zI Z0.w0,zI Z0.w1,zI Z0.w2,zI Z0.w3,zI Z0.gone,zI Z0.new,zI Z0.af] Z0 ho4 aSJ abr rfl rfl (Nat.le_of_ble_eq_true rfl) fun L6 ho7=>gq oU<|zD 3<|ja (i+1) (by omega)<|zD 2<|bI bH (⟨(i+1),((ys.set ((a+i).toNat) Z3).set ((b+i).toNat) Z0),L6⟩) ⟨by dsimp only;omega,ho7,(nD NR av0).trans hI.2.2⟩ (by dsimp only;omega) [0] (Sub.refl _)
 refine zD 2<|zR (.tuple ⟨[]⟩) [] [0] L ⟨ys,hI.2.2,hI.2.1⟩
theorem aM8{v:Value}{xs:List ah}{L:Cells}{a m:Int}(ho:ax v 8 128 cE xs L)(hN:xs.length≤100000)(hP:gp xs)(zh:0≤a∧a <m∧m <b∧b≤xs.length):dO zT 220 [v,zI a,zI m,zI b,.func (.func 109) ⟨[]⟩ ⟨[]⟩] ro L (fun r Y=>xb v xs Y):=by
 refine zC [.l L]<|zD 4<|ja (m-a) (by omega)<|zD 6<|ja (b-m) (by omega)<|zD 4<|dP [1,1,0,0,0] [] (fun(zz:Int×Int×(List ah)×Cells)=>[(0,v),(2,zI m),(4,.func (.func 109) ⟨[]⟩ ⟨[]⟩),(10,zI zz.1),(11,zI zz.2.1)]) (fun zz=>[.l zz.2.2.2]) (fun zz=>((0 <zz.1∧zz.1≤m-a)∧0 <zz.2.1∧zz.2.1≤b-m)∧ax v 8 128 cE zz.2.2.1 zz.2.2.2∧zz.2.2.1.Perm xs) (fun zz=>(zz.1+zz.2.1).toNat) (⟨(m-a),(b-m),xs,L⟩) ⟨by dsimp only;omega,ho,.refl _⟩ [0] ?_
 rintro⟨i,j,ys,L⟩ hI K1 bH rest
 dsimp only at hI
 have YA:=hI.2.2.length_eq
 have hyp:=hP.perm hI.2.2
 refine zD 7<|js 20 (!decide (i=j)) (fun h1=>?_) (fun h1=>?_)
 ·
  replace h1:=of_decide_eq_false (by simpa using h1)
  refine zD 9<|zJ 23 (i>j) (fun h2=>?_) fun h2=>?_
  ·
   refine zD 6<|ja (m-i) (by omega)<|zD 3<|jc (vs:=[v,zI (m-i),zI m,zI j,.func (.func 109) ⟨[]⟩ ⟨[]⟩]) [0] (aem hI.2.1 (by omega) hyp (by omega)) ?_
   rintro ba0 Y31 ⟨aLx,awA,aQR⟩
   have aX0:=awA.length_eq
   have aXT:=gp.perm hyp awA
   refine zD 4<|ja (i-j) (by omega)<|zD 2<|bI bH (⟨(i-j),j,aLx,Y31⟩) ⟨by dsimp only;omega,aQR,(awA.trans hI.2.2)⟩ (by dsimp only;omega) [0] (Sub.refl _)
  refine zD 6<|ja (m-i) (by omega)<|zD 2<|ja (m+j) (by omega)<|zD 1<|ja ((m+j)-i) (by omega)<|zD 2<|jc (vs:=[v,zI (m-i),zI ((m+j)-i),zI i,.func (.func 109) ⟨[]⟩ ⟨[]⟩]) [0] (aem hI.2.1 (by omega) hyp (by omega)) ?_
  rintro baY Y46 ⟨aLv,awy,aQN⟩
  have aXY:=awy.length_eq
  have aXR:=gp.perm hyp awy
  refine zD 4<|ja (j-i) (by omega)<|zD 2<|bI bH (⟨i,(j-i),aLv,Y46⟩) ⟨by dsimp only;omega,aQN,(awy.trans hI.2.2)⟩ (by dsimp only;omega) [0] (Sub.refl _)
 replace h1:=of_decide_eq_true (by simpa using h1)
 refine zD 6<|ja (m-i) (by omega)<|zD 3<|jc (vs:=[v,zI (m-i),zI m,zI i,.func (.func 109) ⟨[]⟩ ⟨[]⟩]) [0] (aem hI.2.1 (by omega) hyp (by omega)) ?_
 rintro baX Y57 ⟨aZ2,aww,aox⟩
 have aXX:=aww.length_eq
 have aXQ:=gp.perm hyp aww
 refine zD 1<|zR (.tuple ⟨[]⟩) [] [0] Y57 ⟨_,(aww.trans hI.2.2),aox⟩
theorem aCf{n:Nat}{v:Value}{xs:List ah}{L:Cells}{a m:Int}(ih:∀k,k <n→aJo k)(ho:ax v 8 128 cE xs L)(hN:xs.length≤100000)(hP:gp xs)(zh:0≤a∧a <m∧m <b∧b≤xs.length)(hn:(b-a).toNat=n):dO zT 191 [v,zI a,zI m,zI b,.func (.func 109) ⟨[]⟩ ⟨[]⟩] ro L (fun r Y=>xb v xs Y):=by
 refine zC [.l L]<|zD 5<|ja (m-a) (by omega)<|zD 2<|zJ 28 ((m-a)=1) (fun h1=>?_) fun h1=>?_
 ·
  refine zD 13<|dP [0,1,0,1,1,0,0,0] [] (fun(zz:Int×Int)=>[(0,v),(1,zI a),(2,zI m),(3,zI b),(4,.func (.func 109) ⟨[]⟩ ⟨[]⟩),(10,zI zz.1),(11,zI zz.2)]) (fun zz=>[.l L]) (fun zz=>(m≤zz.1∧zz.1≤zz.2)∧zz.2≤b) (fun zz=>(zz.2-zz.1).toNat) (⟨m,b⟩) (by dsimp only;omega) [0] ?_
  rintro⟨i,j⟩ hI K1 bH rest
  dsimp only at hI
  refine zD 7<|zJ 33 (i <j) (fun h2=>?_) fun h2=>?_
  ·
   refine zD 7<|ja (i+j) (by omega)<|zD 6 ?_
   have hh:=Fw (x:=i+j) (by omega)
   refine zD 4 ?_
   obtain⟨x43,avX⟩:=zG xs ((IntKind.i64.wrap (aS .u64 (IntKind.u64.wrap (i+j)) 1)).toNat) (by first|omega| (simp only[List.length_set];omega))
   refine qi (IntKind.i64.wrap (aS .u64 (IntKind.u64.wrap (i+j)) 1)) 8 ho avX (Int.toNat_of_nonneg (show 0≤(IntKind.i64.wrap (aS .u64 (IntKind.u64.wrap (i+j)) 1))∧(IntKind.i64.wrap (aS .u64 (IntKind.u64.wrap (i+j)) 1)) <((xs).length:Int) from (by first|omega| (simp only[List.length_set];omega))).1).symm (fun b43 aSF=>?_)
   refine pg 0 [0] L (fun s _ hZ=>cK ho aSF hZ avX)<|zD 2 ?_
   obtain⟨x47,U9⟩:=zG xs (a.toNat) (by first|omega| (simp only[List.length_set];omega))
   refine qi a 8 ho U9 (Int.toNat_of_nonneg (show 0≤a∧a <((xs).length:Int) from (by first|omega| (simp only[List.length_set];omega))).1).symm (fun b47 aSE=>?_)
   refine pg 0 [0] L (fun s _ hZ=>cK ho aSE hZ U9)<|aV 9 fun yA yI x6=>jp (vs:=[.agg ⟨[zI x43.past,zI x43.w0,zI x43.w1,zI x43.w2,zI x43.w3,zI x43.gone,zI x43.new,zI x43.af]⟩,.agg ⟨[zI x47.past,zI x47.w0,zI x47.w1,zI x47.w2,zI x47.w3,zI x47.gone,zI x47.new,zI x47.af]⟩]) [] [] (fun aI hs hZ=>(an9 (x:=x43) (y:=x47) (hP _ (zL avX)) (hP _ (zL U9))))<|eH x6 [0]<|zD 2<|zJ 50 ((x43.past-x47.past) <0) (fun h4=>?_) fun h4=>?_
   ·
    refine zD 3<|ja ((IntKind.i64.wrap (aS .u64 (IntKind.u64.wrap (i+j)) 1))+1) (by omega)<|zD 2<|bI bH (⟨((IntKind.i64.wrap (aS .u64 (IntKind.u64.wrap (i+j)) 1))+1),j⟩) (by dsimp only;omega) (by dsimp only;omega) [0] (Sub.refl _)
   refine zD 5<|bI bH (⟨i,(IntKind.i64.wrap (aS .u64 (IntKind.u64.wrap (i+j)) 1))⟩) (by dsimp only;omega) (by dsimp only;omega) [0] (Sub.refl _)
  refine zD 9<|dP [0,1,0,1,1,1,0,1,0,0] [] (fun(zz:Int×(List ah)×Cells)=>[(0,v),(1,zI a),(2,zI m),(3,zI b),(4,.func (.func 109) ⟨[]⟩ ⟨[]⟩),(10,zI i),(13,zI zz.1)]) (fun zz=>[.l zz.2.2]) (fun zz=>a≤zz.1∧ax v 8 128 cE zz.2.1 zz.2.2∧zz.2.1.Perm xs) (fun zz=>(i-zz.1).toNat) (⟨a,xs,L⟩) ⟨by dsimp only;omega,ho,.refl _⟩ [0] ?_
  rintro⟨k,ys,L⟩ hJ K3 hK3 rest
  dsimp only at hJ
  have YA:=hJ.2.2.length_eq
  have hyp:=hP.perm hJ.2.2
  refine zD 5<|ja (i-1) (by omega)<|zD 2<|zJ 58 (k <(i-1)) (fun h5=>?_) fun h5=>?_
  ·
   refine zD 9<|ja (k+1) (by omega)<|zD 2<|ja (k+1) (by omega) ?_
   obtain⟨TE,abq⟩:=zG ys ((k+1).toNat) (by first|omega| (simp only[List.length_set];omega))
   refine qi (k+1) 8 hJ.2.1 abq (Int.toNat_of_nonneg (show 0≤(k+1)∧(k+1) <((ys).length:Int) from (by first|omega| (simp only[List.length_set];omega))).1).symm (fun b69 axV=>?_)
   refine pg 0 [0] L (fun s _ hZ=>cK hJ.2.1 axV hZ abq)<|zD 2 ?_
   obtain⟨x73,abp⟩:=zG ys (k.toNat) (by first|omega| (simp only[List.length_set];omega))
   refine qi k 8 hJ.2.1 abp (Int.toNat_of_nonneg (show 0≤k∧k <((ys).length:Int) from (by first|omega| (simp only[List.length_set];omega))).1).symm (fun b73 aSz=>?_)
   refine pg 0 [0] L (fun s _ hZ=>cK hJ.2.1 aSz hZ abp) ?_
   obtain⟨x75,U8⟩:=zG ys (k.toNat) (by first|omega| (simp only[List.length_set];omega))
   refine qi k 8 hJ.2.1 U8 (Int.toNat_of_nonneg (show 0≤k∧k <((ys).length:Int) from (by first|omega| (simp only[List.length_set];omega))).1).symm (fun b75 aSx=>?_)
   refine aV 15 fun rI rK qu=>Tj 0 0 [zI TE.past,zI TE.w0,zI TE.w1,zI TE.w2,zI TE.w3,zI TE.gone,zI TE.new,zI TE.af] TE hJ.2.1 aSx U8 rfl rfl (Nat.le_of_ble_eq_true rfl) fun L7 ho8=>gM qu [] ?_
   obtain⟨x76,aE9⟩:=zG ((ys.set k.toNat TE)) ((k+1).toNat) (by first|omega| (simp only[List.length_set];omega))
   refine qi (k+1) 8 ho8 aE9 (Int.toNat_of_nonneg (show 0≤(k+1)∧(k+1) <(((ys.set k.toNat TE)).length:Int) from (by first|omega| (simp only[List.length_set];omega))).1).symm (fun b76 aSw=>?_)
   refine aV 17 fun An Ay Ba=>Tj 0 0 [zI x73.past,zI x73.w0,zI x73.w1,zI x73.w2,zI x73.w3,zI x73.gone,zI x73.new,zI x73.af] x73 ho8 aSw aE9 rfl rfl (Nat.le_of_ble_eq_true rfl) fun L10 awJ=>gq Ba<|zD 3<|ja (k+1) (by omega)<|zD 2<|bI hK3 (⟨(k+1),((ys.set k.toNat TE).set ((k+1).toNat) x73),L10⟩) ⟨by dsimp only;omega,awJ,(nD abp abq).trans hJ.2.2⟩ (by dsimp only;omega) [0] (Sub.refl _)
  refine zD 3<|zR (.tuple ⟨[]⟩) [] [0] L ⟨_,hJ.2.2,hJ.2.1⟩
 refine zD 7<|ja (b-m) (by omega)<|zD 2<|zJ 80 ((b-m)=1) (fun BQ=>?_) fun BQ=>?_
 ·
  refine zD 13<|dP [1,0,1,0,1,1,0,0,0] [] (fun(zz:Int×Int)=>[(0,v),(1,zI a),(2,zI m),(3,zI b),(4,.func (.func 109) ⟨[]⟩ ⟨[]⟩),(14,zI zz.1),(15,zI zz.2)]) (fun zz=>[.l L]) (fun zz=>(a≤zz.1∧zz.1≤zz.2)∧zz.2≤m) (fun zz=>(zz.2-zz.1).toNat) (⟨a,m⟩) (by dsimp only;omega) [0] ?_
  rintro⟨i,j⟩ hI K6 hK6 rest
  dsimp only at hI
  refine zD 7<|zJ 85 (i <j) (fun yo=>?_) fun yo=>?_
  ·
   refine zD 7<|ja (i+j) (by omega)<|zD 6 ?_
   have hh:=Fw (x:=i+j) (by omega)
   refine zD 4 ?_
   obtain⟨x95,avQ⟩:=zG xs (m.toNat) (by first|omega| (simp only[List.length_set];omega))
   refine qi m 8 ho avQ (Int.toNat_of_nonneg (show 0≤m∧m <((xs).length:Int) from (by first|omega| (simp only[List.length_set];omega))).1).symm (fun b95 aSu=>?_)
   refine pg 0 [0] L (fun s _ hZ=>cK ho aSu hZ avQ)<|zD 2 ?_
   obtain⟨x99,U5⟩:=zG xs ((IntKind.i64.wrap (aS .u64 (IntKind.u64.wrap (i+j)) 1)).toNat) (by first|omega| (simp only[List.length_set];omega))
   refine qi (IntKind.i64.wrap (aS .u64 (IntKind.u64.wrap (i+j)) 1)) 8 ho U5 (Int.toNat_of_nonneg (show 0≤(IntKind.i64.wrap (aS .u64 (IntKind.u64.wrap (i+j)) 1))∧(IntKind.i64.wrap (aS .u64 (IntKind.u64.wrap (i+j)) 1)) <((xs).length:Int) from (by first|omega| (simp only[List.length_set];omega))).1).symm (fun b99 aSt=>?_)
   refine pg 0 [0] L (fun s _ hZ=>cK ho aSt hZ U5)<|aV 9 fun amc amC VM=>jp (vs:=[.agg ⟨[zI x95.past,zI x95.w0,zI x95.w1,zI x95.w2,zI x95.w3,zI x95.gone,zI x95.new,zI x95.af]⟩,.agg ⟨[zI x99.past,zI x99.w0,zI x99.w1,zI x99.w2,zI x99.w3,zI x99.gone,zI x99.new,zI x99.af]⟩]) [] [] (fun aI hs hZ=>(an9 (x:=x95) (y:=x99) (hP _ (zL avQ)) (hP _ (zL U5))))<|eH VM [0]<|zD 3<|js 103 (!(decide ((x95.past-x99.past) <0))) (fun HZ=>?_) (fun HZ=>?_)
   ·
    try simp only[zB] at HZ
    refine zD 3<|ja ((IntKind.i64.wrap (aS .u64 (IntKind.u64.wrap (i+j)) 1))+1) (by omega)<|zD 2<|bI hK6 (⟨((IntKind.i64.wrap (aS .u64 (IntKind.u64.wrap (i+j)) 1))+1),j⟩) (by dsimp only;omega) (by dsimp only;omega) [0] (Sub.refl _)
   try simp only[zB] at HZ
   refine zD 5<|bI hK6 (⟨i,(IntKind.i64.wrap (aS .u64 (IntKind.u64.wrap (i+j)) 1))⟩) (by dsimp only;omega) (by dsimp only;omega) [0] (Sub.refl _)
  refine zD 9<|dP [1,0,1,0,1,1,1,0,1,0,0] [] (fun(zz:Int×(List ah)×Cells)=>[(0,v),(1,zI a),(2,zI m),(3,zI b),(4,.func (.func 109) ⟨[]⟩ ⟨[]⟩),(14,zI i),(17,zI zz.1)]) (fun zz=>[.l zz.2.2]) (fun zz=>(a≤i∧zz.1≤m)∧ax v 8 128 cE zz.2.1 zz.2.2∧zz.2.1.Perm xs) (fun zz=>(zz.1-i).toNat) (⟨m,xs,L⟩) ⟨by dsimp only;omega,ho,.refl _⟩ [0] ?_
  rintro⟨k,ys,L⟩ hJ K8 hK8 rest
  dsimp only at hJ
  have YA:=hJ.2.2.length_eq
  have hyp:=hP.perm hJ.2.2
  refine zD 7<|zJ 110 (k>i) (fun Ob=>?_) fun Ob=>?_
  ·
   refine zD 9<|ja (k-1) (by omega)<|zD 2<|ja (k-1) (by omega) ?_
   obtain⟨BV,ahj⟩:=zG ys ((k-1).toNat) (by first|omega| (simp only[List.length_set];omega))
   refine qi (k-1) 8 hJ.2.1 ahj (Int.toNat_of_nonneg (show 0≤(k-1)∧(k-1) <((ys).length:Int) from (by first|omega| (simp only[List.length_set];omega))).1).symm (fun bf6 aHg=>?_)
   refine pg 0 [0] L (fun s _ hZ=>cK hJ.2.1 aHg hZ ahj)<|zD 2 ?_
   obtain⟨Ef,Hm⟩:=zG ys (k.toNat) (by first|omega| (simp only[List.length_set];omega))
   refine qi k 8 hJ.2.1 Hm (Int.toNat_of_nonneg (show 0≤k∧k <((ys).length:Int) from (by first|omega| (simp only[List.length_set];omega))).1).symm (fun bf5 aHf=>?_)
   refine pg 0 [0] L (fun s _ hZ=>cK hJ.2.1 aHf hZ Hm) ?_
   obtain⟨bac,arj⟩:=zG ys (k.toNat) (by first|omega| (simp only[List.length_set];omega))
   refine qi k 8 hJ.2.1 arj (Int.toNat_of_nonneg (show 0≤k∧k <((ys).length:Int) from (by first|omega| (simp only[List.length_set];omega))).1).symm (fun bf4 aHe=>?_)
   refine aV 15 fun TB TY R9=>Tj 0 0 [zI BV.past,zI BV.w0,zI BV.w1,zI BV.w2,zI BV.w3,zI BV.gone,zI BV.new,zI BV.af] BV hJ.2.1 aHe arj rfl rfl (Nat.le_of_ble_eq_true rfl) fun L18 aF0=>gM R9 [] ?_
   obtain⟨bab,ahh⟩:=zG ((ys.set k.toNat BV)) ((k-1).toNat) (by first|omega| (simp only[List.length_set];omega))
   refine qi (k-1) 8 aF0 ahh (Int.toNat_of_nonneg (show 0≤(k-1)∧(k-1) <(((ys.set k.toNat BV)).length:Int) from (by first|omega| (simp only[List.length_set];omega))).1).symm (fun OM aHd=>?_)
   refine aV 17 fun Dj Ds uv=>Tj 0 0 [zI Ef.past,zI Ef.w0,zI Ef.w1,zI Ef.w2,zI Ef.w3,zI Ef.gone,zI Ef.new,zI Ef.af] Ef aF0 aHd ahh rfl rfl (Nat.le_of_ble_eq_true rfl) fun L21 aQU=>gq uv<|zD 3<|ja (k-1) (by omega)<|zD 2<|bI hK8 (⟨(k-1),((ys.set k.toNat BV).set ((k-1).toNat) Ef),L21⟩) ⟨by dsimp only;omega,aQU,(nD Hm ahj).trans hJ.2.2⟩ (by dsimp only;omega) [0] (Sub.refl _)
  refine zD 3<|zR (.tuple ⟨[]⟩) [] [0] L ⟨_,hJ.2.2,hJ.2.1⟩
 refine zD 6<|ja (a+b) (by omega)<|zD 6 ?_
 have bd6:=Fw (x:=a+b) (by omega)
 refine zD 3<|ja ((IntKind.i64.wrap (aS .u64 (IntKind.u64.wrap (a+b)) 1))+m) (by omega)<|zD 14<|Jc [1,1,1,1,1,1] [] (fun(zz:Int×Int)=>[(0,v),(1,zI a),(2,zI m),(3,zI b),(4,.func (.func 109) ⟨[]⟩ ⟨[]⟩),(18,zI (IntKind.i64.wrap (aS .u64 (IntKind.u64.wrap (a+b)) 1))),(19,zI ((IntKind.i64.wrap (aS .u64 (IntKind.u64.wrap (a+b)) 1))+m)),(20,zI zz.1),(21,zI zz.2)]) (fun zz=>[.l L]) (fun zz=>(a≤zz.1∧zz.1≤zz.2)∧zz.2≤b∧a≤((IntKind.i64.wrap (aS .u64 (IntKind.u64.wrap (a+b)) 1))+m)-zz.2∧((IntKind.i64.wrap (aS .u64 (IntKind.u64.wrap (a+b)) 1))+m)-zz.1≤b) ?_ (fun K11 aHu=>?_)
 ·
  rintro⟨s0,r0⟩ hC rest
  dsimp only at hC
  refine zD 3<|ja (((IntKind.i64.wrap (aS .u64 (IntKind.u64.wrap (a+b)) 1))+m)-1) (by omega)<|zD 4<|dP [1,1,1,1,1,1,1,0,0,0] [] (fun(zz:Int×Int)=>[(0,v),(1,zI a),(2,zI m),(3,zI b),(4,.func (.func 109) ⟨[]⟩ ⟨[]⟩),(18,zI (IntKind.i64.wrap (aS .u64 (IntKind.u64.wrap (a+b)) 1))),(19,zI ((IntKind.i64.wrap (aS .u64 (IntKind.u64.wrap (a+b)) 1))+m)),(20,zI zz.1),(21,zI zz.2),(22,zI (((IntKind.i64.wrap (aS .u64 (IntKind.u64.wrap (a+b)) 1))+m)-1))]) (fun zz=>[.l L]) (fun zz=>(a≤zz.1∧zz.1≤zz.2)∧zz.2≤b∧a≤((IntKind.i64.wrap (aS .u64 (IntKind.u64.wrap (a+b)) 1))+m)-zz.2∧((IntKind.i64.wrap (aS .u64 (IntKind.u64.wrap (a+b)) 1))+m)-zz.1≤b) (fun zz=>(zz.2-zz.1).toNat) (⟨s0,r0⟩) hC [0] ?_
  rintro⟨sx,r⟩ hK K12 ai1 rest
  dsimp only at hK
  refine zD 7<|zJ 151 (sx <r) (fun Ai=>?_) fun Ai=>?_
  ·
   refine zD 7<|ja (sx+r) (by omega)<|zD 6 ?_
   have hsr:=Fw (x:=sx+r) (by omega)
   refine zD 5<|ja ((((IntKind.i64.wrap (aS .u64 (IntKind.u64.wrap (a+b)) 1))+m)-1)-(IntKind.i64.wrap (aS .u64 (IntKind.u64.wrap (sx+r)) 1))) (by omega) ?_
   obtain⟨Jv,ahc⟩:=zG xs (((((IntKind.i64.wrap (aS .u64 (IntKind.u64.wrap (a+b)) 1))+m)-1)-(IntKind.i64.wrap (aS .u64 (IntKind.u64.wrap (sx+r)) 1))).toNat) (by first|omega| (simp only[List.length_set];omega))
   refine qi ((((IntKind.i64.wrap (aS .u64 (IntKind.u64.wrap (a+b)) 1))+m)-1)-(IntKind.i64.wrap (aS .u64 (IntKind.u64.wrap (sx+r)) 1))) 8 ho ahc (Int.toNat_of_nonneg (show 0≤((((IntKind.i64.wrap (aS .u64 (IntKind.u64.wrap (a+b)) 1))+m)-1)-(IntKind.i64.wrap (aS .u64 (IntKind.u64.wrap (sx+r)) 1)))∧((((IntKind.i64.wrap (aS .u64 (IntKind.u64.wrap (a+b)) 1))+m)-1)-(IntKind.i64.wrap (aS .u64 (IntKind.u64.wrap (sx+r)) 1))) <((xs).length:Int) from (by first|omega| (simp only[List.length_set];omega))).1).symm (fun bf2 aHb=>?_)
   refine pg 0 [0] L (fun s _ hZ=>cK ho aHb hZ ahc)<|zD 2 ?_
   obtain⟨Ar,td⟩:=zG xs ((IntKind.i64.wrap (aS .u64 (IntKind.u64.wrap (sx+r)) 1)).toNat) (by first|omega| (simp only[List.length_set];omega))
   refine qi (IntKind.i64.wrap (aS .u64 (IntKind.u64.wrap (sx+r)) 1)) 8 ho td (Int.toNat_of_nonneg (show 0≤(IntKind.i64.wrap (aS .u64 (IntKind.u64.wrap (sx+r)) 1))∧(IntKind.i64.wrap (aS .u64 (IntKind.u64.wrap (sx+r)) 1)) <((xs).length:Int) from (by first|omega| (simp only[List.length_set];omega))).1).symm (fun bf1 aHa=>?_)
   refine pg 0 [0] L (fun s _ hZ=>cK ho aHa hZ td)<|aV 11 fun aAX aBS VY=>jp (vs:=[.agg ⟨[zI Jv.past,zI Jv.w0,zI Jv.w1,zI Jv.w2,zI Jv.w3,zI Jv.gone,zI Jv.new,zI Jv.af]⟩,.agg ⟨[zI Ar.past,zI Ar.w0,zI Ar.w1,zI Ar.w2,zI Ar.w3,zI Ar.gone,zI Ar.new,zI Ar.af]⟩]) [] [] (fun aI hs hZ=>(an9 (x:=Jv) (y:=Ar) (hP _ (zL ahc)) (hP _ (zL td))))<|eH VY [0]<|zD 3<|js 171 (!(decide ((Jv.past-Ar.past) <0))) (fun h25=>?_) (fun h25=>?_)
   ·
    try simp only[zB] at h25
    refine zD 3<|ja ((IntKind.i64.wrap (aS .u64 (IntKind.u64.wrap (sx+r)) 1))+1) (by omega)<|zD 2<|bI ai1 (⟨((IntKind.i64.wrap (aS .u64 (IntKind.u64.wrap (sx+r)) 1))+1),r⟩) (by dsimp only;omega) (by dsimp only;omega) [0] (Sub.refl _)
   try simp only[zB] at h25
   refine zD 5<|bI ai1 (⟨sx,(IntKind.i64.wrap (aS .u64 (IntKind.u64.wrap (sx+r)) 1))⟩) (by dsimp only;omega) (by dsimp only;omega) [0] (Sub.refl _)
  refine zD 6<|ja (((IntKind.i64.wrap (aS .u64 (IntKind.u64.wrap (a+b)) 1))+m)-sx) (by omega)<|zD 9<|jj 4 [(0,v),(1,zI a),(2,zI m),(3,zI b),(4,.func (.func 109) ⟨[]⟩ ⟨[]⟩),(18,zI (IntKind.i64.wrap (aS .u64 (IntKind.u64.wrap (a+b)) 1))),(20,zI sx),(24,zI (((IntKind.i64.wrap (aS .u64 (IntKind.u64.wrap (a+b)) 1))+m)-sx)),(185,.bool ((decide (sx <m))&&(decide (m <(((IntKind.i64.wrap (aS .u64 (IntKind.u64.wrap (a+b)) 1))+m)-sx)))))] (fun gG=>?_) (fun hj=>?_)
  rotate_left
  refine js 181 (decide (sx <m)) (fun h26=>?_) (fun h26=>?_)
  ·
   have ajq:=h26
   replace ajq:=of_decide_eq_true ajq
   refine zD 4<|jw 185 (.bool ((decide (sx <m))&&(decide (m <(((IntKind.i64.wrap (aS .u64 (IntKind.u64.wrap (a+b)) 1))+m)-sx))))) (w:= .bool (decide (m <(((IntKind.i64.wrap (aS .u64 (IntKind.u64.wrap (a+b)) 1))+m)-sx)))) (by rw[h26]<;>rfl) ?_
   exact zK hj
  ·
   have ajq:=h26
   replace ajq:=of_decide_eq_false ajq
   refine zD 4<|jw 185 (.bool ((decide (sx <m))&&(decide (m <(((IntKind.i64.wrap (aS .u64 (IntKind.u64.wrap (a+b)) 1))+m)-sx))))) (w:= .bool false) (by rw[h26]<;>rfl) ?_
   exact zK hj
  refine zD 1<|Jc [1,1,1,1,1,1,1,1,1,1] [] (fun(zz:(List ah)×Cells)=>[(0,v),(1,zI a),(3,zI b),(4,.func (.func 109) ⟨[]⟩ ⟨[]⟩),(18,zI (IntKind.i64.wrap (aS .u64 (IntKind.u64.wrap (a+b)) 1))),(20,zI sx),(24,zI (((IntKind.i64.wrap (aS .u64 (IntKind.u64.wrap (a+b)) 1))+m)-sx))]) (fun zz=>[.l zz.2]) (fun zz=>zz.1.Perm xs∧ax v 8 128 cE zz.1 zz.2) ?_ (fun K14 J7=>?_)
  ·
   rintro⟨ys,L⟩ hA rest
   dsimp only at hA
   have YA:=hA.1.length_eq
   have hyp:=hP.perm hA.1
   refine zD 7<|jj 4 [(0,v),(1,zI a),(3,zI b),(4,.func (.func 109) ⟨[]⟩ ⟨[]⟩),(18,zI (IntKind.i64.wrap (aS .u64 (IntKind.u64.wrap (a+b)) 1))),(20,zI sx),(24,zI (((IntKind.i64.wrap (aS .u64 (IntKind.u64.wrap (a+b)) 1))+m)-sx)),(199,.bool ((decide (a <sx))&&(decide (sx <(IntKind.i64.wrap (aS .u64 (IntKind.u64.wrap (a+b)) 1))))))] (fun gG=>?_) (fun hj=>?_)
   rotate_left
   refine js 195 (decide (a <sx)) (fun Tw=>?_) (fun Tw=>?_)
   ·
    have ajp:=Tw
    replace ajp:=of_decide_eq_true ajp
    refine zD 4<|jw 199 (.bool ((decide (a <sx))&&(decide (sx <(IntKind.i64.wrap (aS .u64 (IntKind.u64.wrap (a+b)) 1)))))) (w:= .bool (decide (sx <(IntKind.i64.wrap (aS .u64 (IntKind.u64.wrap (a+b)) 1))))) (by rw[Tw]<;>rfl) ?_
    exact zK hj
   ·
    have ajp:=Tw
    replace ajp:=of_decide_eq_false ajp
    refine zD 4<|jw 199 (.bool ((decide (a <sx))&&(decide (sx <(IntKind.i64.wrap (aS .u64 (IntKind.u64.wrap (a+b)) 1)))))) (w:= .bool false) (by rw[Tw]<;>rfl) ?_
    exact zK hj
   refine zD 1<|Jc [1,1,1,1,1,1,1,1,1,1,1] [] (fun(zz:(List ah)×Cells)=>[(0,v),(3,zI b),(4,.func (.func 109) ⟨[]⟩ ⟨[]⟩),(18,zI (IntKind.i64.wrap (aS .u64 (IntKind.u64.wrap (a+b)) 1))),(24,zI (((IntKind.i64.wrap (aS .u64 (IntKind.u64.wrap (a+b)) 1))+m)-sx))]) (fun zz=>[.l zz.2]) (fun zz=>zz.1.Perm xs∧ax v 8 128 cE zz.1 zz.2) ?_ (fun K15 aHt=>?_)
   ·
    rintro⟨ys,L⟩ hB rest
    dsimp only at hB
    have YA:=hB.1.length_eq
    have hyp:=hP.perm hB.1
    refine zD 6<|jj 4 [(0,v),(3,zI b),(4,.func (.func 109) ⟨[]⟩ ⟨[]⟩),(18,zI (IntKind.i64.wrap (aS .u64 (IntKind.u64.wrap (a+b)) 1))),(24,zI (((IntKind.i64.wrap (aS .u64 (IntKind.u64.wrap (a+b)) 1))+m)-sx)),(213,.bool ((decide ((IntKind.i64.wrap (aS .u64 (IntKind.u64.wrap (a+b)) 1)) <(((IntKind.i64.wrap (aS .u64 (IntKind.u64.wrap (a+b)) 1))+m)-sx)))&&(decide ((((IntKind.i64.wrap (aS .u64 (IntKind.u64.wrap (a+b)) 1))+m)-sx) <b))))] (fun gG=>?_) (fun hj=>?_)
    rotate_left
    refine js 209 (decide ((IntKind.i64.wrap (aS .u64 (IntKind.u64.wrap (a+b)) 1)) <(((IntKind.i64.wrap (aS .u64 (IntKind.u64.wrap (a+b)) 1))+m)-sx))) (fun Oa=>?_) (fun Oa=>?_)
    ·
     have ajo:=Oa
     replace ajo:=of_decide_eq_true ajo
     refine zD 4<|jw 213 (.bool ((decide ((IntKind.i64.wrap (aS .u64 (IntKind.u64.wrap (a+b)) 1)) <(((IntKind.i64.wrap (aS .u64 (IntKind.u64.wrap (a+b)) 1))+m)-sx)))&&(decide ((((IntKind.i64.wrap (aS .u64 (IntKind.u64.wrap (a+b)) 1))+m)-sx) <b)))) (w:= .bool (decide ((((IntKind.i64.wrap (aS .u64 (IntKind.u64.wrap (a+b)) 1))+m)-sx) <b))) (by rw[Oa]<;>rfl) ?_
     exact zK hj
    ·
     have ajo:=Oa
     replace ajo:=of_decide_eq_false ajo
     refine zD 4<|jw 213 (.bool ((decide ((IntKind.i64.wrap (aS .u64 (IntKind.u64.wrap (a+b)) 1)) <(((IntKind.i64.wrap (aS .u64 (IntKind.u64.wrap (a+b)) 1))+m)-sx)))&&(decide ((((IntKind.i64.wrap (aS .u64 (IntKind.u64.wrap (a+b)) 1))+m)-sx) <b)))) (w:= .bool false) (by rw[Oa]<;>rfl) ?_
     exact zK hj
    refine zD 1<|js 213 ((decide ((IntKind.i64.wrap (aS .u64 (IntKind.u64.wrap (a+b)) 1)) <(((IntKind.i64.wrap (aS .u64 (IntKind.u64.wrap (a+b)) 1))+m)-sx)))&&(decide ((((IntKind.i64.wrap (aS .u64 (IntKind.u64.wrap (a+b)) 1))+m)-sx) <b))) (fun h29=>?_) (fun h29=>?_)
    ·
     try simp only[zB] at h29
     refine zD 7<|jc (vs:=[v,zI (IntKind.i64.wrap (aS .u64 (IntKind.u64.wrap (a+b)) 1)),zI (((IntKind.i64.wrap (aS .u64 (IntKind.u64.wrap (a+b)) 1))+m)-sx),zI b,.func (.func 109) ⟨[]⟩ ⟨[]⟩]) [0] (ih _ (show (b-(IntKind.i64.wrap (aS .u64 (IntKind.u64.wrap (a+b)) 1))).toNat <n by omega) _ _ _ _ _ _ _ hB.2 (by omega) hyp (by omega) rfl) ?_
     rintro aWJ aU7 ⟨aWa,ahB,aFW⟩
     have aPz:=ahB.length_eq
     have aPv:=gp.perm hyp ahB
     refine zD 1<|zR (.tuple ⟨[]⟩) [] [0] aU7 ⟨_,(ahB.trans hB.1),aFW⟩
    try simp only[zB] at h29
    refine zD 2<|zR (.tuple ⟨[]⟩) [] [0] L ⟨_,hB.1,hB.2⟩
   refine js 199 ((decide (a <sx))&&(decide (sx <(IntKind.i64.wrap (aS .u64 (IntKind.u64.wrap (a+b)) 1))))) (fun N9=>?_) (fun N9=>?_)
   ·
    try simp only[zB] at N9
    refine zD 7<|jc (vs:=[v,zI a,zI sx,zI (IntKind.i64.wrap (aS .u64 (IntKind.u64.wrap (a+b)) 1)),.func (.func 109) ⟨[]⟩ ⟨[]⟩]) [0] (ih _ (show ((IntKind.i64.wrap (aS .u64 (IntKind.u64.wrap (a+b)) 1))-a).toNat <n by omega) _ _ _ _ _ _ _ hA.2 (by omega) hyp (by omega) rfl) ?_
    rintro aWK aU8 ⟨aAY,ahC,aFY⟩
    have aPA:=ahC.length_eq
    have aPw:=gp.perm hyp ahC
    refine zD 1<|bI aHt ⟨aAY,aU8⟩ ⟨(ahC.trans hA.1),aFY⟩ Nat.zero_lt_one [0] (Sub.refl _)
   try simp only[zB] at N9
   refine zD 2<|bI aHt ⟨ys,L⟩ ⟨hA.1,hA.2⟩ Nat.zero_lt_one [0] (Sub.refl _)
  refine js 185 ((decide (sx <m))&&(decide (m <(((IntKind.i64.wrap (aS .u64 (IntKind.u64.wrap (a+b)) 1))+m)-sx)))) (fun h31=>?_) (fun h31=>?_)
  ·
   try simp only[zB] at h31
   refine zD 7<|jc (vs:=[v,zI sx,zI m,zI (((IntKind.i64.wrap (aS .u64 (IntKind.u64.wrap (a+b)) 1))+m)-sx),.func (.func 109) ⟨[]⟩ ⟨[]⟩]) [0] (aM8 ho (by omega) hP (by omega)) ?_
   rintro aWL aU9 ⟨aAZ,ahD,aFZ⟩
   have aPB:=ahD.length_eq
   have aPx:=gp.perm hP ahD
   refine zD 1<|bI J7 ⟨aAZ,aU9⟩ ⟨(ahD.trans (.refl _)),aFZ⟩ Nat.zero_lt_one [0] (Sub.refl _)
  try simp only[zB] at h31
  refine zD 2<|bI J7 ⟨xs,L⟩ ⟨(.refl _),ho⟩ Nat.zero_lt_one [0] (Sub.refl _)
 refine zJ 140 (m>(IntKind.i64.wrap (aS .u64 (IntKind.u64.wrap (a+b)) 1))) (fun h32=>?_) fun h32=>?_
 ·
  refine zD 5<|ja (((IntKind.i64.wrap (aS .u64 (IntKind.u64.wrap (a+b)) 1))+m)-b) (by omega)<|zD 6<|bI aHu ⟨(((IntKind.i64.wrap (aS .u64 (IntKind.u64.wrap (a+b)) 1))+m)-b),(IntKind.i64.wrap (aS .u64 (IntKind.u64.wrap (a+b)) 1))⟩ (by dsimp only;omega) Nat.zero_lt_one [0] (Sub.refl _)
 refine zD 10<|bI aHu ⟨a,m⟩ (by dsimp only;omega) Nat.zero_lt_one [0] (Sub.refl _)
theorem aM7:∀n,aJo n:=by
 intro n
 induction n using Nat.strongRecOn with
 |_ n ih=>exact fun ro v xs L a m b ho hN hP zh hn=>aCf ih ho hN hP zh hn
theorem aqI{v:Value}{xs:List ah}{L:Cells}{a m:Int}(ho:ax v 8 128 cE xs L)(hN:xs.length≤100000)(hP:gp xs)(zh:0≤a∧a <m∧m <b∧b≤xs.length):dO zT 191 [v,zI a,zI m,zI b,.func (.func 109) ⟨[]⟩ ⟨[]⟩] ro L (fun _ Y=>xb v xs Y):=
 aM7 _ ro v xs L a m b ho hN hP zh rfl
theorem aCg{v:Value}{xs:List ah}{L:Cells}(ho:ax v 8 128 cE xs L)(hN:xs.length≤100000)(hP:gp xs)(hn:n=xs.length):dO zT 150 [v,zI n,.func (.func 109) ⟨[]⟩ ⟨[]⟩] ro L (fun r Y=>xb v xs Y):=by
 refine zC [.l L]<|zD 12<|dP [1,1,0,0,0] [] (fun(zz:Int×Int×(List ah)×Cells)=>[(0,v),(1,zI n),(2,.func (.func 109) ⟨[]⟩ ⟨[]⟩),(6,zI 20),(7,zI zz.1),(8,zI zz.2.1)]) (fun zz=>[.l zz.2.2.2]) (fun zz=>(zz.2.1=zz.1+20∧0≤zz.1∧zz.1≤n)∧ax v 8 128 cE zz.2.2.1 zz.2.2.2∧zz.2.2.1.Perm xs) (fun zz=>(n-zz.1).toNat) (⟨0,20,xs,L⟩) ⟨by dsimp only;omega,ho,.refl _⟩ [0] ?_
 rintro⟨a,b,ys,L⟩ hI K1 bH rest
 dsimp only at hI
 have YA:=hI.2.2.length_eq
 have hyp:=hP.perm hI.2.2
 refine zD 7<|zJ 13 (b≤n) (fun h1=>?_) fun h1=>?_
 ·
  refine zD 9<|jc (vs:=[v,zI a,zI b,.func (.func 109) ⟨[]⟩ ⟨[]⟩]) [0] (aCi hI.2.1 (by omega) hyp (by omega)) ?_
  rintro ba2 Y18 ⟨aLz,Ry,abA⟩
  have aX2:=Ry.length_eq
  have aXV:=gp.perm hyp Ry
  refine zD 9<|ja (b+20) (by omega)<|zD 2<|bI bH (⟨b,(b+20),aLz,Y18⟩) ⟨by dsimp only;omega,abA,(Ry.trans hI.2.2)⟩ (by dsimp only;omega) [0] (Sub.refl _)
 refine zD 8<|jc (vs:=[v,zI a,zI n,.func (.func 109) ⟨[]⟩ ⟨[]⟩]) [0] (aCi hI.2.1 (by omega) hyp (by omega)) ?_
 rintro ba1 Y27 ⟨aZ3,awC,aQS⟩
 have aX1:=awC.length_eq
 have aXU:=gp.perm hyp awC
 refine zD 2<|dP [1,1,1,1,0,0] [] (fun(zz:Int×(List ah)×Cells)=>[(0,v),(1,zI n),(2,.func (.func 109) ⟨[]⟩ ⟨[]⟩),(6,zI zz.1)]) (fun zz=>[.l zz.2.2]) (fun zz=>(20≤zz.1∧zz.1≤1000000)∧ax v 8 128 cE zz.2.1 zz.2.2∧zz.2.1.Perm xs) (fun zz=>(n-zz.1).toNat) (⟨20,_,_⟩) ⟨by dsimp only;omega,aQS,awC.trans hI.2.2⟩ [0] ?_
 rintro⟨bz,ys,L⟩ hJ K2 mr rest
 dsimp only at hJ
 have YA:=hJ.2.2.length_eq
 have hyp:=hP.perm hJ.2.2
 refine zD 7<|zJ 30 (bz <n) (fun h2=>?_) fun h2=>?_
 ·
  refine zD 6<|ja (2*bz) (by omega)<|zD 5<|dP [1,1,1,1,0,0,1,0,1,0,0,0] [K2] (fun(zz:Int×Int×(List ah)×Cells)=>[(0,v),(1,zI n),(2,.func (.func 109) ⟨[]⟩ ⟨[]⟩),(6,zI bz),(7,zI zz.1),(8,zI zz.2.1)]) (fun zz=>[.l zz.2.2.2]) (fun zz=>(zz.2.1=zz.1+2*bz∧0≤zz.1∧zz.1≤n)∧ax v 8 128 cE zz.2.2.1 zz.2.2.2∧zz.2.2.1.Perm xs) (fun zz=>(n-zz.1).toNat) (⟨0,(2*bz),ys,L⟩) ⟨by dsimp only;omega,hJ.2⟩ [0] ?_
  rintro⟨a,b,ys,L⟩ hK K3 hK3 rest
  dsimp only at hK
  have YA:=hK.2.2.length_eq
  have hyp:=hP.perm hK.2.2
  refine zD 7<|zJ 35 (b≤n) (fun h3=>?_) fun h3=>?_
  ·
   refine zD 9<|ja (a+bz) (by omega)<|zD 2<|jc (vs:=[v,zI a,zI (a+bz),zI b,.func (.func 109) ⟨[]⟩ ⟨[]⟩]) [0] (aqI hK.2.1 (by omega) hyp (by omega)) ?_
   rintro baZ Y43 ⟨aLw,awz,aQO⟩
   have aXZ:=awz.length_eq
   have aXS:=gp.perm hyp awz
   refine zD 9<|ja (2*bz) (by omega)<|ja (b+(2*bz)) (by omega)<|zD 2<|bI hK3 (⟨b,(b+(2*bz)),aLw,Y43⟩) ⟨by dsimp only;omega,aQO,(awz.trans hK.2.2)⟩ (by dsimp only;omega) [0] (Sub.refl _)
  refine zD 7<|ja (a+bz) (by omega)<|zD 8<|zJ 54 ((a+bz) <n) (fun h4=>?_) fun h4=>?_
  ·
   refine zD 7<|jc (vs:=[v,zI a,zI (a+bz),zI n,.func (.func 109) ⟨[]⟩ ⟨[]⟩]) [0] (aqI hK.2.1 (by omega) hyp (by omega)) ?_
   rintro baW Y60 ⟨aLu,ahA,NX⟩
   have aXW:=ahA.length_eq
   have aXP:=gp.perm hyp ahA
   refine zD 3<|ja (bz*2) (by omega)<|zD 2<|bI mr (⟨(bz*2),aLu,Y60⟩) ⟨by dsimp only;omega,NX,(ahA.trans hK.2.2)⟩ (by dsimp only;omega) [0] (Sub.refl _)
  refine zD 4<|ja (bz*2) (by omega)<|zD 2<|bI mr (⟨(bz*2),ys,L⟩) ⟨by dsimp only;omega,hK.2.1,hK.2.2⟩ (by dsimp only;omega) [0] (Sub.refl _)
 refine zD 2<|zR (.tuple ⟨[]⟩) [] [0] L ⟨_,hJ.2.2,hJ.2.1⟩
theorem Qe{v:Value}{xs:List ah}{L:Cells}(ho:ax v 8 128 cE xs L)(hN:xs.length≤100000)(hP:gp xs):dO zT 108 [v,.func (.func 109) ⟨[]⟩ ⟨[]⟩] ro L (fun r Y=>xb v xs Y):=by
 refine zC [.l L]<|zD 3<|DL ho<|zD 1<|jc (vs:=[v,zI (xs.length:Int),.func (.func 109) ⟨[]⟩ ⟨[]⟩]) [0] (aCg ho (by omega) hP rfl) ?_
 rintro rv8 Y8 ⟨ys8,hp8,ho8⟩
 have bc8:=hp8.length_eq
 have bc7:=gp.perm hP hp8
 refine zD 1<|zR (.tuple ⟨[]⟩) [] [0] Y8 ⟨_,hp8,ho8⟩
open Go.ConcR (KK wgBlock WgAt stA smA rd wr)
def akQ(o:Oper):Array TypeId:=match o.op with
 | .call c=>c.argTypes
 | .go c=>c.argTypes
 | .defer c=>c.argTypes
 |_=> #[]
noncomputable def kE:rH:=ayR zT 76 2
theorem aES:kE.cl.OK zT 210 where
 ff:=by kernel_rfl
 fn:=⟨(Tryz.prog.funcs[106]?).getD default,by kernel_rfl,by kernel_rfl,by kernel_rfl⟩
 bf:=⟨by kernel_rfl,by kernel_rfl,by kernel_rfl⟩
 enter:=fun p1 p2=>by kernel_rfl
 op0:=by kernel_rfl
 rest:=⟨1,by kernel_rfl⟩
 size:=by kernel_rfl
 op:=⟨by kernel_rfl,by kernel_rfl,akQ kE.cl.oc,by kernel_rfl⟩
theorem avz:∀v,v <2→∀W,∃k,IA zT 210 v (Frame.enter zT 103 #[zP W,zI 1] .normal)=some (List.replicate k W):=by
 intro v hv W
 match v,hv with
 |0,_=>exact⟨7,by kernel_rfl⟩
 |1,_=>exact⟨4,by kernel_rfl⟩
theorem an8:∀W,∃k,xJ zT 210 2 (Frame.enter zT 105 #[zP W] .deferred)=some (List.replicate k W):=fun W=>⟨27,by kernel_rfl⟩
theorem an7:∀W,∃k,Bs zT 210 2 (Frame.enter zT 107 #[zP W] .normal)=some (List.replicate k W):=fun W=>⟨164,by kernel_rfl⟩
noncomputable def nt(Wg Ch:Nat)(gH:Os)(cz:Array (Nat×ByteArray)):dQ (List ah):=⟨zT,210,Wg,Ch,2,zS,gH,cz,fun l v X=>ax v 8 128 cE l X⟩
theorem H4(K:aB)(on:Int)(hb:K.after.length≤4):∀(n a:Nat) (p:Nat→Int),(∀i,0≤p i∧p i≤4)→(iE K on n a p).length≤5^n∧∀q∈iE K on n a p,∀i,0≤q i∧q i≤4
 |0,a,p,hp=>by
  simp only[iE]
  cases lI on p K.facts 0 with
  |true=>exact⟨by simp,fun q hq=>by simp only[cond_true,List.mem_singleton] at hq;subst hq;exact hp⟩
  |false=>exact⟨by simp,fun q hq=>by simp at hq⟩
 |n+1,a,p,hp=>by
  obtain⟨h1,h2⟩:=H4 K on hb n (a+1) p hp
  have hg:∀b,b <K.after.length→(nn K on n a p b).length≤5^n∧∀q∈nn K on n a p b,∀i,0≤q i∧q i≤4:=fun b cO=>by
   simp only[nn]
   cases !dj K on a b||qt p a ((b:Int)+1) with
   |true=>exact⟨by simp,fun q hq=>by simp at hq⟩
   |false=>
    simp only[cond_false]
    refine H4 K on hb n (a+1) _ fun i=>?_
    simp only[ig]
    split
    ·omega
    exact hp i
  rw[qy]
  refine⟨?_,fun q hq=>?_⟩
  ·rw[List.length_append,List.length_flatMap]
   have:((List.range K.after.length).map fun b=>(nn K on n a p b).length).sum≤K.after.length*5^n:=by
    have key:∀l:List Nat,(∀b∈l,b <K.after.length)→(l.map fun b=>(nn K on n a p b).length).sum≤l.length*5^n:=by
     intro l
     induction l with
     |nil=>intro _;simp
     |cons b l ih=>
      intro hl
      have:=ih fun x hx=>hl x (List.mem_cons_of_mem _ hx)
      have:=(hg b (hl b List.mem_cons_self)).1
      simp only[List.map_cons,List.sum_cons,List.length_cons,Nat.succ_mul]
      omega
    have:=key (List.range K.after.length) fun b hb=>List.mem_range.1 hb
    simpa using this
   have h5:K.after.length*5^n≤4*5^n:=Nat.mul_le_mul_right _ hb
   rw[Nat.pow_succ]
   omega
  rcases List.mem_append.1 hq with hq|hq
  ·exact h2 q hq
  obtain⟨b,mo,hq⟩:=List.mem_flatMap.1 hq
  exact(hg b (List.mem_range.1 mo)).2 q hq
theorem iP(hV:eE K)(on:Int):(aN K on).length≤625∧∀q∈aN K on,∀i,0≤q i∧q i≤4:=by
 obtain⟨h1,h2⟩:=H4 K on hV.after.1 K.before.length 0 (fun _=>0) fun _=>by omega
 refine⟨Nat.le_trans h1 ?_,h2⟩
 have:=Nat.pow_le_pow_right (n:=5) (by omega) hV.before.1
 omega
abbrev pV(b:Nat):Value:= zP b
noncomputable def Eu(f i:Nat):Array Oper:=cR (codeOf zT f) i
noncomputable def aUE(f i:Nat):Code:=((codeOf zT f)[i]?).getD .skip
def mB(K:aB)(on:Int)(keep:ah→Bool)(r:bE)(past:Nat):List ah:=((aN K on).map (bx K r past)).filter keep
noncomputable def ZC(f:Nat):Code:=(((Tryz.prog.funcs[f]?).getD default).body).getD .skip
theorem gE{l:List α}{x:α}(h:l[k]?=some x):l.take (k+1)=l.take k++[x]:=by rw[List.take_succ,h];rfl
theorem ayK:gA [ZC 104]=[.region 0 (Eu 104 0) false,.region 1 (Eu 104 1) false,.region 2 (Eu 104 2) false,aUE 104 3,.region 7 (Eu 104 4) false]:=by kernel_rfl
theorem aEK{rows:List bE}{on:Int}{past:Nat}{Jx:bE}{keep:ah→Bool}{Wg Ch:Nat}{gH:Os}{cz:Array (Nat×ByteArray)}{b3 b4 b5 b7 b9:Nat}(hV:eE K)(hF:oX ro f K rows)(CC:rows[past]?=some Jx) (HI:BR zT g=true)
 (gZ:∀aG,Sub ro aG→∀p∈aN K on,dv zT g (fi++[.agg ⟨cE (bx K Jx past p)⟩]++ca) aG (.bool (keep (bx K Jx past p))))
 (g3:ro b3=some (.cells ⟨[pV f]⟩ 100 (0,0))) (g4:ro b4=some (.cells ⟨[.int .u8 on]⟩ 105 (0,0))) (g9:ro b9=some (.cells ⟨[zI (past:Int)]⟩ 3 (0,0))) (g5:ro b5=some (.cells ⟨[.func (.func g) ⟨fi⟩ ⟨ca⟩]⟩ 163 (0,0))) (g7:ro b7=some (.cells ⟨[.chan (some Ch)]⟩ 202 (0,0))):
 eL zT false ((nt Wg Ch gH cz).Kk (mB K on keep Jx past)) (born zT {target:= .fn (.func 104) ⟨[pV Wg,pV b3,pV b4,pV b9,pV b5,pV b7]⟩,args:= #[]}) ⟨ro,[]⟩:=by
 have hT:Closed zT false (eL zT false ((nt Wg Ch gH cz).Kk (mB K on keep Jx past))):=dR _ _ _
 refine aB7 (fn:=(Tryz.prog.funcs[104]?).getD default) (c:=ZC 104) (n:=26) (by kernel_rfl) (by kernel_rfl) (by kernel_rfl) (by kernel_rfl) (by rfl)<|p6 hT ayK fun l1 CM=>?_
 refine atz hT (a:=eG (Eu 104 0) 0) (f:=105) (xs:= #[.tmp 0]) (vs:=[pV Wg]) (ats:=akQ (eG (Eu 104 0) 0)) (by kernel_rfl) (by kernel_rfl) (by kernel_rfl) (by decide) rfl<|p6 hT CM fun l2 qO=>?_
 refine vG au hT<|jn fun b6=>zD 1<|xU<|p6 hT qO fun l3 Pd=>?_
 refine vG au hT<|jl (b:=b3) (off:=0) (m:=1) (vs:=[pV f]) 0 ⟨_,_,_,.inl g3,rfl⟩<|jl (b:=b4) (off:=0) (m:=1) (vs:=[.int .u8 on]) 0 ⟨_,_,_,.inl g4,rfl⟩<|jc [] (LJ (on:=on) hF hV) ?_
 rintro _ _ ⟨q1,q2,q3,q4,rfl,rfl⟩
 refine jf [0] [(q1,.cells ⟨[pV f]⟩ 100 (0,0)),(q2,.cells ⟨[.func (.func 116) ⟨[]⟩ ⟨[pV q1,pV q4]⟩]⟩ 218 (0,0)),(q3,.cells ⟨Bo ⟨dj K on⟩⟩ 153 (0,0)),(q4,.cells ⟨[.int .u8 on]⟩ 105 (0,0))] fun aI bZ hk1=>zD 1<|aB5<|aqD hT Pd fun l4 N0=>?_
 refine aB6 au hT ?_
 have BP:=hF.up bZ
 refine zD 1<|nY ?_
 refine jrf [] (Yr (on:=on) BP hV (hk1 _ (.head _)) (hk1 _ (.tail _ (.head _))) (hk1 _ (.tail _ (.tail _ (.head _)))) (hk1 _ (.tail _ (.tail _ (.tail _ (.head _)))))) (by rintro _ _ _ _ ⟨_,_,rfl,_⟩;rfl)
  (fun(zz:Value×Cells)=>[.b b6 (.cells ⟨[zz.1]⟩ 103 (0,0)),.l zz.2]) (fun kk=>(fun(zz:Value×Cells)=>ax zz.1 8 128 cE ((((aN K on).take kk).map (bx K Jx past)).filter keep) zz.2)) (fun jump=>(fun(zz:Value×Cells)=>False)) (⟨zS,[]⟩) (ax.nil _ _ _) [1,0] ?_ ?_ ?_
 ·rintro bl bd kk vs LL ⟨v,Lb⟩ k8 iQ ⟨p,hp,rfl,rfl⟩ hI mw
  dsimp only at hI
  have aFK:=zL hp
  have hp4:=(iP hV on).2 p aFK
  have Vi:=Sub.trans bZ mw
  have hlen:((((aN K on).take kk).map (bx K Jx past)).filter keep).length≤625:=by
   refine Nat.le_trans (List.length_filter_le _ _) ?_
   rw[List.length_map,List.length_take]
   have:=(iP hV on).1
   omega
  refine zD 1<|jn fun wW=>jd 2 [0]<|jbI 1<|zD 3<|jl (b:=b3) (off:=0) (m:=1) (vs:=[pV f]) 0 ⟨_,_,_,.inl (Vi _ _ g3),rfl⟩<|jl (b:=b9) (off:=0) (m:=1) (vs:=[zI (past:Int)]) 0 ⟨_,_,_,.inl (Vi _ _ g9),rfl⟩<|jd 1 [0]<|jp (vs:=[pV f,zI (past:Int),.agg ⟨eP4 p⟩]) [] [] (fun z0 hs hZ=>arf (hF.up (Sub.trans Vi hs)) hV CC hp4)<|jn fun Ak=>jd 4 [0]<|jl (b:=b5) (off:=0) (m:=1) (vs:=[.func (.func g) ⟨fi⟩ ⟨ca⟩]) 0 ⟨_,_,_,.inl (Vi _ _ g5),rfl⟩<|jd 1 [0]<|jpF (f:=g) (V:= .bool (keep (bx K Jx past p))) (vs:=fi++[Value.agg ⟨cE (bx K Jx past p)⟩]++ca) [] [] HI (fun z0 hs hZ=>gZ _ (Sub.trans Vi hs) p aFK)<|zD 1<|js 19 (keep (bx K Jx past p)) (fun h5=>?_) (fun h5=>?_)
  ·refine jd 4 [3,0]<|jn fun OL=>iC (sz:=8) (ps:=(((aN K on).take kk).map (bx K Jx past)).filter keep) (qs:=[bx K Jx past p]) (enc:=cE) (w:= .slice (some ⟨OL,0,none⟩) 1 1) [5] [0] [(OL,.cells ⟨([bx K Jx past p].map cE).flatten⟩ 128 (0,0))] hI (fun s _ hZ=>bK [bx K Jx past p] (hZ _ (.head _)) (by intro p hp;rfl)) (fun p _=>aj rfl) (by simp only[List.length_cons,List.length_nil];omega) (fun v23 L23 za=>?_)
   obtain⟨va,vc,he⟩:=za.form
   subst he
   refine jd 2 [5]<|jyn qy0 (Sub.refl _) ⟨.slice va _ vc,L23⟩ (by dsimp only;rw[gE hp,List.map_append,List.filter_append,List.map_cons,List.map_nil,List.filter_cons_of_pos h5,List.filter_nil];exact za) [4,5,0]
  refine zD 2<|jyn qy0 (Sub.refl _) ⟨v,Lb⟩ (by dsimp only;rw[gE hp,List.map_append,List.filter_append,List.map_cons,List.map_nil,List.filter_cons_of_neg (by rw[h5];simp),List.filter_nil,List.append_nil];exact hI) [2,3,4]
 ·rintro bd ⟨v,Lb⟩ Z hI rfl
  dsimp only at hI
  rw[List.take_length] at hI
  refine aB4<|p6 hT N0 fun l5 Pc=>?_
  have:=gh Pc
  subst this
  show TT _ _ (.inRegion (Eu 104 4) (0::[1,2])::[]) _ _ _ _ _
  refine tLd hT (.chan (some Ch)) (a:=eG (Eu 104 4) 0) (x:= .tmp 5) (U:=202) (q:=b7) (by kernel_rfl) (by kernel_rfl) (by kernel_rfl) (by kernel_rfl) (by decide) rfl (fun _ _ _ _=> .inl (bZ _ _ g7))<|aMT hT v (a:=eG (Eu 104 4) 1) (x:= .tmp 6) (U:=103) (q:=b6) (by kernel_rfl) (by kernel_rfl) (by kernel_rfl) (by kernel_rfl) (by decide) rfl [2] 103<|aBZ (E:=nt Wg Ch gH cz) (a:=eG (Eu 104 4) 2) (sc:= .tmp 24) (sv:= .tmp 25) (v:=v) (Y:=Lb) [3] (by kernel_rfl) (by kernel_rfl) (fun ρ=>by kernel_rfl) (by decide) rfl hI<|Xn (dR _ _ _)<|atv (E:=nt Wg Ch gH cz) (fn:=(Tryz.prog.funcs[104]?).getD default) (dn:=105) (bd:=bd) (by kernel_rfl) (by kernel_rfl) (by kernel_rfl) (an8 Wg).choose_spec xm [0] rfl rfl
 rintro bd ⟨v,Lb⟩ Z jump hS hZ
 exact hS.elim
theorem f26:gA [ZC 76]=[.region 0 kE.o0 false,.region 1 kE.o1 false,.region 2 kE.o2 false,.region 3 kE.o3 false,.block 0 (.loop kE.lb),.region 9 kE.o9 false,.region 10 kE.o10 false,.region 11 kE.o11 false,.block 2 (.loop kE.rb),.region 15 (Eu 76 9) false,.region 16 (Eu 76 10) false,.ret]:=by kernel_rfl
theorem aIm:gA [kE.lb]=[.region 4 kE.o4 false,.cond (.tmp 19) .skip (.exit 0),.block 1 kE.DI,.region 8 kE.o8 false]:=by kernel_rfl
theorem aUo:gA [kE.DI]=[.region 5 kE.o5 false,.region 6 kE.o6 false,.region 7 kE.o7 false]:=by kernel_rfl
theorem aIl:gA [kE.rb]=[.region 12 kE.Cj false,.cond (.tmp 27) .skip (.exit 2),.block 3 kE.uK]:=by kernel_rfl
theorem aUn:gA [kE.uK]=[.region 13 kE.o13 false,.region 14 kE.o14 false]:=by kernel_rfl
def iz(K:aB)(on:Int)(keep:ah→Bool)(rows:List bE)(n:Nat):List (List ah):=(List.range n).map fun i=>mB K on keep ((rows[i]?).getD ⟨fun _ _=>false⟩) i
theorem Py{on:Int}{keep:ah→Bool}{rows:List bE}{n:Nat}{r:bE}(h:rows[n]?=some r):iz K on keep rows (n+1)=iz K on keep rows n++[mB K on keep r n]:=by
 simp only[iz,List.range_succ,List.map_append,List.map_cons,List.map_nil,h,Option.getD_some]
theorem yD(K:aB)(on:Int)(keep:ah→Bool)(rows:List bE)(n:Nat):(iz K on keep rows n).length=n:=by simp[iz]
def cA(K:aB)(on:Int)(keep:ah→Bool)(rows:List bE):List ah:=(iz K on keep rows rows.length).flatten
theorem mQ(hV:eE K)(on:Int)(keep:ah→Bool){rows:List bE}(hR:rows.length≤2):(cA K on keep rows).length≤1250:=by
 have h1:∀r i,(mB K on keep r i).length≤625:=fun r i=>Nat.le_trans (List.length_filter_le _ _) (by rw[List.length_map];exact(iP hV on).1)
 have key:∀n,(iz K on keep rows n).flatten.length≤n*625:=by
  intro n
  induction n with
  |zero=>simp[iz]
  |succ n ih=>
   have:=h1 ((rows[n]?).getD ⟨fun _ _=>false⟩) n
   simp only[iz,List.range_succ,List.map_append,List.map_cons,List.map_nil,List.flatten_append,List.length_append,List.flatten_cons,List.flatten_nil,List.append_nil] at ih ⊢
   omega
 have:=key rows.length
 have h2:rows.length*625≤2*625:=Nat.mul_le_mul_right _ hR
 exact Nat.le_trans this h2
theorem acA{on:Int}{keep:ah→Bool}{rows:List bE}(hR:rows.length≤2):gp (cA K on keep rows):=by
 intro x hx
 obtain⟨l,hl,hx⟩:=List.mem_flatten.1 hx
 obtain⟨i,hi,rfl⟩:=List.mem_map.1 hl
 have hi:=List.mem_range.1 hi
 obtain⟨p,_,rfl⟩:=List.mem_map.1 (List.mem_filter.1 hx).1
 simp only[bx]
 omega
theorem ajK(a:List (List α))(o:List α)(b:List (List α))(zs:List α):((zs++o)++(a++b).flatten).Perm (zs++(a++o::b).flatten):=by
 simp only[List.flatten_append,List.flatten_cons,List.append_assoc]
 refine .append_left _ ?_
 rw[←List.append_assoc,←List.append_assoc]
 exact .append_right _ List.perm_append_comm
theorem aER{rows:List bE}{on:Int}{keep:ah→Bool}{fr:Cells}(hV:eE K)(hF:oX ro f K rows)(hR:rows.length≤2)(HI:BR zT g=true)
 (gZ:∀i r,rows[i]?=some r→∀aG,Sub ro aG→∀p∈aN K on,dv zT g (fi++[.agg ⟨cE (bx K r i p)⟩]++ca) aG (.bool (keep (bx K r i p)))):
 Fn (C0 zT) zT 76 ⟨[pV f,.int .u8 on,.func (.func g) ⟨fi⟩ ⟨ca⟩]⟩ ⟨ro,fr⟩ (fun en s'=>∃v Y zs,en= .returned v∧s'=⟨ro,Y++fr⟩∧zs.Perm (cA K on keep rows)∧ax v 8 128 cE zs Y):=by
 rintro main T ⟨rfl,gH,cz,Post,rfl⟩ cl Ov kr _
 have hT:=sL zT gH cz Post
 obtain⟨c0,c1,c2,vc,vh,vr,vb,va,vf,vt,hv,hf,pR,nj,hr,CN,HR,J2,bV⟩:=id hF
 obtain⟨nC,Em,Ek,mW,rfl,Qk,Nd,Nc⟩:=bV
 refine atu (fn:=(Tryz.prog.funcs[76]?).getD default) (c:=ZC 76) (n:=35) (by kernel_rfl) (by kernel_rfl) (by kernel_rfl) (by rfl)<|p6 hT f26 fun l1 CM=>?_
 refine vG au hT<|jn fun b3=>jn fun b4=>jn fun b5=>zD 2<|xU<|p6 hT CM fun l2 qO=>?_
 show TT _ _ (.inRegion kE.o1 (0::[1,2])::_) _ _ _ _ _
 refine aB0 hT (a:=kE.a1) (f:=fun q=> .chan (some q)) (ob:= .chan 0 #[] false 0 0 false) (by kernel_rfl) (by kernel_rfl) (fun e q=>by kernel_rfl) (by decide) rfl fun Ch=>?_
 refine vG au hT<|jn fun b7=>jd 2 [0]<|xU<|p6 hT qO fun l3 Pd=>?_
 show TT _ _ (.inRegion kE.o2 (0::[])::_) _ _ _ _ _
 refine aB0 hT (a:=kE.a2) (f:=fun q=> zP q) (ob:=wgBlock 210 0 0) (by kernel_rfl) (by kernel_rfl) (fun e q=>by kernel_rfl) (by decide) rfl fun Wg=>?_
 refine Xn hT<|aty (E:=nt Wg Ch gH cz) (Q:=Good zT Post) (tm:=false) 0 2 ((b7,.cells ⟨[.chan (some Ch)]⟩ 202 (0,0))::(b5,.cells ⟨[.func (.func g) ⟨fi⟩ ⟨ca⟩]⟩ 163 (0,0))::(b4,.cells ⟨[.int .u8 on]⟩ 105 (0,0))::(b3,.cells ⟨[pV f]⟩ 100 (0,0))::fr) hT (fun L aI hl dL VK=>?_)
 have h7:=hl.kn _ (.head _)
 have h5:=hl.kn _ (.tail _ (.head _))
 have h4:=hl.kn _ (.tail _ (.tail _ (.head _)))
 have h3:=hl.kn _ (.tail _ (.tail _ (.tail _ (.head _))))
 dsimp only at h7 h5 h4 h3
 have hM:∀pend os,Closed zT true (TM (nt Wg Ch gH cz) L (Good zT Post) pend false os 0):=fun pend os=>fe (E:=nt Wg Ch gH cz) false os (fun e=>(by cases e))
 have hC:∀os,Closed zT true (TM (nt Wg Ch gH cz) L (Good zT Post) 0 true os 0):=fun os=>fe (E:=nt Wg Ch gH cz) true os (fun _=>rfl)
 refine p6 (hM 0 []) Pd fun l4 N0=>?_
 refine vG au (hM 0 [])<|jl (b:=b3) (off:=0) (m:=1) (vs:=[pV f]) 0 ⟨_,_,_,.inl h3,rfl⟩<|zD 2<|jl (b:=f) (off:=0) (m:=13) (vs:=[c0,c1,c2,vc,vh,vr,vb,va,zI K.gone,zI K.new,zI K.af,vf,.slice nC rows.length mW]) 12 ⟨_,_,_,.inl (hl.sub _ _ hf),rfl⟩<|zD 3<|xU<|MU (hM 0 []) N0 fun l5 Pc=>?_
 refine aqC (hM 0 []) (rest:=[]) rfl fun l6 Jh=>?_
 have:=gh Jh
 subst this
 have loop:∀m i k8,m+i=rows.length→Sub aI k8→(∀k8 rest,Sub aI k8→TT (TM (nt Wg Ch gH cz) L (Good zT Post) 0 false (iz K on keep rows rows.length) 0) (fr0 76 .normal) (l5.map .code++[]) (cl::Ov) 35 [] k8 (some ⟨.fin .normal,[(7,pV b7),(8,pV Wg)]++rest,[],⟨[],[]⟩⟩))→
  ∀rest,TT (TM (nt Wg Ch gH cz) L (Good zT Post) 0 false (iz K on keep rows i) 0) (fr0 76 .normal) ([kE.lb].map .code++(.inLoop kE.lb::(.inBlock 0::(l5.map .code++[])))) (cl::Ov) 35 [] k8 (some ⟨.fin .normal,[(3,pV b3),(4,pV b4),(5,pV b5),(7,pV b7),(8,pV Wg),(17,zI (rows.length:Int)),(18,zI (i:Int))]++rest,[],⟨[],[]⟩⟩):=by
  intro m
  induction m with
  |zero=>
   intro i k8 hi hs qo rest
   refine p6 (hM 0 _) aIm fun m1 hm1=>?_
   refine vG au (hM 0 _)<|zD 2<|xU<|Xo (hM 0 _) (t:=false) (q:=decide ((i:Int) <(rows.length:Int))) hm1 (by simp;omega) fun m2 Ft=>?_
   refine aqE (hM 0 _) (k':=l5.map .code++[]) (by rw[qE];simp[exitTo]) ?_
   have:i=rows.length:=by omega
   subst this
   exact tSt (hM 0 _) [(7,pV b7),(8,pV Wg)] [] [] fun rest=>qo k8 rest hs
  |succ m ih=>
   intro i k8 hi hs qo rest
   obtain⟨r,CC⟩:∃r,rows[i]?=some r:=⟨_,List.getElem?_eq_getElem (by omega)⟩
   refine p6 (hM 0 _) aIm fun m1 hm1=>?_
   refine vG au (hM 0 _)<|zD 2<|xU<|Xo (hM 0 _) (t:=true) (q:=decide ((i:Int) <(rows.length:Int))) hm1 (by simp;omega) fun m2 Ft=>?_
   refine aqA (hM 0 _)<|MU (hM 0 _) Ft fun m3 hm3=>?_
   refine p6 (hM 0 _) aUo fun m4 hm4=>?_
   refine vG au (hM 0 _)<|zD 1<|jn fun b9=>jd 2 [0]<|xU<|p6 (hM 0 _) hm4 fun m5 hm5=>?_
   show TT _ _ (.inRegion kE.o6 [0]::_) _ _ _ _ _
   refine aMW (E:=nt Wg Ch gH cz) (a:=kE.a6) (f:=103) (x:= .tmp 8) (ats:=akQ kE.a6) ?_ (by kernel_rfl) (by kernel_rfl) (by kernel_rfl) (kU (by kernel_rfl)) (by decide) rfl (by show _ <2;rw[yD];omega) (by show IA zT 210 _ _=_;rw[yD];exact(avz i (by omega) Wg).choose_spec) xm
   refine p6 (hM 1 _) hm5 fun m6 hm6=>?_
   have:=gh hm6
   subst this
   show TT _ _ (.inRegion kE.o7 (0::[1])::_) _ _ _ _ _
   refine aBX (hM 1 _) (a:=eG kE.o7 0) (.func (.func 104) ⟨[]⟩ ⟨[pV Wg,pV b3,pV b4,pV b9,pV b5,pV b7]⟩) (by kernel_rfl) (by kernel_rfl) (by decide) rfl<|tGo (E:=nt Wg Ch gH cz) (mB K on keep r i) (a:=kE.a7) (f:=104) (y:= .tmp 22) (ca:=[pV Wg,pV b3,pV b4,pV b9,pV b5,pV b7]) (ats:=akQ kE.a7) [(b9,.cells ⟨[zI (i:Int)]⟩ 3 (0,0))] (by kernel_rfl) (by kernel_rfl) (by kernel_rfl) (by decide) rfl (fun z0 Jd Pe=>⟨?_,?_⟩)
   ·have yo:=Sub.trans hs Jd
    have h03:=Sub.trans hl.sub yo
    exact aEK hV (hF.up h03) CC HI (fun aG mU=>gZ i r CC aG (Sub.trans h03 mU)) (yo _ _ h3) (yo _ _ h4) (Pe _ (.head _)) (yo _ _ h5) (yo _ _ h7)
   rw[←Py CC]
   refine Xn (hM 0 _) (aqF (hM 0 _) ?_)
   refine p6 (hM 0 _) hm3 fun m7 hm7=>?_
   have:=gh hm7
   subst this
   refine vG au (hM 0 _)<|ja ((i:Int)+1) (by omega)<|zD 2<|xU<|ad2 (hM 0 _)<|tSt (hM 0 _) [(3,pV b3),(4,pV b4),(5,pV b5),(7,pV b7),(8,pV Wg),(17,zI (rows.length:Int)),(18,zI ((i+1:Nat):Int))] [] [] fun rest=>ih (i+1) z0 (by omega) (Sub.trans hs Jd) qo rest
 refine tSt (hM 0 _) [(3,pV b3),(4,pV b4),(5,pV b5),(7,pV b7),(8,pV Wg),(17,zI (rows.length:Int)),(18,zI (((0:Nat)):Int))] [] [] fun rest=>loop rows.length 0 aI (by omega) (Sub.refl _) (fun k8 rest mw=>?_) rest
 refine p6 (hM 0 _) Pc fun l7 EK=>?_
 show TT _ _ (.inRegion kE.o9 (0::[1])::_) _ _ _ _ _
 refine aBX (hM 0 _) (a:=eG kE.o9 0) (.func (.func 106) ⟨[]⟩ ⟨[pV Wg,pV b7]⟩) (by kernel_rfl) (by kernel_rfl) (by decide) rfl<|atC (E:=nt Wg Ch gH cz) (a:=kE.a9) (f:=106) (y:= .tmp 24) (ca:=[pV Wg,pV b7]) (ats:=akQ kE.a9) [] (by kernel_rfl) (by kernel_rfl) (by kernel_rfl) (by decide) rfl (fun z0 Jd _=>?_)
 have yo:=Sub.trans mw Jd
 refine⟨amG (E:=nt Wg Ch gH cz) (x:=kE.cl) aES (an7 Wg).choose_spec xm (q:=b7) (t:=202) (fz:=(0,0)) (a:=eG kE.cl.q1 0) (y:= .tmp 1) (U:=202) (yo _ _ h7) (by kernel_rfl) (by kernel_rfl) (by kernel_rfl) (by kernel_rfl) (by kernel_rfl) (by kernel_rfl),?_⟩
 refine Xn (hC _)<|p6 (hC _) EK fun l8 YO=>?_
 refine vG au (hC _)<|zD 2<|xU<|p6 (hC _) YO fun l9 hl9=>?_
 refine vG au (hC _)<|jl (b:=b7) (off:=0) (m:=1) (vs:=[.chan (some Ch)]) 0 ⟨_,_,_,.inl (yo _ _ h7),rfl⟩<|zD 1<|xU<|MU (hC _) hl9 fun l10 aw5=>?_
 refine aqC (hC _) (rest:=[]) rfl fun l11 aw4=>?_
 have:=gh aw4
 subst this
 have hlen:=mQ hV on keep hR
 have recv:∀m (os:List (List ah)) (v:Value) (L1:Cells) (zs:List ah),os.length=m→ax v 8 128 cE zs L1→(zs++os.flatten).Perm (cA K on keep rows)→∀rest,
  TT (TM (nt Wg Ch gH cz) L (Good zT Post) 0 true os 0) (fr0 76 .normal) ([kE.rb].map .code++(.inLoop kE.rb::(.inBlock 2::(l10.map .code++[])))) (cl::Ov) 35 [] z0 (some ⟨.fin .normal,[(10,v),(25,.chan (some Ch))]++rest,[.l L1],⟨[],[]⟩⟩):=by
  intro m
  induction m with
  |zero=>
   intro os v L1 zs tG ho hp rest
   have tG:=List.eq_nil_of_length_eq_zero tG
   subst tG
   refine p6 (hC _) aIl fun m1 hm1=>?_
   show TT _ _ (.inRegion kE.Cj (0::[1])::_) _ _ _ _ _
   refine aqB (E:=nt Wg Ch gH cz) (a:=kE.S7) (rc:= .tmp 25) (z:= zS) hl yo VK (by kernel_rfl) (by kernel_rfl) (fun ρ=>by kernel_rfl) (by decide) rfl (fun a' oo b' v' Y he _=>by simp at he) fun _=>?_
   refine vG au hT<|zD 2<|xU<|Xo hT (t:=false) (q:=false) hm1 rfl fun m2 Ft=>?_
   refine aqE hT (k':=l10.map .code++[]) (by rw[qE];simp[exitTo]) ?_
   refine p6 hT aw5 fun m3 hm3=>?_
   refine vG au hT<|zD 1 ?_
   have hp':zs.Perm (cA K on keep rows):=by simpa using hp
   refine jc (vs:=[v,.func (.func 109) ⟨[]⟩ ⟨[]⟩]) [1] (Qe ho (by rw[hp'.length_eq];omega) ((acA hR).perm hp')) ?_
   rintro _ Y ⟨ys,hys,hoY⟩
   refine zD 1<|xU<|p6 hT hm3 fun m4 hm4=>?_
   refine vG au hT<|zD 3<|xU<|aqD hT hm4 fun m5 hm5=>?_
   refine aMS au hT (fn:=(Tryz.prog.funcs[76]?).getD default) v [] [0,1] (Y++((b7,.cells ⟨[.chan (some Ch)]⟩ 202 (0,0))::(b5,.cells ⟨[.func (.func g) ⟨fi⟩ ⟨ca⟩]⟩ 163 (0,0))::(b4,.cells ⟨[.int .u8 on]⟩ 105 (0,0))::(b3,.cells ⟨[pV f]⟩ 100 (0,0))::fr)) (by kernel_rfl)<|hT.mono _ ⟨ro,Y++fr⟩ _ (dJ (J:=[(b7,.cells ⟨[.chan (some Ch)]⟩ 202 (0,0)),(b5,.cells ⟨[.func (.func g) ⟨fi⟩ ⟨ca⟩]⟩ 163 (0,0)),(b4,.cells ⟨[.int .u8 on]⟩ 105 (0,0)),(b3,.cells ⟨[pV f]⟩ 100 (0,0))]) ?_ (Sub.refl _)) (kr v _ ⟨v,Y,ys,rfl,rfl,hys.trans hp',hoY⟩)
   rw[List.append_assoc]
   exact .append_left _ (List.perm_append_comm (l₁:=[_,_,_,_]))
  |succ m ih=>
   intro os v L1 zs tG ho hp rest
   refine p6 (hC _) aIl fun m1 hm1=>?_
   show TT _ _ (.inRegion kE.Cj (0::[1])::_) _ _ _ _ _
   refine aqB (E:=nt Wg Ch gH cz) (a:=kE.S7) (rc:= .tmp 25) (z:= zS) hl yo VK (by kernel_rfl) (by kernel_rfl) (fun ρ=>by kernel_rfl) (by decide) rfl (fun a' oo b' v' Y he oA=>?_) fun he=>by simp[he] at tG
   subst he
   have oA:ax v' 8 128 cE oo Y:=oA
   refine vG au (hC _)<|zD 2<|xU<|Xo (hC _) (t:=true) (q:=true) hm1 rfl fun m2 Ft=>?_
   refine aqA (hC _)<|MU (hC _) Ft fun m3 hm3=>?_
   have:=gh hm3
   subst this
   refine p6 (hC _) aUn fun m4 hm4=>?_
   refine vG au (hC _)<|zD 3<|xU<|p6 (hC _) hm4 fun m5 hm5=>?_
   have:=gh hm5
   subst this
   refine vG au (hC _)<|zD 2 ?_
   have Tm:((zs++oo)++(a'++b').flatten).Perm (cA K on keep rows):=(ajK a' oo b' zs).trans hp
   have hlz:zs.length+oo.length≤1250:=by
    have:=Tm.length_eq
    simp only[List.length_append] at this
    omega
   refine iC (sz:=8) (ps:=zs) (qs:=oo) (enc:=cE) (w:=v') [1] [0] Y ho (fun s _ hZ=>oA.sl hZ) (fun p _=>aj rfl) (by omega) fun v23 L23 za=>zD 2<|xU<|aqF (hC _) (ad2 (hC _) ?_)
   exact tSt (hC _) [(10,v23),(25,.chan (some Ch))] [.l L23] [0] fun rest=>ih (a'++b') v23 L23 (zs++oo) (by simp at tG ⊢;omega) za Tm rest
 refine tGe<|tSt (hC _) [(10,zS),(25,.chan (some Ch))] [.l []] [0] fun rest=>recv rows.length (iz K on keep rows rows.length) (zS) [] [] (yD _ _ _ _ _) (ax.nil _ _ _) (by simp[cA]) rest
theorem agQ{rows:List bE}{on:Int}{keep:ah→Bool}(hV:eE K)(hF:oX ro f K rows)(hR:rows.length≤2)(HI:BR zT g=true)
 (gZ:∀i r,rows[i]?=some r→∀aG,Sub ro aG→∀p∈aN K on,dv zT g (fi++[.agg ⟨cE (bx K r i p)⟩]++ca) aG (.bool (keep (bx K r i p)))):
 Dh zT 76 [pV f,.int .u8 on,.func (.func g) ⟨fi⟩ ⟨ca⟩] ro [] (fun v Y=>∃zs,zs.Perm (cA K on keep rows)∧ax v 8 128 cE zs Y):=
 fun fr=>Fn.mono (aER (fr:=fr) hV hF hR HI gZ) fun en s' ⟨v,Y,zs,h1,h2,h3,h4⟩=>⟨v,Y,h1,by rw[h2];exact St.le_refl _,zs,h3,h4⟩
theorem Yp{rows:List bE}{on:Int}(hV:eE K)(hF:oX ro f K rows)(hR:rows.length≤2):
 Dh zT 41 [pV f,.int .u8 on] ro [] (fun v Y=>∃zs,zs.Perm (cA K on (bM K.gone K.new K.af) rows)∧ax v 8 128 cE zs Y):=by
 refine AZ au [] [] ba fun fr=>zD 10<|NJ (vs:=[pV f,.int .u8 on,.func (.func 77) ⟨[pV f]⟩ ⟨[]⟩]) [] (fun _ _ h=>h) (agQ (keep:=bM K.gone K.new K.af) hV hF hR (by kernel_rfl) fun i r hr aG hs p hp=>?_) ?_
 ·obtain⟨c0,c1,c2,vc,vh,vr,vb,va,vf,vt,hv,hf,_⟩:=hF.up hs
  exact agN hf
 rintro v Y ⟨zs,hz,ho⟩
 refine zD 3<|O8 qC v [0,1] Y (Sub.refl _) ⟨zs,hz,ho⟩
theorem ay7{x:Int}(h:0≤x∧x≤4):iH x 0 4=true:=by simp only[iH,Bool.and_eq_true,decide_eq_true_eq];omega
theorem afQ:rE (bs [97]):=⟨by decide,.inl (by decide)⟩
def ak2(ro:Nat→Option Obj)(v:Value)(W:List (List Int)):Prop:=∃ws,bD ro v 1 fH ws∧de (fun w l=>bD ro w 1 cm l) ws W
def qK(ro:Nat→Option Obj)(l:List Value)(W:List (List Int)):Prop:=∀aI,Sub ro aI→dO zT 95 [.agg ⟨l.take 3⟩] aI [] (fun r Y=>∃a n c,r= .tuple ⟨[.slice a n c,zI 0]⟩∧n=W.length∧∀k8,Knows k8 Y→ak2 k8 (.slice a n c) W)
theorem avD(hK:fI ro l K)(hO:jv K)(hV:eE K)(hW:1≤W.length∧W.length≤4)(h76:qK ro l W):dO zT 71 [.agg ⟨l⟩] ro [] (fun r Y=>∃a n c,r= .slice a n c∧n=W.length∧∀k8,Knows k8 Y→ak2 k8 r W):=by
 have Za:=hK
 obtain⟨vS,vT,vc,vh,vr,vb,va,vf,fa,fc,hv,rfl,hS,hT,pR,nj,hr,hb,ha,hf⟩:=hK
 obtain⟨ib,hs,fq⟩:=id hS
 obtain⟨iM,ht,eY⟩:=id hT
 obtain⟨hc,hh,DU⟩:=id pR
 have vq:=hr
 have u9:=hb
 have ha0:=ha
 have hf0:=hf
 obtain⟨mh,Ux,Uv,ld,rfl,Uw,Ng,Nf⟩:=hs
 obtain⟨eS,AI,AG,dW,rfl,AH,sA,sw⟩:=ht
 obtain⟨ep,AK,AJ,dZ,rfl,Dx,yR,yQ⟩:=hc
 obtain⟨dH,u5,u4,du,rfl,xp,qR,qQ⟩:=hh
 obtain⟨kR,I8,I7,kQ,rfl,O3,Gw,Gv⟩:=hr
 obtain⟨lh,O6,O4,kY,rfl,O5,Nk,Nj⟩:=hb
 obtain⟨kS,KU,KS,kA,rfl,KT,JF,JE⟩:=ha
 obtain⟨jA,BJ,BI,gY,rfl,I9,uM,uL⟩:=hf
 have CM:=hO.rules
 have qO:=hO.before.1
 have Pd:=hO.after.1
 have N0:=hO.facts.1
 have Pc:=hO.ways.1
 have Jh:=fq.len
 have EK:=eY.len
 have YO:=hO.oO.two
 have hl9:=hO.da.nh
 have O2:∀(i:Nat) (p:db),([]:List db)[i]?=some p→cB ⟨ro,[]⟩ 0 (0+i*6) 6 (mN p):=fun _ _ h=>oz h
 have hgl:=hO.ud
 refine zE<|zD 2<|jn fun b1=>jd 6 [0]<|jc (vs:=[.agg ⟨[.slice mh ib.length ld,.slice eS iM.length dW,.slice fa 0 fc]⟩]) [] (h76 _ (Sub.refl _)) ?_
 rintro _ Y10 ⟨a10,n10,c10,rfl,aQ2,ahn⟩
 refine zD 9<|jp (vs:=[zI 0]) [] [] (fun aI hs hZ=>AY)<|zD 10<|zJ 15 ((n10:Int)=0) (fun h1=>?_) fun h1=>?_
 ·
  exfalso;omega
 refine zD 8<|zJ 20 ((n10:Int)>4) (fun h2=>?_) fun h2=>?_
 ·
  exfalso;omega
 refine jd 6 [1]<|jp (vs:=[.agg ⟨[.slice ep K.cs.length dZ,.slice dH hv.length du]⟩]) [] [] (fun aI hs hZ=>atE (pR.up hs) nj hV.da)<|jp (vs:=[zI 0]) [] [] (fun aI hs hZ=>AY)<|jd 5 [1]<|jp (vs:=[.slice kR K.rules.length kQ,.string (bs [97]),.string (bs [97])]) [] [] (fun aI hs hZ=>QP (vq.up hs) hV.rules.2 hV.rules.1 afQ afQ)<|zD 8<|jp (vs:=[zI 0]) [] [] (fun aI hs hZ=>AY)<|jd 6 [1,1]<|jp (vs:=[.agg ⟨[.slice mh ib.length ld,.slice eS iM.length dW,.slice fa 0 fc,.slice ep K.cs.length dZ,.slice dH hv.length du,.slice kR K.rules.length kQ,.slice lh K.before.length kY,.slice kS K.after.length kA,zI K.gone,zI K.new,zI K.af,.slice jA K.facts.length gY]⟩,.slice lh K.before.length kY,.bool true]) [] [] (fun aI hs hZ=>agJ (Za.up hs) hO (u9.up hs))<|jp (vs:=[zI 0]) [] [] (fun aI hs hZ=>AY)<|jd 6 [1,1]<|jp (vs:=[.agg ⟨[.slice mh ib.length ld,.slice eS iM.length dW,.slice fa 0 fc,.slice ep K.cs.length dZ,.slice dH hv.length du,.slice kR K.rules.length kQ,.slice lh K.before.length kY,.slice kS K.after.length kA,zI K.gone,zI K.new,zI K.af,.slice jA K.facts.length gY]⟩,.slice kS K.after.length kA,.bool false]) [] [] (fun aI hs hZ=>agK (Za.up hs) hO (ha0.up hs))<|jp (vs:=[zI 0]) [] [] (fun aI hs hZ=>AY)<|jd 6 [1]<|jp (vs:=[zI K.gone,zI 0,zI 4]) [] [] (fun aI hs hZ=>fo)<|zD 2<|jj 5 [(1,zP b1),(2,zS),(3,.slice a10 n10 c10),(56,.bool ((!(iH K.gone 0 4))||(!(iH K.new 0 4))))] (fun gG=>?_) (fun hj=>?_)
 rotate_left
 refine js 51 (!(iH K.gone 0 4)) (fun h3=>?_) (fun h3=>?_)
 ·
  have wC:=h3
  try simp only[zB] at wC
  refine zD 5<|jw 56 (.bool ((!(iH K.gone 0 4))||(!(iH K.new 0 4)))) (w:= .bool true) (by rw[h3]<;>rfl) ?_
  exact zK hj
 ·
  have wC:=h3
  try simp only[zB] at wC
  refine jd 2 [1]<|jp (vs:=[zI K.new,zI 0,zI 4]) [] [] (fun aI hs hZ=>fo)<|zD 2<|jw 56 (.bool ((!(iH K.gone 0 4))||(!(iH K.new 0 4)))) (w:= .bool (!(iH K.new 0 4))) (by rw[h3]<;>rfl) ?_
  exact zK hj
 refine zD 1<|jj 5 [(1,zP b1),(2,zS),(3,.slice a10 n10 c10),(62,.bool (((!(iH K.gone 0 4))||(!(iH K.new 0 4)))||(!(iH K.af 0 4))))] (fun gG=>?_) (fun hj=>?_)
 rotate_left
 refine js 57 ((!(iH K.gone 0 4))||(!(iH K.new 0 4))) (fun h4=>?_) (fun h4=>?_)
 ·
  have yn:=h4
  try simp only[zB] at yn
  refine zD 5<|jw 62 (.bool (((!(iH K.gone 0 4))||(!(iH K.new 0 4)))||(!(iH K.af 0 4)))) (w:= .bool true) (by rw[h4]<;>rfl) ?_
  exact zK hj
 ·
  have yn:=h4
  try simp only[zB] at yn
  refine jd 2 [1]<|jp (vs:=[zI K.af,zI 0,zI 4]) [] [] (fun aI hs hZ=>fo)<|zD 2<|jw 62 (.bool (((!(iH K.gone 0 4))||(!(iH K.new 0 4)))||(!(iH K.af 0 4)))) (w:= .bool (!(iH K.af 0 4))) (by rw[h4]<;>rfl) ?_
  exact zK hj
 refine zD 1<|js 62 (((!(iH K.gone 0 4))||(!(iH K.new 0 4)))||(!(iH K.af 0 4))) (fun h5=>?_) (fun h5=>?_)
 ·
  try simp only[zB] at h5
  exfalso;simp[ay7 hgl.1,ay7 hgl.2.1,ay7 hgl.2.2] at h5
 try simp only[zB] at h5
 refine jd 10 [1]<|zJ 67 ((K.facts.length:Int)>4) (fun h6=>?_) fun h6=>?_
 ·
  exfalso;omega
 refine jd 11 [1]<|dP [1,1,1,1,1,1,1,1,1,1,1,0,1,0,0] [] (fun(zz:Nat)=>[(1,zP b1),(2,zS),(3,.slice a10 n10 c10),(70,.slice jA K.facts.length gY),(71,zI (K.facts.length:Int)),(72,zI (zz:Int))]) (fun zz=>[.b b1 (.cells ⟨[.slice mh ib.length ld,.slice eS iM.length dW,.slice fa 0 fc,.slice ep K.cs.length dZ,.slice dH hv.length du,.slice kR K.rules.length kQ,.slice lh K.before.length kY,.slice kS K.after.length kA,zI K.gone,zI K.new,zI K.af,.slice jA K.facts.length gY]⟩ 40 (0,0)),.l Y10]) (fun zz=>zz≤K.facts.length) (fun zz=>K.facts.length-zz) 0 (by omega) [1,0] ?_
 rintro k hI K1 bH rest
 refine zD 5<|zJ 73 ((k:Int) <(K.facts.length:Int)) (fun h7=>?_) fun h7=>?_
 ·
  refine zD 7 ?_
  obtain⟨x75,U8⟩:=zG K.facts k
  refine ek gY 3 uM U8<|jl 0 (uL _ _ U8)<|jn fun b6=>jd 8 [0,1,1]<|jcH (hi:=(k:Int)) (show bD _ _ _ _ _ from ⟨jA,BJ,BI,gY,rfl,I9,uM,uL⟩) (by omega) (fun v81 aQc=>?_)
  obtain⟨aqP,aCz,aCv,aqO,rfl,aCx,aCy,aCw⟩:=aQc
  refine jd 1 [0]<|jp (vs:=[.agg ⟨[.slice mh ib.length ld,.slice eS iM.length dW,.slice fa 0 fc,.slice ep K.cs.length dZ,.slice dH hv.length du,.slice kR K.rules.length kQ,.slice lh K.before.length kY,.slice kS K.after.length kA,zI K.gone,zI K.new,zI K.af,.slice jA K.facts.length gY]⟩,.slice aqP ((((K.facts).take (k:Int).toNat)).length) aqO,.agg ⟨[zI x75.a,zI x75.b,.bool x75.same]⟩]) [] [] (fun aI hs hZ=>aEQ (Za.up hs) hO ((show bD _ _ _ _ _ from ⟨aqP,aCz,aCv,aqO,rfl,aCx,aCy,aCw⟩).up hs) (by simp only[List.length_take,List.length_drop];omega) (hO.facts.2 _ (zL U8)) (ajS hO.apart U8)) ?_
  refine jp (vs:=[zI 0]) [] [] (fun aI hs hZ=>AY)<|zD 2<|ja ((k:Int)+1) (by omega)<|zD 2<|bI bH (k+1) (by omega) (by omega) [1,2] (Sub.refl _)
 refine zD 8<|zR (.slice a10 n10 c10) [] [1] Y10 ⟨_,_,_,rfl,aQ2,ahn⟩
def gL(ro:Nat→Option Obj)(l:List Value)(K:aB)(rows:List bE):Prop:=∀aI,Sub ro aI→dO zT 40 [.agg ⟨l⟩] aI [] (fun r Y=>∃f,r= .tuple ⟨[pV f,zI 0]⟩∧∀k8,Sub aI k8→Knows k8 Y→oX k8 f K rows)
def aC(K:aB):Int:=IntKind.u8.wrap (dC .u8 1 (K.facts.length:Int)-1)
theorem DK{rows:List bE}(hV:eE K)(hF:oX ro f K rows):dv zT 42 [pV f] ro (.int .u8 (aC K)):=by
 obtain⟨c0,c1,c2,vc,vh,vr,vb,va,vf,vt,hv,hf,pR,nj,hr,CN,HR,J2,bV⟩:=hF
 exact aO3 J2 hf (by have:=hV.facts.1;omega)
theorem agB{rows:List bE}(hK:fI ro l K)(hV:eE K)(hR:rows.length≤2)(hB:gL ro l K rows):
 Dh zT 12 [.agg ⟨l⟩] ro [] (fun r Y=>r= .tuple ⟨[zI ((cA K (aC K) (bM K.gone K.new K.af) rows).length:Int),zI 0]⟩∧Y=[]):=by
 obtain⟨v0,v1,v3,v4,v5,v6,v7,vb,fa,fc,hv,rfl,_⟩:=hK
 refine AZ au [] [] ba fun fr=>zD 2<|jn fun b1=>jd 6 [0]<|jc (vs:=[Value.agg ⟨[v0,v1,.slice fa 0 fc,v3,v4,v5,v6,v7,zI K.gone,zI K.new,zI K.af,vb]⟩]) [] (hB _ (Sub.refl _)) ?_
 rintro _ Y ⟨f,rfl,hF⟩
 refine jf [0] Y (fun aI hs hk=>?_)
 have BP:=hF aI hs hk
 refine zD 18<|jp (vs:=[pV f]) [] [] (fun z0 Jd hZ=>DK hV (BP.up Jd))<|NJ (vs:=[pV f,.int .u8 (aC K)]) [] (fun _ _ h=>h) (Yp hV BP hR) ?_
 rintro v Y2 ⟨zs,hz,ho⟩
 obtain⟨a,c,rfl⟩:=ho.form
 refine zD 5<|O8 qC.a (.tuple ⟨[zI (zs.length:Int),zI 0]⟩) [2] [] hs ⟨by rw[hz.length_eq],rfl⟩
theorem dV{on:Int}{keep:ah→Bool}{rows:List bE}{x:ah}(h:x∈cA K on keep rows):∃i r p,rows[i]?=some r∧p∈aN K on∧x=bx K r i p∧keep x=true:=by
 obtain⟨l,hl,hx⟩:=List.mem_flatten.1 h
 obtain⟨i,hi,rfl⟩:=List.mem_map.1 hl
 have hi:=List.mem_range.1 hi
 obtain⟨h1,h2⟩:=List.mem_filter.1 hx
 obtain⟨p,hp,rfl⟩:=List.mem_map.1 h1
 rw[List.getElem?_eq_getElem hi] at h2 ⊢
 exact⟨i,rows[i],p,List.getElem?_eq_getElem hi,hp,rfl,h2⟩
theorem Ya(r:bE)(p:Nat→Int):∀k,0≤Cn r p k∧Cn r p k≤k
 |0=>by simp[Cn]
 |k+1=>by
  have:=Ya r p k
  simp only[Cn]
  cases decide (p k>0)&& !r.c k (p k-1).toNat with
  |true=>simp only[cond_true];omega
  |false=>simp only[cond_false];omega
theorem lV(hV:eE K)(r:bE)(i:Nat)(p:Nat→Int):(-4≤(bx K r i p).gone∧(bx K r i p).gone≤4)∧(-4≤(bx K r i p).new∧(bx K r i p).new≤4)∧(0≤(bx K r i p).af∧(bx K r i p).af≤4):=by
 have h1:=XQ p
 have h2:=Ya r p 4
 have h3:=hV.before.1
 have h4:=hV.after.1
 simp only[bx]
 omega
def Gg(x:ah):Int:=x.gone+x.new+x.af
theorem avs{rows:List bE}(hK:fI ro l K)(hV:eE K)(hR:rows.length≤2)(hB:gL ro l K rows):Dh zT 48 [.agg ⟨l⟩] ro [] (fun r Y=>∃zs,zs.Perm (cA K (aC K) (fun _=>true) rows)∧Y=[]∧((zs=[]∧r= .tuple ⟨[zI 0,zI 9]⟩)∨(zs≠[]∧r= .tuple ⟨[zI (qe (zs.map Gg)),zI 0]⟩))):=by
 obtain⟨v0,v1,v3,v4,v5,v6,v7,vb,fa,fc,hv,rfl,_⟩:=hK
 refine AZ au [] [] ba fun fr=>zD 2<|jn fun b1=>jd 6 [0]<|jc (vs:=[.agg ⟨[v0,v1,.slice fa 0 fc,v3,v4,v5,v6,v7,zI K.gone,zI K.new,zI K.af,vb]⟩]) [] (hB _ (Sub.refl _)) ?_
 rintro _ Y12 ⟨f12,rfl,ayi⟩
 refine zD 5<|jf [0] Y12 (fun z0 bZ iQ=>?_)
 have BP:=ayi _ bZ iQ
 refine zD 13<|jp (vs:=[zP f12]) [] [] (fun aI hs hZ=>DK hV (BP.up hs))<|NJ (vs:=[zP f12,.int .u8 (aC K),.func (.func 85) ⟨[]⟩ ⟨[]⟩]) [] (fun _ _ h=>h) (agQ (keep:=fun _=>true) hV BP hR (by kernel_rfl) (fun i r hr aG hs p hp=>an3)) ?_
 rintro v21 Y21 ⟨zs,aol,aFX⟩
 have NW:∀x∈zs,(-4≤x.gone∧x.gone≤4)∧(-4≤x.new∧x.new≤4)∧(0≤x.af∧x.af≤4):=fun x hx=>by obtain⟨i,r,p,_,_,rfl,_⟩:=dV (aol.mem_iff.1 hx);exact lV hV r i p
 have Yy:zs.length≤1250:=by rw[aol.length_eq];exact mQ hV _ _ hR
 refine zD 6<|DL aFX<|zD 1<|jf [0] Y21 (fun ro6 ki YR=>?_)
 have hZ1:=aFX.kg YR
 obtain⟨rR,JL,JJ,pz,rfl,JK,Cd,Cc⟩:=hZ1
 refine zD 1<|zJ 24 ((zs.length:Int)=0) (fun h7=>?_) fun h7=>?_
 ·
  refine zD 7<|O8 qC.a.a (.tuple ⟨[zI 0,zI 9]⟩) [1] [] (bZ.trans ki) ⟨zs,aol,rfl,.inl ⟨List.eq_nil_of_length_eq_zero (by omega),rfl⟩⟩
 refine zD 14<|nY<|dP [1,1,1,1,1,1,0,1,0,0] [] (fun(zz:Nat×Value×Cells)=>[(2,zI 0),(3,zI 0),(7,zz.2.1),(25,.slice rR zs.length pz),(26,zI (zs.length:Int)),(27,zI (zz.1:Int))]) (fun zz=>[.l zz.2.2,.b b1 (.cells ⟨[v0,v1,.slice fa 0 fc,v3,v4,v5,v6,v7,zI K.gone,zI K.new,zI K.af,vb]⟩ 40 (0,0)),.l fr]) (fun zz=>zz.1≤zs.length∧ax zz.2.1 1 3 cm ((zs.take zz.1).map Gg) zz.2.2) (fun zz=>zs.length-zz.1) (⟨0,zS,[]⟩) ⟨by dsimp only;omega,ax.nil _ _ _⟩ [0,1,2] ?_
 rintro⟨k,vS,LS⟩ hI K1 bH rest
 dsimp only at hI
 refine zD 5<|zJ 28 ((k:Int) <(zs.length:Int)) (fun h8=>?_) fun h8=>?_
 ·
  refine zD 6 ?_
  obtain⟨Ed,A0⟩:=zG zs k
  refine ek pz 8 Cd A0<|jl 0 (Cc _ _ A0)<|jn fun b9=>jd 2 [0] ?_
  have hg:=NW _ (zL A0)
  refine jd 6 [0,0]<|ja (Ed.gone+Ed.new) (by omega)<|jd 2 [0]<|ja ((Ed.gone+Ed.new)+Ed.af) (by omega)<|jn fun qW=>iC (sz:=1) (ps:=((zs.take k).map Gg)) (qs:=[((Ed.gone+Ed.new)+Ed.af)]) (enc:=cm) (w:= .slice (some ⟨qW,0,none⟩) 1 1) [2] [0] [(qW,.cells ⟨([((Ed.gone+Ed.new)+Ed.af)].map cm).flatten⟩ 3 (0,0))] (hI.2) (fun s _ hZ=>bK [((Ed.gone+Ed.new)+Ed.af)] (hZ _ (.head _)) (by intro p hp;rfl)) (fun p _=>aj rfl) (by simp only[List.length_map,List.length_take,List.length_cons,List.length_nil];omega) (fun v41 L41 qm=>?_)
  obtain⟨FR,FO,HL⟩:=qm.form
  subst HL
  refine zD 3<|ja ((k:Int)+1) (by omega)<|zD 2<|bI bH (⟨k+1,(.slice FR ((((zs.take k).map Gg)++[((Ed.gone+Ed.new)+Ed.af)])).length FO),L41⟩) ⟨by dsimp only;omega,by rw[gE A0,List.map_append];exact qm⟩ (by dsimp only;omega) [0,3,4] (Sub.refl _)
 refine zD 5<|jp (vs:=[vS]) [0] LS (fun aI hs hZ=>agE (hI.2.kg hZ) ⟨by simp only[List.length_map,List.length_take];omega,by simp only[List.length_map,List.length_take];omega⟩) ?_
 refine zD 5<|O8 qC.a.a (.tuple ⟨[zI (qe ((zs.take k).map Gg)),zI 0]⟩) [2] [] (bZ.trans ki) ⟨zs,aol,rfl,.inr ⟨fun e=>by subst e;simp at*,by rw[show k=zs.length by omega,List.take_length]⟩⟩
def aVQ(ro:Nat→Option Obj)(f:Nat)(l:List Value)(rows:List bE):Prop:=∃vt,ro f=some (.cells ⟨l++[vt]⟩ 150 (0,0))∧bD ro vt 16 Bo rows
def Bq(ways:List (List aO))(w:List Int):List (List aO):=List.zipWith (fun l n=>(l.take (n.toNat+1)).drop n.toNat) ways w
theorem apu{ways:List (List aO)}{w:List Int}{l:List aO}(h1:ways[k]?=some l) (h2:w[k]?=some n):(Bq ways w)[k]?=some ((l.take (n.toNat+1)).drop n.toNat):=by
 simp only[Bq,List.getElem?_zipWith,h1,h2]
def ku(K:aB)(qM:List Int→aA→List an)(w:List Int):bE:=⟨fun i j=>match K.before[i]?,K.after[j]? with
 |some x,some y=>decide (cv (pd y.st y.no 0) (qM w x) 0≥0)
 |_,_=>false⟩
def EZ(F:Nat→Nat→Bool)(i j:Nat)(r:bE):Prop:=∀x y,r.c x y=((decide (x <i)||(decide (x=i)&&decide (y <j)))&&F x y)
theorem EZ.set{j:Nat}{r:bE}(h:EZ F i j r):EZ F i (j+1) (iT r i j (F i j)):=fun x y=>by
 simp only[iT]
 split
 ·rename_i hx;obtain⟨rfl,rfl⟩:=hx;simp
 rename_i hx
 rw[h x y]
 congr 2
 by_cases e:x=i
 ·subst e
  have:y≠j:=fun e2=>hx ⟨rfl,e2⟩
  simp only[decide_true,Bool.true_and]
  congr 1
  exact propext (by omega)
 simp[e]
theorem EZ.nxt{n:Nat}{r:bE}(hF:∀x y,n≤y→F x y=false)(h:EZ F i n r):EZ F (i+1) 0 r:=fun x y=>by
 rw[h x y]
 by_cases hy:y <n
 ·congr 1
  simp only[hy,decide_true,Bool.and_true,Nat.not_lt_zero,decide_false,Bool.and_false,Bool.or_false]
  rw[Bool.eq_iff_iff];simp;omega
 rw[hF x y (by omega)];simp
theorem EZ.fin{n:Nat}{r:bE}(hF:∀x y,n≤x→F x y=false)(h:EZ F n 0 r):r=⟨F⟩:=by
 rcases r with ⟨c⟩
 congr 1
 funext x y
 have:=h x y
 dsimp only at this
 rw[this]
 by_cases hx:x <n
 ·simp[hx]
 rw[hF x y (by omega)];simp
theorem atQ{qM:List Int→aA→List an}{w:List Int}(x y:Nat)(h:K.before.length≤x):(ku K qM w).c x y=false:=by simp only[ku,List.getElem?_eq_none h]
theorem atP{qM:List Int→aA→List an}{w:List Int}(x y:Nat)(h:K.after.length≤y):(ku K qM w).c x y=false:=by
 simp only[ku,List.getElem?_eq_none h]
 split
 ·rename_i h1;cases h1
 rfl
structure WU(K:aB)(W:List (List Int)):Prop where
 n:1≤W.length∧W.length≤2
 len:∀w∈W,w.length=K.ways.length
 rng:∀w∈W,∀(k:Nat) (l:List aO) (n:Int),K.ways[k]?=some l→w[k]?=some n→0≤n∧n <l.length
def xO(ro:Nat→Option Obj)(l:List Value)(K:aB)(W:List (List Int))(qM:List Int→aA→List an):Prop:=∀w∈W,∀x∈K.before,(qM w x).length≤1000∧∀aI,Sub ro aI→∀v vS vT vU r,l=vS::vT::vU::r→nO aI v (Bq K.ways w)→
 dO zT 72 [.agg ⟨[vS,v,vU]⟩,.agg ⟨[zI x.st,zI x.no,zI 0]⟩] aI [] (fun r Y=>∃a n c,r= .tuple ⟨[.slice a n c,zI 0]⟩∧∀k8,Knows k8 Y→bD k8 (.slice a n c) 3 cM (qM w x))
theorem avF{qM:List Int→aA→List an}(hK:fI ro l K)(hO:jv K)(hV:eE K)(hW:WU K W)(h76:qK ro l W)(h47:xO ro l K W qM):dO zT 40 [.agg ⟨l⟩] ro [] (fun r Y=>∃f,r= .tuple ⟨[pV f,zI 0]⟩∧∀k8,Sub ro k8→Knows k8 Y→oX k8 f K (W.map (ku K qM))∧aVQ k8 f l (W.map (ku K qM))):=by
 have Za:=hK
 obtain⟨vS,vT,vc,vh,vr,vb,va,vf,fa,fc,hv,rfl,hS,hT,pR,nj,hr,hb,ha,hf⟩:=hK
 obtain⟨ib,hs,fq⟩:=id hS
 obtain⟨iM,ht,eY⟩:=id hT
 obtain⟨hc,hh,DU⟩:=id pR
 have vq:=hr
 have u9:=hb
 have ha0:=ha
 have hf0:=hf
 obtain⟨mh,Ux,Uv,ld,rfl,Uw,Ng,Nf⟩:=hs
 obtain⟨eS,AI,AG,dW,rfl,AH,sA,sw⟩:=ht
 obtain⟨ep,AK,AJ,dZ,rfl,Dx,yR,yQ⟩:=hc
 obtain⟨dH,u5,u4,du,rfl,xp,qR,qQ⟩:=hh
 obtain⟨kR,I8,I7,kQ,rfl,O3,Gw,Gv⟩:=hr
 obtain⟨lh,O6,O4,kY,rfl,O5,Nk,Nj⟩:=hb
 obtain⟨kS,KU,KS,kA,rfl,KT,JF,JE⟩:=ha
 obtain⟨jA,BJ,BI,gY,rfl,I9,uM,uL⟩:=hf
 have CM:=hO.rules
 have qO:=hO.before.1
 have Pd:=hO.after.1
 have N0:=hO.facts.1
 have Pc:=hO.ways.1
 have Jh:=fq.len
 have EK:=eY.len
 have YO:=hO.oO.two
 have hl9:=hO.da.nh
 have O2:∀(i:Nat) (p:db),([]:List db)[i]?=some p→cB ⟨ro,[]⟩ 0 (0+i*6) 6 (mN p):=fun _ _ h=>oz h
 have hWn:=hW.n
 refine aO6 au 70 [] [] ba<|zD 2<|jn fun b1=>jn fun b2=>jn fun b3=>zD 4<|jdf (f:=70) (ca:=[zP b2,zP b3])<|jd 5 [2]<|jn fun IT=>jd 6 [2,3]<|jc (vs:=[.agg ⟨[.slice mh ib.length ld,.slice eS iM.length dW,.slice fa 0 fc,.slice ep K.cs.length dZ,.slice dH hv.length du,.slice kR K.rules.length kQ,.slice lh K.before.length kY,.slice kS K.after.length kA,zI K.gone,zI K.new,zI K.af,.slice jA K.facts.length gY]⟩]) [] (avD Za hO hV ⟨hW.n.1,by have:=hW.n.2;omega⟩ h76) ?_
 rintro _ Y21 ⟨a21,n21,c21,rfl,bd0,aos⟩
 refine zD 2<|jf [0] Y21 (fun z0 bZ iQ=>?_)
 obtain⟨wsW,hWs,arS⟩:=aos _ iQ
 obtain⟨qWa,qWb,qWo,qWc,heW,qWk,qWh,qWl⟩:=hWs
 simp only[Value.slice.injEq] at heW
 obtain⟨rfl,rfl,rfl⟩:=heW
 have hlW:=arS.len
 refine zD 2<|nY<|dP [1,1,1,0,1,0,0] [] (fun(zz:Nat×Value×Cells)=>[(1,zP b1),(2,zP b2),(3,zP b3),(21,.slice a21 wsW.length c21),(22,zI (wsW.length:Int)),(23,zI (zz.1:Int))]) (fun zz=>[.l zz.2.2,.b IT (.cells ⟨[.slice mh ib.length ld,.slice eS iM.length dW,.slice fa 0 fc,.slice ep K.cs.length dZ,.slice dH hv.length du,.slice kR K.rules.length kQ,.slice lh K.before.length kY,.slice kS K.after.length kA,zI K.gone,zI K.new,zI K.af,.slice jA K.facts.length gY,zz.2.1]⟩ 150 (0,0)),.b b1 (.cells ⟨[.slice mh ib.length ld,.slice eS iM.length dW,.slice fa 0 fc,.slice ep K.cs.length dZ,.slice dH hv.length du,.slice kR K.rules.length kQ,.slice lh K.before.length kY,.slice kS K.after.length kA,zI K.gone,zI K.new,zI K.af,.slice jA K.facts.length gY]⟩ 40 (0,0)),.b b2 (.cells ⟨[zP IT]⟩ 100 (0,0)),.b b3 (.cells ⟨[zI 0]⟩ 46 (0,0))]) (fun zz=>zz.1≤wsW.length∧ax zz.2.1 16 153 Bo ((W.take zz.1).map (ku K qM)) zz.2.2) (fun zz=>wsW.length-zz.1) (⟨0,zS,[]⟩) ⟨by dsimp only;omega,ax.nil _ _ _⟩ [0,1,4,3,2] ?_
 rintro⟨k,vR,LR⟩ hI K1 bH rest
 dsimp only at hI
 refine zD 5<|zJ 24 ((k:Int) <(wsW.length:Int)) (fun h4=>?_) fun h4=>?_
 ·
  refine zD 6 ?_
  obtain⟨yB,lv⟩:=zG wsW k
  refine ek c21 1 qWh lv ?_
  obtain⟨wj,aGo,h26⟩:=arS.get lv
  obtain⟨aNU,bca,bb8,aC4,rfl,bb9,aNT,aNS⟩:=h26
  refine jl 0 (qWl _ _ lv)<|zD 3 ?_
  have hwm:=zL aGo
  have hwl:=hW.len _ hwm
  refine jd 8 [2,2]<|jn fun b6=>jd 10 [0]<|nY<|dP [1,1,1,0,1,0,0,1,1,0,0,1,1,0,1,0,0] [K1] (fun(zz:Nat×Value×Cells×(List Value))=>[(1,zP b1),(2,zP b2),(3,zP b3),(6,zP b6),(21,.slice a21 wsW.length c21),(22,zI (wsW.length:Int)),(23,zI (k:Int)),(34,.slice aNU wj.length aC4),(35,zI (wj.length:Int)),(36,zI (zz.1:Int))]) (fun zz=>[.l zz.2.2.1,.b b6 (.cells ⟨[.slice mh ib.length ld,zz.2.1,.slice fa 0 fc]⟩ 31 (0,0)),.l LR,.b IT (.cells ⟨[.slice mh ib.length ld,.slice eS iM.length dW,.slice fa 0 fc,.slice ep K.cs.length dZ,.slice dH hv.length du,.slice kR K.rules.length kQ,.slice lh K.before.length kY,.slice kS K.after.length kA,zI K.gone,zI K.new,zI K.af,.slice jA K.facts.length gY,vR]⟩ 150 (0,0)),.b b1 (.cells ⟨[.slice mh ib.length ld,.slice eS iM.length dW,.slice fa 0 fc,.slice ep K.cs.length dZ,.slice dH hv.length du,.slice kR K.rules.length kQ,.slice lh K.before.length kY,.slice kS K.after.length kA,zI K.gone,zI K.new,zI K.af,.slice jA K.facts.length gY]⟩ 40 (0,0)),.b b2 (.cells ⟨[zP IT]⟩ 100 (0,0)),.b b3 (.cells ⟨[zI 0]⟩ 46 (0,0))]) (fun zz=>(zz.1≤wj.length∧zz.2.2.2.length=zz.1)∧ax zz.2.1 1 87 fH zz.2.2.2 zz.2.2.1∧de (fun w l=>bD z0 w 7 kM l) zz.2.2.2 ((Bq K.ways wj).take zz.1)) (fun zz=>wj.length-zz.1) (⟨0,zS,[],[]⟩) ⟨⟨by dsimp only;omega,rfl⟩,ax.nil _ _ _,(by simp only[List.take_zero];exact de.nil)⟩ (zN 0 7) ?_
  rintro⟨j,vT,LT,es⟩ hJ K2 mr rest
  dsimp only at hJ
  refine zD 5<|zJ 37 ((j:Int) <(wj.length:Int)) (fun h5=>?_) fun h5=>?_
  ·
   refine zD 7 ?_
   obtain⟨E7,xZ⟩:=zG wj j
   refine ek aC4 1 aNT xZ<|jl 0 (aNS _ _ xZ)<|jd 10 [1,4] ?_
   obtain⟨x47,U9⟩:=zG iM j
   refine ek dW 1 sA U9<|zD 1 ?_
   obtain⟨l49,awZ,h49⟩:=eY.get U9
   obtain hwr:=hW.rng _ hwm _ _ _ awZ xZ
   obtain bd8:=(hO.ways.2 _ (zL awZ)).1.2
   obtain⟨aNL,aNK,aNF,aNJ,rfl,aNH,aNI,aNG⟩:=h49
   refine jl 0 ((sw _ _ U9).ext (n5 bZ))<|zD 2<|ja (E7+1) (by omega)<|jcB (lo:=E7) (hi:=(E7+1)) ((show bD _ _ _ _ _ from ⟨aNL,aNK,aNF,aNJ,rfl,aNH,aNI,aNG⟩).up bZ) (by omega) (fun v53 wx=>?_)
   obtain⟨KP,aCE,aCA,KO,rfl,aCC,aCD,aCB⟩:=wx
   refine zD 1<|aV 14 fun pW pZ oU=>jn fun b55=>eH oU (zN 1 7)<|aV 15 fun rI rK qu=>iC (sz:=1) (ps:=es) (qs:=[(.slice KP (((((l49).take (E7+1).toNat).drop E7.toNat)).length) KO:Value)]) (enc:=fH) (w:= .slice (some ⟨b55,0,none⟩) 1 1) [1] [0] [(b55,.cells ⟨([(.slice KP (((((l49).take (E7+1).toNat).drop E7.toNat)).length) KO:Value)].map fH).flatten⟩ 87 (0,0))] (hJ.2.1) (fun s _ hZ=>bK [(.slice KP (((((l49).take (E7+1).toNat).drop E7.toNat)).length) KO:Value)] (hZ _ (.head _)) (by intro p hp;rfl)) (by intro p hp;rw[List.mem_singleton] at hp;subst hp;exact aj rfl) (by simp<;>omega) (fun v56 L56 wz=>?_)
   obtain⟨aab,Z8,aiq⟩:=wz.form
   subst aiq
   refine gM qu [[],[5]]<|zD 1<|aV 17 fun An Ay Ba=>jd 1 [2]<|gq Ba<|zD 2<|ja ((j:Int)+1) (by omega)<|zD 2<|bI mr (⟨j+1,(.slice aab ((es++[(.slice KP (((((l49).take (E7+1).toNat).drop E7.toNat)).length) KO:Value)])).length Z8),L56,(es++[(.slice KP (((((l49).take (E7+1).toNat).drop E7.toNat)).length) KO:Value)])⟩) ⟨⟨by dsimp only;omega,by simp only[zM];omega⟩,wz,by rw[gE (apu awZ xZ)];exact hJ.2.2.snoc (by rw[show E7.toNat+1=(E7+1).toNat by omega];exact⟨KP,aCE,aCA,KO,rfl,aCC,aCD,aCB⟩)⟩ (by dsimp only;omega) [0,2,3,4,5,6,7] (Sub.refl _)
  refine zD 3 ?_
  have hS6:de (fun w l=>bD z0 w 7 kM l) es (Bq K.ways wj):=by have:=hJ.2.2;rwa[List.take_of_length_le (by simp only[Bq,List.length_zipWith];omega)] at this
  refine zD 1<|jn fun b9=>jd 10 [5]<|dP [1,1,1,0,1,0,0,1,1,0,0,1,1,1,1,0,1,0,0] [K1] (fun(zz:Nat×bE)=>[(1,zP b1),(2,zP b2),(3,zP b3),(6,zP b6),(9,zP b9),(21,.slice a21 wsW.length c21),(22,zI (wsW.length:Int)),(23,zI (k:Int)),(60,.slice lh K.before.length kY),(61,zI (K.before.length:Int)),(62,zI (zz.1:Int))]) (fun zz=>[.b b9 (.cells ⟨[.bool (zz.2.c 0 0),.bool (zz.2.c 0 1),.bool (zz.2.c 0 2),.bool (zz.2.c 0 3),.bool (zz.2.c 1 0),.bool (zz.2.c 1 1),.bool (zz.2.c 1 2),.bool (zz.2.c 1 3),.bool (zz.2.c 2 0),.bool (zz.2.c 2 1),.bool (zz.2.c 2 2),.bool (zz.2.c 2 3),.bool (zz.2.c 3 0),.bool (zz.2.c 3 1),.bool (zz.2.c 3 2),.bool (zz.2.c 3 3)]⟩ 153 (0,0)),.l LT,.b b6 (.cells ⟨[.slice mh ib.length ld,vT,.slice fa 0 fc]⟩ 31 (0,0)),.l LR,.b IT (.cells ⟨[.slice mh ib.length ld,.slice eS iM.length dW,.slice fa 0 fc,.slice ep K.cs.length dZ,.slice dH hv.length du,.slice kR K.rules.length kQ,.slice lh K.before.length kY,.slice kS K.after.length kA,zI K.gone,zI K.new,zI K.af,.slice jA K.facts.length gY,vR]⟩ 150 (0,0)),.b b1 (.cells ⟨[.slice mh ib.length ld,.slice eS iM.length dW,.slice fa 0 fc,.slice ep K.cs.length dZ,.slice dH hv.length du,.slice kR K.rules.length kQ,.slice lh K.before.length kY,.slice kS K.after.length kA,zI K.gone,zI K.new,zI K.af,.slice jA K.facts.length gY]⟩ 40 (0,0)),.b b2 (.cells ⟨[zP IT]⟩ 100 (0,0)),.b b3 (.cells ⟨[zI 0]⟩ 46 (0,0))]) (fun zz=>zz.1≤K.before.length∧EZ (ku K qM wj).c zz.1 0 zz.2) (fun zz=>K.before.length-zz.1) (⟨0,⟨fun _ _=>false⟩⟩) ⟨by dsimp only;omega,fun x y=>by simp⟩ (zN 0 8) ?_
  rintro⟨i,r⟩ hQ K6 hK6 rest
  dsimp only at hQ
  refine zD 5<|zJ 63 ((i:Int) <(K.before.length:Int)) (fun h9=>?_) fun h9=>?_
  ·
   refine zD 7 ?_
   obtain⟨Pu,ag6⟩:=zG K.before i
   refine ek kY 5 Nk ag6<|jl 0 ((Nj _ _ ag6).ext (n5 bZ))<|jn fun S2=>jd 7 [0,3,0]<|jp (vs:=[.agg ⟨[.string Pu.name,zI Pu.st,zI Pu.no,zI Pu.head,.bool Pu.bold]⟩]) [] [] (fun aI hs hZ=>Ys)<|aV 3 fun amc amC VM=>jcL (vs:=[.agg ⟨[.slice mh ib.length ld,vT,.slice fa 0 fc]⟩,.agg ⟨[zI Pu.st,zI Pu.no,zI 0]⟩]) [] [2] LT (fun aI hs hZ=>(h47 _ hwm _ (zL ag6)).2 _ (bZ.trans hs) _ _ _ _ _ rfl ⟨_,hJ.2.1.kg hZ,hS6.imp fun _ _ k=>k.up hs⟩) ?_
   rintro _ Y71 ⟨a71,n71,c71,rfl,aPM⟩
   refine eH VM (zN 1 9)<|zD 9<|jp (vs:=[zI 0]) [] [] (fun aI hs hZ=>AY)<|jf [0] Y71 (fun bbd aFx aRw=>?_)
   obtain⟨qPa,qPb,qPo,qPc,heP,qPk,qPh,qPl⟩:=aPM _ aRw
   simp only[Value.slice.injEq] at heP
   obtain⟨rfl,rfl,rfl⟩:=heP
   refine jd 9 [6]<|dP [1,1,1,0,1,0,0,1,1,0,0,1,1,1,1,0,1,0,0,1,1,0,0,1,1,1,1,0,0] [K1,K6] (fun(zz:Nat×bE)=>[(1,zP b1),(2,zP b2),(3,zP b3),(6,zP b6),(9,zP b9),(10,zI (i:Int)),(12,.slice a71 ((qM wj Pu).length) c71),(21,.slice a21 wsW.length c21),(22,zI (wsW.length:Int)),(23,zI (k:Int)),(60,.slice lh K.before.length kY),(61,zI (K.before.length:Int)),(62,zI (i:Int)),(77,.slice kS K.after.length kA),(78,zI (K.after.length:Int)),(79,zI (zz.1:Int))]) (fun zz=>[.b b9 (.cells ⟨[.bool (zz.2.c 0 0),.bool (zz.2.c 0 1),.bool (zz.2.c 0 2),.bool (zz.2.c 0 3),.bool (zz.2.c 1 0),.bool (zz.2.c 1 1),.bool (zz.2.c 1 2),.bool (zz.2.c 1 3),.bool (zz.2.c 2 0),.bool (zz.2.c 2 1),.bool (zz.2.c 2 2),.bool (zz.2.c 2 3),.bool (zz.2.c 3 0),.bool (zz.2.c 3 1),.bool (zz.2.c 3 2),.bool (zz.2.c 3 3)]⟩ 153 (0,0)),.b S2 (.cells ⟨[.string Pu.name,zI Pu.st,zI Pu.no,zI Pu.head,.bool Pu.bold]⟩ 55 (0,0)),.l LT,.b b6 (.cells ⟨[.slice mh ib.length ld,vT,.slice fa 0 fc]⟩ 31 (0,0)),.l LR,.b IT (.cells ⟨[.slice mh ib.length ld,.slice eS iM.length dW,.slice fa 0 fc,.slice ep K.cs.length dZ,.slice dH hv.length du,.slice kR K.rules.length kQ,.slice lh K.before.length kY,.slice kS K.after.length kA,zI K.gone,zI K.new,zI K.af,.slice jA K.facts.length gY,vR]⟩ 150 (0,0)),.b b1 (.cells ⟨[.slice mh ib.length ld,.slice eS iM.length dW,.slice fa 0 fc,.slice ep K.cs.length dZ,.slice dH hv.length du,.slice kR K.rules.length kQ,.slice lh K.before.length kY,.slice kS K.after.length kA,zI K.gone,zI K.new,zI K.af,.slice jA K.facts.length gY]⟩ 40 (0,0)),.b b2 (.cells ⟨[zP IT]⟩ 100 (0,0)),.b b3 (.cells ⟨[zI 0]⟩ 46 (0,0))]) (fun zz=>zz.1≤K.after.length∧EZ (ku K qM wj).c i zz.1 zz.2) (fun zz=>K.after.length-zz.1) (⟨0,r⟩) ⟨by dsimp only;omega,hQ.2⟩ [1,0,2,3,4,5,6,7,8] ?_
   rintro⟨j,r⟩ hU K8 hK8 rest
   dsimp only at hU
   refine zD 5<|zJ 80 ((j:Int) <(K.after.length:Int)) (fun Sd=>?_) fun Sd=>?_
   ·
    refine zD 7 ?_
    obtain⟨E6,U7⟩:=zG K.after j
    refine ek kA 5 JF U7<|jl 0 ((JE _ _ U7).ext (n5 (bZ.trans aFx)))<|jn fun IU=>jd 3 [0] ?_
    have hRW:(ku K qM wj).c i j=decide (cv (pd E6.st E6.no 0) (qM wj Pu) 0≥0):=by simp only[ku,ag6,U7]
    refine jd 5 [0]<|LV (b:=b9) (off:=0) (len:=4) (sz:=4) (i:Int) (by omega)<|jp (vs:=[.agg ⟨[.string E6.name,zI E6.st,zI E6.no,zI E6.head,.bool E6.bold]⟩]) [] [] (fun aI hs hZ=>Ys)<|jp (vs:=[.slice a71 ((qM wj Pu).length) c71,.agg ⟨[zI E6.st,zI E6.no,zI 0]⟩]) [] [] (fun aI hs hZ=>LP ((show bD _ _ _ _ _ from ⟨a71,qPb,qPo,c71,rfl,qPk,qPh,qPl⟩).up hs) (h47 _ hwm _ (zL ag6)).1)<|LV (b:=b9) (off:=0+(i:Int).toNat*4) (len:=4) (sz:=1) (j:Int) (by omega)<|aV 8 fun TB TY R9=>jsx 1 b9 (0+(i:Int).toNat*4+(j:Int).toNat*1) [.bool (r.c 0 0),.bool (r.c 0 1),.bool (r.c 0 2),.bool (r.c 0 3),.bool (r.c 1 0),.bool (r.c 1 1),.bool (r.c 1 2),.bool (r.c 1 3),.bool (r.c 2 0),.bool (r.c 2 1),.bool (r.c 2 2),.bool (r.c 2 3),.bool (r.c 3 0),.bool (r.c 3 1),.bool (r.c 3 2),.bool (r.c 3 3)] [.bool (decide (cv (pd E6.st E6.no 0) (qM wj Pu) 0≥0))] 153 (by intro v hv;rw[List.mem_singleton] at hv;subst hv;rfl) (XA (r:=r) (by omega) (by omega)) ?_
    refine jmw 0 [.b b9 (.cells ⟨[.bool ((iT r i j ((ku K qM wj).c i j)).c 0 0),.bool ((iT r i j ((ku K qM wj).c i j)).c 0 1),.bool ((iT r i j ((ku K qM wj).c i j)).c 0 2),.bool ((iT r i j ((ku K qM wj).c i j)).c 0 3),.bool ((iT r i j ((ku K qM wj).c i j)).c 1 0),.bool ((iT r i j ((ku K qM wj).c i j)).c 1 1),.bool ((iT r i j ((ku K qM wj).c i j)).c 1 2),.bool ((iT r i j ((ku K qM wj).c i j)).c 1 3),.bool ((iT r i j ((ku K qM wj).c i j)).c 2 0),.bool ((iT r i j ((ku K qM wj).c i j)).c 2 1),.bool ((iT r i j ((ku K qM wj).c i j)).c 2 2),.bool ((iT r i j ((ku K qM wj).c i j)).c 2 3),.bool ((iT r i j ((ku K qM wj).c i j)).c 3 0),.bool ((iT r i j ((ku K qM wj).c i j)).c 3 1),.bool ((iT r i j ((ku K qM wj).c i j)).c 3 2),.bool ((iT r i j ((ku K qM wj).c i j)).c 3 3)]⟩ 153 (0,0))] (L:=[(b9,.cells ⟨dB [.bool (r.c 0 0),.bool (r.c 0 1),.bool (r.c 0 2),.bool (r.c 0 3),.bool (r.c 1 0),.bool (r.c 1 1),.bool (r.c 1 2),.bool (r.c 1 3),.bool (r.c 2 0),.bool (r.c 2 1),.bool (r.c 2 2),.bool (r.c 2 3),.bool (r.c 3 0),.bool (r.c 3 1),.bool (r.c 3 2),.bool (r.c 3 3)] (0+(i:Int).toNat*4+(j:Int).toNat*1) [.bool (decide (cv (pd E6.st E6.no 0) (qM wj Pu) 0≥0))]⟩ 153 (0,0))]) (by rw[Xy (by omega) (by omega),hRW];rfl) ?_
    refine gM R9 []<|zD 2<|ja ((j:Int)+1) (by omega)<|zD 2<|bI hK8 (⟨j+1,(iT r i j ((ku K qM wj).c i j))⟩) ⟨by dsimp only;omega,hU.2.set⟩ (by dsimp only;omega) [0,2,3,4,5,6,7,8,9] (Sub.refl _)
   refine zD 3<|ja ((i:Int)+1) (by omega)<|zD 2<|bI hK6 (⟨i+1,r⟩) ⟨by dsimp only;omega,EZ.nxt (fun x y h=>atP x y h) (by have:=hU.2;rwa[show j=K.after.length by omega] at this)⟩ (by dsimp only;omega) [0,2,3,4,5,6,7,8] aFx
  refine jd 9 [6,6,4,0]<|aV 6 fun Dj Ds uv=>jn fun aI4=>eH uv (zN 1 8)<|aV 7 fun FD Gc zi=>iC (sz:=16) (ps:=((W.take k).map (ku K qM))) (qs:=[(r:bE)]) (enc:=Bo) (w:= .slice (some ⟨aI4,0,none⟩) 1 1) [4] [0] [(aI4,.cells ⟨([(r:bE)].map Bo).flatten⟩ 153 (0,0))] (hI.2) (fun s _ hZ=>bK [(r:bE)] (hZ _ (.head _)) (by intro p hp;rfl)) (fun p _=>aj rfl) (by simp only[List.length_map,List.length_take,List.length_cons,List.length_nil];omega) (fun baQ aVP YM=>?_)
  obtain⟨aBq,aBj,aGU⟩:=YM.form
  subst aGU
  refine gM zi [[7],[7]]<|zD 2<|aV 10 fun Pt PT CV=>jd 1 [5]<|gM CV []<|zD 2<|ja ((k:Int)+1) (by omega)<|zD 2<|bI bH (⟨k+1,(.slice aBq ((((W.take k).map (ku K qM))++[(r:bE)])).length aBj),aVP⟩) ⟨by dsimp only;omega,by rw[gE aGo,List.map_append];have e:=EZ.fin (fun x y h=>atQ x y h) (by have:=hQ.2;rwa[show i=K.before.length by omega] at this);subst e;exact YM⟩ (by dsimp only;omega) [0,5,6,7,8] (Sub.refl _)
 refine jd 9 [3,3,4]<|jrD (g:=70) (ca:=[zP b2,zP b3]) ⟨rfl,rfl⟩ (.tuple ⟨[zP IT,zI 0]⟩) [3,4] [1,0] ((IT,.cells ⟨[.slice mh ib.length ld,.slice eS iM.length dW,.slice fa 0 fc,.slice ep K.cs.length dZ,.slice dH hv.length du,.slice kR K.rules.length kQ,.slice lh K.before.length kY,.slice kS K.after.length kA,zI K.gone,zI K.new,zI K.af,.slice jA K.facts.length gY,vR]⟩ 150 (0,0))::LR) 9 bZ ⟨_,_,rfl,rfl,IT,rfl,fun k8 hs hk=>by have hvt:=hI.2;rw[List.take_of_length_le (by omega)] at hvt;exact⟨⟨_,_,_,_,_,_,_,_,_,_,hv,hk _ (.head _),pR.up hs,nj,vq.up hs,u9.up hs,ha0.up hs,hf0.up hs,hvt.kg hk.tail⟩,⟨_,hk _ (.head _),hvt.kg hk.tail⟩⟩⟩
theorem Tb.v(h:Tb K):eE K where
 rules:=⟨by have:=h.rules.1;omega,fun r hr=>atN (h.rules.2 r hr)⟩
 before:=⟨by have:=h.before.1;omega,fun p hp=>by
  obtain⟨h1,h2,_⟩:=(h.before.2 p hp).1
  exact⟨⟨⟨h1.1.1,by have:=h1.1.2;omega⟩,h1.2⟩,h2⟩⟩
 after:=⟨by have:=h.after.1;omega,fun p hp=>by
  obtain⟨h1,h2,_⟩:=(h.after.2 p hp).1
  exact⟨⟨⟨h1.1.1,by have:=h1.1.2;omega⟩,h1.2⟩,h2⟩⟩
 da:=h.da.v
 facts:=⟨by have:=h.facts.1;omega,h.facts.2⟩
theorem qK.up{aG:Nat→Option Obj}(h:qK ro l W)(hs:Sub ro aG):qK aG l W:=fun aI h1=>h aI (hs.trans h1)
theorem xO.up{aG:Nat→Option Obj}{qM:List Int→aA→List an}(h:xO ro l K W qM)(hs:Sub ro aG):xO aG l K W qM:=fun w hw x hx=>⟨(h w hw x hx).1,fun aI h1=>(h w hw x hx).2 aI (hs.trans h1)⟩
theorem apN{qM:List Int→aA→List an}(hK:fI ro l K)(hO:jv K)(hV:eE K)(hW:WU K W)(h76:qK ro l W)(h47:xO ro l K W qM):gL ro l K (W.map (ku K qM)):=
 fun aI hs=>(avF (hK.up hs) hO hV hW (h76.up hs) (h47.up hs)).mono fun _ _ ⟨f,e,h⟩=>⟨f,e,fun k8 h1 h2=>(h k8 h1 h2).1⟩
def qV(a b:Int):Int:=if a <b then-1 else if a>b then 1 else 0
def orL:List Int→Int
 | []=>0
 |x::l=>if x=0 then orL l else x
theorem afq{l:List Int}{x:Int}(h:l[k]?=some x):orL (l.drop k)=if x=0 then orL (l.drop (k+1)) else x:=by rw[fx h];rfl
theorem ank{l:List Int}(h:¬k <l.length):orL (l.drop k)=0:=by rw[eA h];rfl
def aca(x y:ai):Int:=orL [qV x.n y.n,qV x.l y.l]
theorem apz{x y:ai}(h:ane x y):aca x y <0:=by
 rcases h with h| ⟨h1,h2⟩
 ·have e:qV x.n y.n= -1:=if_pos h
  simp[aca,orL,e]
 have e:qV x.n y.n=0:=by simp only[qV];rw[if_neg (by omega),if_neg (by omega)]
 have e2:qV x.l y.l= -1:=if_pos h2
 simp[aca,orL,e,e2]
theorem aH5{a:Int}:dv zT 151 [zI a] ro (.bool false):=by
 refine zE<|zD 12<|zX (.bool (!decide (a=a))) ⟨by simp,rfl⟩
theorem ayH{a:Int}:dv zT 112 [zI a,zI b] ro (zI (qV a b)):=by
 refine zE<|zD 7<|jp (vs:=[zI a]) [] [] (fun aI hs hZ=>aH5)<|zD 5<|jp (vs:=[zI b]) [] [] (fun aI hs hZ=>aH5)<|zD 23<|zJ 16 (a <b) (fun h1=>?_) fun h1=>?_
 ·
  refine zD 6<|zX (zI (-1)) ⟨by simp only[qV];first|rw[if_pos (by omega)]|rw[if_neg (by omega),if_pos (by omega)]|rw[if_neg (by omega),if_neg (by omega)],rfl⟩
 refine zD 9<|zJ 19 (a>b) (fun h2=>?_) fun h2=>?_
 ·
  refine zD 6<|zX (zI 1) ⟨by simp only[qV];first|rw[if_pos (by omega)]|rw[if_neg (by omega),if_pos (by omega)]|rw[if_neg (by omega),if_neg (by omega)],rfl⟩
 refine zD 7<|zX (zI 0) ⟨by simp only[qV];first|rw[if_pos (by omega)]|rw[if_neg (by omega),if_pos (by omega)]|rw[if_neg (by omega),if_neg (by omega)],rfl⟩
theorem gOr{v:Value}(hl:bD ro v 1 cm xs)(hn:xs.length≤1000):dv zT 183 [v] ro (zI (orL xs)):=by
 obtain⟨fA,rQ,rP,eP,rfl,tQ,lJ,mE⟩:=hl
 refine zE<|zD 16<|dP [1,1,0,1,0,0] [] (fun(zz:Nat)=>[(3,zI 0),(6,.slice fA xs.length eP),(7,zI (xs.length:Int)),(8,zI (zz:Int))]) (fun zz=>[]) (fun zz=>zz≤xs.length∧orL xs=orL (xs.drop zz)) (fun zz=>xs.length-zz) 0 ⟨by omega,rfl⟩ [] ?_
 rintro k hI K1 bH rest
 refine zD 5<|zJ 9 ((k:Int) <(xs.length:Int)) (fun h1=>?_) fun h1=>?_
 ·
  refine zD 6 ?_
  obtain⟨x10,rX⟩:=zG xs k
  refine ek eP 1 lJ rX<|jl 0 (mE _ _ rX)<|zD 8<|js 14 (!decide (x10=0)) (fun h2=>?_) (fun h2=>?_)
  ·
   replace h2:=of_decide_eq_false (by simpa using h2)
   refine zD 7<|zX (zI x10) ⟨by rw[hI.2,afq rX,if_neg (by simp_all)],rfl⟩
  replace h2:=of_decide_eq_true (by simpa using h2)
  refine zD 3<|ja ((k:Int)+1) (by omega)<|zD 2<|bI bH (k+1) ⟨by omega,by rw[hI.2,afq rX,if_pos (by simp_all)]⟩ (by omega) [] (Sub.refl _)
 refine zD 8<|zX (zI 0) ⟨by rw[hI.2,ank (by omega)],rfl⟩
theorem ar7{x y:ai}:dv zT 184 [.agg ⟨[zI x.n,zI x.l]⟩,.agg ⟨[zI y.n,zI y.l]⟩] ro (zI (aca x y)):=by
 refine zE<|zD 2<|jn fun b2=>jn fun b3=>jd 12 [1,0,1,0]<|jp (vs:=[zI x.n,zI y.n]) [] [] (fun aI hs hZ=>ayH)<|jp (vs:=[zI x.l,zI y.l]) [] [] (fun aI hs hZ=>ayH)<|aV 10 fun BU B0 Ah=>jn fun IU=>eH Ah [1,2]<|jp (vs:=[.slice (some ⟨IU,0,none⟩) 2 2]) [0] [(IU,.cells ⟨([(qV x.n y.n),(qV x.l y.l)].map cm).flatten⟩ 3 (0,0))] (fun aI hs hZ=>gOr (bU [(qV x.n y.n),(qV x.l y.l)] hZ.head (by intro p hp;rfl)) (by first|omega| (simp only[List.length_set,zM];omega))) ?_
 refine zD 3<|zX (zI (orL [(qV x.n y.n),(qV x.l y.l)])) ⟨rfl,rfl⟩
theorem Bb{lo hi:Int}:dv zT 170 [zI n,zI lo,zI hi] ro (.bool (iH n lo hi)):=by
 refine zE<|zD 10<|jj 4 [(6,.bool false),(14,.bool ((decide (lo≤n))&&(decide (n≤hi))))] (fun gG=>?_) (fun hj=>?_)
 rotate_left
 refine js 10 (decide (lo≤n)) (fun h1=>?_) (fun h1=>?_)
 ·
  have fW:=h1
  replace fW:=of_decide_eq_true fW
  refine zD 4<|jw 14 (.bool ((decide (lo≤n))&&(decide (n≤hi)))) (w:= .bool (decide (n≤hi))) (by rw[h1]<;>rfl) ?_
  exact zK hj
 ·
  have fW:=h1
  replace fW:=of_decide_eq_false fW
  refine zD 4<|jw 14 (.bool ((decide (lo≤n))&&(decide (n≤hi)))) (w:= .bool false) (by rw[h1]<;>rfl) ?_
  exact zK hj
 refine zD 3<|zX (.bool ((decide (lo≤n))&&(decide (n≤hi)))) ⟨rfl,rfl⟩
theorem ayC{x:ai}(hx:BC x):dv zT 172 [.agg ⟨[zI x.n,zI x.l]⟩] ro (.bool true):=by
 obtain⟨⟨hx1,hx2⟩,hx3,hx4⟩:=hx
 refine zE<|zD 2<|jn fun b1=>jd 6 [0]<|jp (vs:=[zI x.n,zI 1,zI 40]) [] [] (fun aI hs hZ=>Bb)<|zD 1<|jj 4 [(2,.bool false),(10,.bool ((iH x.n 1 40)&&(iH x.l 0 4)))] (fun gG=>?_) (fun hj=>?_)
 rotate_left
 refine js 6 (iH x.n 1 40) (fun h1=>?_) (fun h1=>?_)
 ·
  refine jd 2 [0]<|jp (vs:=[zI x.l,zI 0,zI 4]) [] [] (fun aI hs hZ=>Bb)<|zD 1<|jw 10 (.bool ((iH x.n 1 40)&&(iH x.l 0 4))) (w:= .bool (iH x.l 0 4)) (by rw[h1]<;>rfl) ?_
  exact zK hj
 ·
  refine zD 4<|jw 10 (.bool ((iH x.n 1 40)&&(iH x.l 0 4))) (w:= .bool false) (by rw[h1]<;>rfl) ?_
  exact zK hj
 refine zD 3<|zX (.bool ((iH x.n 1 40)&&(iH x.l 0 4))) ⟨by simp only[iH,Value.bool.injEq,Bool.and_eq_true,decide_eq_true_eq];omega,rfl⟩
theorem ayI{v:Value}{S:List (List ai)}(hS:cX ro v S)(hO:eV S):dv zT 169 [.agg ⟨[v]⟩] ro (zI 0):=by
 obtain⟨ws,ht,di⟩:=hS
 obtain⟨eS,AI,AG,dW,rfl,AH,sA,sw⟩:=ht
 have hln:=di.len
 have JX:=hO.two
 refine zE<|zD 2<|jn fun b1=>jd 10 [0]<|zJ 10 ((ws.length:Int)=0) (fun h1=>?_) fun h1=>?_
 ·
  exfalso;omega
 refine jd 10 [0]<|zJ 14 ((ws.length:Int)>3) (fun h2=>?_) fun h2=>?_
 ·
  exfalso;omega
 refine jd 11 [0]<|dP [1,1,1,0,1,0,0] [] (fun(zz:Nat)=>[(16,.slice eS ws.length dW),(17,zI (ws.length:Int)),(18,zI (zz:Int))]) (fun zz=>[.b b1 (.cells ⟨[.slice eS ws.length dW]⟩ 27 (0,0))]) (fun zz=>zz≤ws.length) (fun zz=>ws.length-zz) 0 (by omega) [0] ?_
 rintro k hI K1 bH rest
 refine zD 5<|zJ 19 ((k:Int) <(ws.length:Int)) (fun h3=>?_) fun h3=>?_
 ·
  refine zD 6 ?_
  obtain⟨x20,NS⟩:=zG ws k
  refine ek dW 1 sA NS ?_
  obtain⟨l21,aw1,V1⟩:=di.get NS
  obtain bec:=hO.len _ (zL aw1)
  obtain aP0:=hO.ok _ (zL aw1)
  obtain aos:=hO.asc _ (zL aw1)
  obtain⟨aDe,bcd,bcb,am9,rfl,bcc,aDd,aDc⟩:=V1
  refine jl 0 (sw _ _ NS)<|zD 9<|zJ 24 ((l21.length:Int)>8) (fun h4=>?_) fun h4=>?_
  ·
   exfalso;omega
  refine zD 9<|dP [1,1,1,0,1,0,0,1,1,0,0,1,1,1,0,0] [K1] (fun(zz:Nat)=>[(4,.slice aDe l21.length am9),(16,.slice eS ws.length dW),(17,zI (ws.length:Int)),(18,zI (k:Int)),(25,.slice aDe l21.length am9),(26,zI (l21.length:Int)),(27,zI (zz:Int))]) (fun zz=>[.b b1 (.cells ⟨[.slice eS ws.length dW]⟩ 27 (0,0))]) (fun zz=>zz≤l21.length) (fun zz=>l21.length-zz) 0 (by omega) [0] ?_
  rintro i hJ K2 mr rest
  refine zD 5<|zJ 28 ((i:Int) <(l21.length:Int)) (fun h5=>?_) fun h5=>?_
  ·
   refine zD 7 ?_
   obtain⟨od,iW⟩:=zG l21 i
   refine ek am9 2 aDd iW<|jl 0 (aDc _ _ iW)<|jn fun b6=>jd 7 [0,0]<|jp (vs:=[.agg ⟨[zI od.n,zI od.l]⟩]) [] [] (fun aI hs hZ=>(ayC (x:=od) (aP0 _ (zL iW))))<|zD 9<|js 2 (decide ((i:Int)>0)) (fun h6=>?_) (fun h6=>?_)
   ·
    have h6g:=h6
    replace h6g:=of_decide_eq_true h6g
    refine zD 2<|ja ((i:Int)-1) (by omega) ?_
    obtain⟨x41,avY⟩:=zG l21 (((i:Int)-1).toNat)
    refine NI ((i:Int)-1) am9 2 aDd avY (by omega)<|jl 0 (aDc _ _ avY)<|jd 1 [0]<|jp (vs:=[.agg ⟨[zI x41.n,zI x41.l]⟩,.agg ⟨[zI od.n,zI od.l]⟩]) [] [] (fun aI hs hZ=>(ar7 (x:=x41) (y:=od)))<|zD 3<|zJ 46 ((aca x41 od)≥0) (fun h7=>?_) fun h7=>?_
    ·
     exfalso;have:=apz (p9 aos (show ((i:Int)-1).toNat <i by omega) avY iW);simp_all;omega
    refine zD 3<|ja ((i:Int)+1) (by omega)<|zD 2<|bI mr (i+1) (by omega) (by omega) [1] (Sub.refl _)
   have h6g:=h6
   replace h6g:=of_decide_eq_false h6g
   refine zD 13<|ja ((i:Int)+1) (by omega)<|zD 2<|bI mr (i+1) (by omega) (by omega) [1] (Sub.refl _)
  refine zD 3<|ja ((k:Int)+1) (by omega)<|zD 2<|bI bH (k+1) (by omega) (by omega) [0] (Sub.refl _)
 refine zD 7<|zX (zI 0) ⟨rfl,rfl⟩
abbrev oQ(x:an):Value:= .agg ⟨cM x⟩
instance:DecidableEq an:=fun x y=>match x,y with
 | ⟨a,b,c⟩,⟨d,e,f⟩=>if h:a=d∧b=e∧c=f then isTrue (by obtain⟨rfl,rfl,rfl⟩:=h;rfl) else isFalse fun k=>h (by cases k;exact⟨rfl,rfl,rfl⟩)
def mG(s:Int)(x:ai):an:=⟨s,x.n,x.l⟩
def Ro(S:List (List ai)):Nat→List an
 |0=>[]
 |k+1=>Ro S k++(match S[k]? with
  |some l=>l.map (mG k)
  |none=>[])
def bG(S:List (List ai)):List an:=Ro S S.length
theorem awe{S:List (List ai)}{l:List ai}(h:S[k]?=some l):Ro S (k+1)=Ro S k++l.map (mG k):=by simp only[Ro,h]
theorem Fq{S:List (List ai)}{x:an}:∀ {k:Nat},x∈Ro S k↔∃j l p,j <k∧S[j]?=some l∧p∈l∧x=mG j p
 |0=>by simp[Ro]
 |k+1=>by
  simp only[Ro,List.mem_append,Fq (k:=k)]
  constructor
  ·rintro(⟨j,l,p,h1,h2⟩|h)
   ·exact⟨j,l,p,by omega,h2⟩
   split at h
   ·rename_i l hl
    obtain⟨p,hp,rfl⟩:=List.mem_map.1 h
    exact⟨k,l,p,by omega,hl,hp,rfl⟩
   cases h
  rintro⟨j,l,p,h1,h2,h3,rfl⟩
  by_cases hj:j=k
  ·subst hj;rw[h2];exact .inr (List.mem_map_of_mem h3)
  exact .inl ⟨j,l,p,by omega,h2,h3,rfl⟩
theorem HE{S:List (List ai)}{j:Nat}{l:List ai}{p:ai}(h1:S[j]?=some l) (h2:p∈l):mG j p∈bG S:=Fq.2 ⟨j,l,p,(List.getElem?_eq_some_iff.1 h1).1,h1,h2,rfl⟩
theorem Vf{S:List (List ai)}(hO:eV S):∀k,(Ro S k).Nodup
 |0=>List.nodup_nil
 |k+1=>by
  simp only[Ro]
  refine List.nodup_append.2 ⟨Vf hO k,?_,fun x hx y hy e=>?_⟩
  ·split
   ·rename_i l hl
    refine List.pairwise_map.2 ((hO.asc l (zL hl)).imp fun {a b} h e=>?_)
    simp only[mG,an.mk.injEq] at e
    rcases h with h|h<;>omega
   exact List.nodup_nil
  subst e
  obtain⟨j,l,p,h1,_,_,rfl⟩:=Fq.1 hx
  split at hy
  ·obtain⟨q,_,hq⟩:=List.mem_map.1 hy
   simp only[mG,an.mk.injEq] at hq
   omega
  cases hy
theorem NU{S:List (List ai)}(hO:eV S):∀k,(Ro S k).length≤4*k
 |0=>by simp[Ro]
 |k+1=>by
  have:=NU hO k
  simp only[Ro,List.length_append]
  split
  ·rename_i l hl
   have:=hO.len l (zL hl)
   rw[List.length_map];omega
  simp;omega
theorem ur{S:List (List ai)}(hO:eV S):(bG S).length≤8:=by
 have:=NU hO S.length
 have:=hO.two
 unfold bG;omega
theorem aIp(a b:an):EqD zT 10000 158 (oQ a) (oQ b) (decide (a=b)):=by
 have h:=(uy (m8 Tryz.typeInfo158 Tryz.underlying158 rfl rfl rfl rfl rfl rfl) Tryz.stoodInHeld158 (.cons (by decide) (jY mz rfl) (jY mz rfl) (n6 mz _ _) (.cons (by decide) (GG (m8 Tryz.typeInfo79 Tryz.underlying79 rfl rfl rfl rfl rfl rfl) rfl) (GG (m8 Tryz.typeInfo79 Tryz.underlying79 rfl rfl rfl rfl rfl rfl) rfl) (aj5 _ _ _ _ 9997) .nil)):EqD zT 10000 158 (oQ a) (oQ b) _)
 have e:(a.h==b.h&&((a.n==b.n&&(a.l==b.l&&true))&&true))=decide (a=b):=by
  rcases a with ⟨x,y,z⟩;rcases b with ⟨u,v,w⟩
  rw[Bool.eq_iff_iff];simp
 rwa[e] at h
theorem aUF(a:an):CkD zT 10000 158 (oQ a):=
 SQ (m8 Tryz.typeInfo158 Tryz.underlying158 rfl rfl rfl rfl rfl rfl) (.cons (by decide) (jY mz rfl) (Iw mz _) (.cons (by decide) (GG (m8 Tryz.typeInfo79 Tryz.underlying79 rfl rfl rfl rfl rfl rfl) rfl) (SQ (dep:=9998) (m8 Tryz.typeInfo79 Tryz.underlying79 rfl rfl rfl rfl rfl rfl) (.cons (by decide) (jY mz rfl) (Iw mz _) (.cons (by decide) (jY mz rfl) (Iw mz _) .nil))) .nil))
theorem DJ:Tc zT 158 oQ:=agz (m8 Tryz.typeInfo158 Tryz.underlying158 rfl rfl rfl rfl rfl rfl) (fun k=>⟨_,rfl⟩) aUF aIp (fun k=>by simp[Instr.sameBits])
def MV(Z:Cells)(F:List (an×Value))(g:an→an):Prop:=∀aG,Knows aG Z→∀x∈F,bD aG x.2 3 cM [g x.1]
theorem H8[DecidableEq κ]{k:κ}:∀ {F:List (κ×Value)} {i:Nat},k∈F.map (·.1)→∃j v,sB k F i=some (j,v)
 | [],_,h=>by cases h
 |x::F,i,h=>by
  simp only[sB]
  split
  ·exact⟨_,_,rfl⟩
  rename_i hk
  refine H8 ?_
  rcases List.mem_cons.1 h with h|h
  ·exact absurd h hk
  exact h
theorem Yh[DecidableEq κ]{k:κ}{F:List (κ×Value)}(h:k∈F.map (·.1)):∃v,lkM k F=some v∧(k,v)∈F:=by
 obtain⟨j,v,h1⟩:=H8 (i:=0) h
 exact⟨v,by simp[lkM,h1],zL (qz h1).2⟩
theorem adJ[DecidableEq κ]{k:κ}{v:Value}{F:List (κ×Value)}(h:k∉F.map (·.1)):mg k v F=F++[(k,v)]:=by
 have:sB k F 0=none:=by
  cases hf:sB k F 0 with
  |none=>rfl
  |some y=>exact absurd (List.mem_map_of_mem (f:=(·.1)) (zL (qz (j:=y.1) (v:=y.2) hf).2)) h
 simp only[mg,this]
theorem PE[DecidableEq κ]{k:κ}{v:Value}{F:List (κ×Value)}(h:k∈F.map (·.1))(hn:(F.map (·.1)).Nodup):(mg k v F).map (·.1)=F.map (·.1)∧∀x∈mg k v F,x=(k,v)∨(x∈F∧x.1≠k):=by
 obtain⟨j,u,h1⟩:=H8 (i:=0) h
 have h2:=(qz h1).2
 rw[Nat.sub_zero] at h2
 obtain⟨hj,Ts⟩:=List.getElem?_eq_some_iff.1 h2
 simp only[mg,h1,Fa]
 refine⟨?_,fun x hx=>?_⟩
 ·rw[List.map_set]
  refine List.ext_getElem? fun i=>?_
  rw[List.getElem?_set]
  split
  ·rename_i hi;subst hi;simp[h2,hj,Ts]
  rfl
 obtain⟨i,hi⟩:=List.getElem?_of_mem hx
 rw[List.getElem?_set] at hi
 split at hi
 ·cases hi;exact .inl rfl
 rename_i BN
 refine .inr ⟨zL hi,fun e=>BN ?_⟩
 obtain⟨hi1,RP⟩:=List.getElem?_eq_some_iff.1 hi
 exact(List.getElem_inj (xs:=F.map (·.1)) (h₀:=by simpa using hj) (h₁:=by simpa using hi1) hn).1 (by simp[Ts,RP,e])
theorem MV.set{F:List (an×Value)}{g:an→an}(h:MV Z F g){k y:an}{v:Value}(hk:k∈F.map (·.1))(hn:(F.map (·.1)).Nodup)(hv:∀aG,Knows aG Z2→bD aG v 3 cM [y]):MV (Z++Z2) (mg k v F) (fun x=>if x=k then y else g x):=fun aG hr x hx=>by
 rcases(PE hk hn).2 x hx with rfl| ⟨h1,h2⟩
 ·simp only[if_true];exact hv aG hr.right
 simp only[h2,if_false];exact h aG hr.left x h1
theorem MV.add{F:List (an×Value)}{g:an→an}(h:MV Z F g){k:an}{v:Value}(hv:∀aG,Knows aG Z2→bD aG v 3 cM [g k]):MV (Z++Z2) (F++[(k,v)]) g:=fun aG hr x hx=>by
 rcases List.mem_append.1 hx with h1|h1
 ·exact h aG hr.left x h1
 rw[List.mem_singleton] at h1;subst h1;exact hv aG hr.right
theorem aIh{v:Value}(hl:bD ro v 1 cm xs)(hn:xs.length≤1000):dO zT 177 [v] ro [] (fun r Y=>ax r 1 3 cm xs Y):=by
 obtain⟨fA,rQ,rP,eP,rfl,tQ,lJ,mE⟩:=hl
 refine zE<|zD 8<|jsn 22 (a:=fA) (l:=xs.length) (c:=eP)<|zD 1<|js 4 (fA.isNone) (fun h1=>?_) (fun h1=>?_)
 ·
  refine zD 6<|zX (zS) (by rw[q8 lJ (by assumption)];exact ax.nil _ _ _)
 refine zD 4<|jn fun b5=>zD 1<|iC (sz:=1) (ps:=[]) (qs:=xs) (enc:=cm) (w:= .slice fA xs.length eP) [0] [] [] (bA (b:=b5) (T:=3)) (fun s he _=>⟨fA,rQ,rP,eP,rfl,lJ,fun i p hp=>(mE i p hp).ext he⟩) (fun p _=>aj rfl) (by simp<;>omega) (fun v7 L7 iD=>?_)
 rw[List.nil_append] at iD
 obtain⟨TR,TJ,R2⟩:=iD.form
 subst R2
 refine zD 3<|zR ((.slice TR (xs).length TJ)) [] [0] L7 iD
theorem aUg{v:Value}{xs:List ai}(hl:bD ro v 2 cL xs)(hn:xs.length≤1000):dO zT 211 [v] ro [] (fun r Y=>ax r 2 79 cL xs Y):=by
 obtain⟨fA,rQ,rP,eP,rfl,tQ,lJ,mE⟩:=hl
 refine zE<|zD 8<|jsn 80 (a:=fA) (l:=xs.length) (c:=eP)<|zD 1<|js 4 (fA.isNone) (fun h1=>?_) (fun h1=>?_)
 ·
  refine zD 6<|zX (zS) (by rw[q8 lJ (by assumption)];exact ax.nil _ _ _)
 refine zD 4<|jn fun b5=>zD 1<|iC (sz:=2) (ps:=[]) (qs:=xs) (enc:=cL) (w:= .slice fA xs.length eP) [0] [] [] (bA (b:=b5) (T:=79)) (fun s he _=>⟨fA,rQ,rP,eP,rfl,lJ,fun i p hp=>(mE i p hp).ext he⟩) (fun p _=>aj rfl) (by simp<;>omega) (fun v7 L7 iD=>?_)
 rw[List.nil_append] at iD
 obtain⟨TR,TJ,R2⟩:=iD.form
 subst R2
 refine zD 3<|zR ((.slice TR (xs).length TJ)) [] [0] L7 iD
theorem aUh{v:Value}{xs:List an}(hl:bD ro v 3 cM xs)(hn:xs.length≤1000):dO zT 128 [v] ro [] (fun r Y=>ax r 3 158 cM xs Y):=by
 obtain⟨fA,rQ,rP,eP,rfl,tQ,lJ,mE⟩:=hl
 refine zE<|zD 8<|jsn 154 (a:=fA) (l:=xs.length) (c:=eP)<|zD 1<|js 4 (fA.isNone) (fun h1=>?_) (fun h1=>?_)
 ·
  refine zD 6<|zX (zS) (by rw[q8 lJ (by assumption)];exact ax.nil _ _ _)
 refine zD 4<|jn fun b5=>zD 1<|iC (sz:=3) (ps:=[]) (qs:=xs) (enc:=cM) (w:= .slice fA xs.length eP) [0] [] [] (bA (b:=b5) (T:=158)) (fun s he _=>⟨fA,rQ,rP,eP,rfl,lJ,fun i p hp=>(mE i p hp).ext he⟩) (fun p _=>aj rfl) (by simp<;>omega) (fun v7 L7 iD=>?_)
 rw[List.nil_append] at iD
 obtain⟨TR,TJ,R2⟩:=iD.form
 subst R2
 refine zD 3<|zR ((.slice TR (xs).length TJ)) [] [0] L7 iD
theorem apg{v:Value}{S:List (List ai)}(hS:cX ro v S)(hO:eV S):dO zT 180 [.agg ⟨[v]⟩] ro [] (fun r Y=>∃a n c,r= .agg ⟨[.slice a n c]⟩∧∀aG,Knows aG Y→cX aG (.slice a n c) S):=by
 obtain⟨ws,ht,di⟩:=hS
 obtain⟨eS,AI,AG,dW,rfl,AH,sA,sw⟩:=ht
 have hln:=di.len
 have JX:=hO.two
 refine zE<|zD 2<|jn fun b1=>jn fun b2=>zD 4<|jn fun b3=>jd 11 [0,2]<|nY<|nY<|dP [1,1,0,1,0,0] [] (fun(zz:Nat×Value×Cells×(List Value)×Cells)=>[(2,zP b2),(3,zP b3),(8,.slice eS ws.length dW),(9,zI (ws.length:Int)),(10,zI (zz.1:Int))]) (fun zz=>[.b b3 (.cells ⟨[zz.2.1]⟩ 27 (0,0)),.l zz.2.2.1,.l zz.2.2.2.2,.b b2 (.cells ⟨[zS]⟩ 27 (0,0)),.b b1 (.cells ⟨[.slice eS ws.length dW]⟩ 27 (0,0))]) (fun zz=>(zz.1≤ws.length∧zz.2.2.2.1.length=zz.1)∧ax zz.2.1 1 80 fH zz.2.2.2.1 zz.2.2.1∧∀aG,Knows aG zz.2.2.2.2→de (fun w l=>bD aG w 2 cL l) zz.2.2.2.1 (S.take zz.1)) (fun zz=>ws.length-zz.1) (⟨0,zS,[],[],[]⟩) ⟨⟨by dsimp only;omega,rfl⟩,ax.nil _ _ _,fun _ _=> .nil⟩ [2,1,0,3,4] ?_
 rintro⟨k,vO,LO,es,Z⟩ hI K1 bH rest
 dsimp only at hI
 refine zD 5<|zJ 11 ((k:Int) <(ws.length:Int)) (fun h1=>?_) fun h1=>?_
 ·
  refine zD 6 ?_
  obtain⟨tF,ql⟩:=zG ws k
  refine ek dW 1 sA ql ?_
  obtain⟨l13,aGs,yo⟩:=di.get ql
  obtain aGg:=hO.len _ (zL aGs)
  obtain⟨aDJ,aOo,aOk,aDI,rfl,aOm,aOn,aOl⟩:=yo
  refine jl 0 (sw _ _ ql)<|jd 6 [0]<|aV 3 fun yA yI x6=>jc (vs:=[.slice aDJ l13.length aDI]) [] (aUg (show bD _ _ _ _ _ from ⟨aDJ,aOo,aOk,aDI,rfl,aOm,aOn,aOl⟩) (by first|omega| (simp only[List.length_set,zM];omega))) ?_
  rintro v17 L17 CH
  obtain⟨xT,xS,J3⟩:=CH.form
  subst J3
  refine eH x6 (zN 1 5)<|aV 4 fun pW pZ oU=>jn fun xN=>eH oU (zN 1 6)<|aV 5 fun rI rK qu=>iC (sz:=1) (ps:=es) (qs:=[((.slice xT (l13).length xS):Value)]) (enc:=fH) (w:= .slice (some ⟨xN,0,none⟩) 1 1) [3] [0] [(xN,.cells ⟨([((.slice xT (l13).length xS):Value)].map fH).flatten⟩ 80 (0,0))] (hI.2.1) (fun s _ hZ=>bK [((.slice xT (l13).length xS):Value)] (hZ _ (.head _)) (by intro p hp;rfl)) (by intro p hp;rw[List.mem_singleton] at hp;subst hp;exact aj rfl) (by simp<;>omega) (fun v19 L19 HC=>?_)
  obtain⟨atg,as4,axC⟩:=HC.form
  subst axC
  refine gM qu []<|zD 1<|aV 7 fun An Ay Ba=>jd 1 [3]<|gq Ba<|zD 2<|ja ((k:Int)+1) (by omega)<|zD 2<|LU bH (⟨k+1,(.slice atg ((es++[((.slice xT (l13).length xS):Value)])).length as4),L19,(es++[((.slice xT (l13).length xS):Value)]),L17++Z⟩) ⟨⟨by dsimp only;omega,by simp only[zM];omega⟩,HC,fun aG hk=>pU (hI.2.2 aG hk.right) aGs (CH.kg hk.left)⟩ (by dsimp only;omega) [[3],[0],[2,4],[5],[6]] (Sub.refl _)
 refine jd 5 [0] ?_
 obtain⟨va6,vc6,he6⟩:=hI.2.1.form
 subst he6
 refine jd 3 [3]<|zR (.agg ⟨[(.slice va6 (es).length vc6)]⟩) [3] [1,2] (LO++Z) ⟨_,_,_,rfl,fun aG hk=>⟨es,hI.2.1.kg hk.left,by have:=hI.2.2 aG hk.right;rwa[List.take_of_length_le (by omega)] at this⟩⟩
theorem Zf{v:Value}{S:List (List ai)}(hS:cX ro v S)(hO:eV S):dO zT 171 [.agg ⟨[v]⟩] ro [] (fun r Y=>ax r 3 158 cM (bG S) Y):=by
 obtain⟨ws,ht,di⟩:=hS
 obtain⟨eS,AI,AG,dW,rfl,AH,sA,sw⟩:=ht
 have hln:=di.len
 have JX:=hO.two
 refine zE<|zD 2<|jn fun b1=>jd 15 [0]<|nY<|dP [1,1,0,1,0,0] [] (fun(zz:Nat×Value×Cells)=>[(2,zS),(3,zz.2.1),(9,.slice eS ws.length dW),(10,zI (ws.length:Int)),(11,zI (zz.1:Int))]) (fun zz=>[.l zz.2.2,.b b1 (.cells ⟨[.slice eS ws.length dW]⟩ 27 (0,0))]) (fun zz=>zz.1≤ws.length∧ax zz.2.1 3 158 cM (Ro S zz.1) zz.2.2) (fun zz=>ws.length-zz.1) (⟨0,zS,[]⟩) ⟨by dsimp only;omega,ax.nil _ _ _⟩ [0,1] ?_
 rintro⟨k,vO,LO⟩ hI K1 bH rest
 dsimp only at hI
 refine zD 5<|zJ 12 ((k:Int) <(ws.length:Int)) (fun h1=>?_) fun h1=>?_
 ·
  refine zD 7 ?_
  obtain⟨fJ,eI⟩:=zG ws k
  refine ek dW 1 sA eI ?_
  obtain⟨Q6,abF,HZ⟩:=di.get eI
  obtain aRh:=hO.len _ (zL abF)
  obtain⟨auw,aOj,aOh,ae2,rfl,aOi,auv,auu⟩:=HZ
  refine jl 0 (sw _ _ eI)<|zD 10<|dP [1,1,0,1,0,0,1,1,0,0,1,1,0,0] [K1] (fun(zz:Nat×Value×Cells)=>[(2,zS),(3,zz.2.1),(4,zI (k:Int)),(9,.slice eS ws.length dW),(10,zI (ws.length:Int)),(11,zI (k:Int)),(16,.slice auw Q6.length ae2),(17,zI (Q6.length:Int)),(18,zI (zz.1:Int))]) (fun zz=>[.l zz.2.2,.b b1 (.cells ⟨[.slice eS ws.length dW]⟩ 27 (0,0))]) (fun zz=>zz.1≤Q6.length∧ax zz.2.1 3 158 cM (Ro S k++(Q6.take zz.1).map (mG k)) zz.2.2) (fun zz=>Q6.length-zz.1) (⟨0,vO,LO⟩) ⟨by dsimp only;omega,by simpa using hI.2⟩ [0,1] ?_
  rintro⟨i,vO,LO⟩ hJ K2 mr rest
  dsimp only at hJ
  refine zD 5<|zJ 19 ((i:Int) <(Q6.length:Int)) (fun h2=>?_) fun h2=>?_
  ·
   refine zD 6 ?_
   obtain⟨x20,NS⟩:=zG Q6 i
   refine ek ae2 2 auv NS<|jl 0 (auu _ _ NS)<|jn fun b7=>jd 7 [0,0]<|jn fun b26=>iC (sz:=3) (ps:=(Ro S k++(Q6.take i).map (mG k))) (qs:=[(⟨(k:Int),x20.n,x20.l⟩:an)]) (enc:=cM) (w:= .slice (some ⟨b26,0,none⟩) 1 1) [2] [0] [(b26,.cells ⟨([(⟨(k:Int),x20.n,x20.l⟩:an)].map cM).flatten⟩ 158 (0,0))] (hJ.2) (fun s _ hZ=>bK [(⟨(k:Int),x20.n,x20.l⟩:an)] (hZ _ (.head _)) (by intro p hp;rfl)) (fun p _=>aj rfl) (by have:=NU hO k;simp only[List.length_append,List.length_map,List.length_take,List.length_cons,List.length_nil];omega) (fun v27 L27 ahM=>?_)
   obtain⟨aMC,aMj,aR3⟩:=ahM.form
   subst aR3
   refine zD 3<|ja ((i:Int)+1) (by omega)<|zD 2<|bI mr (⟨i+1,(.slice aMC (((Ro S k++(Q6.take i).map (mG k))++[(⟨(k:Int),x20.n,x20.l⟩:an)])).length aMj),L27⟩) ⟨by dsimp only;omega,by rw[dF NS,List.map_append,←List.append_assoc];exact ahM⟩ (by dsimp only;omega) [0,3] (Sub.refl _)
  refine zD 3<|ja ((k:Int)+1) (by omega)<|zD 2<|bI bH (⟨k+1,vO,LO⟩) ⟨by dsimp only;omega,by rw[awe abF];have:=hJ.2;rwa[List.take_of_length_le (by omega)] at this⟩ (by dsimp only;omega) [0,1] (Sub.refl _)
 refine zD 8<|zR (vO) [] [0] LO (by have:=hI.2;rwa[show k=S.length by omega] at this)
theorem T1{l:List α}{x:α}(hn:l.Nodup)(h:l[k]?=some x):x∉l.take k:=fun hx=>by
 obtain⟨hk,he⟩:=List.getElem?_eq_some_iff.1 h
 obtain⟨i,hi⟩:=List.getElem?_of_mem hx
 have hik:i <k:=by have:=(List.getElem?_eq_some_iff.1 hi).1;rw[List.length_take] at this;omega
 rw[List.getElem?_take_of_lt hik] at hi
 obtain⟨hi1,RP⟩:=List.getElem?_eq_some_iff.1 hi
 have:=(List.getElem_inj (h₀:=hi1) (h₁:=hk) hn).1 (RP.trans he.symm)
 omega
def xX(n:Int):Bool:= !decide (Int.tmod n 2=0)
def ES(n:Int):Bool:=decide (Int.tmod n 2=0)
theorem rq{p:α→Bool}{l:List α}{x:α}(h:l[i]?=some x):(l.take (i+1)).filter p=(l.take i).filter p++bif p x then [x] else []:=by
 rw[dF h,List.filter_append]
 cases hp:p x<;>simp[hp]
def rj(l:List ai):List (List ai):=[l.filter fun x=>xX x.n,l.filter fun x=>ES x.n]
theorem aiE{l h:List ai}{x:ai}(hh:h∈rj l)(hx:x∈h):x∈l:=by
 simp only[rj,List.mem_cons,List.not_mem_nil,or_false] at hh
 rcases hh with rfl|rfl<;>exact(List.mem_filter.1 hx).1
theorem aiF{l h:List ai}(hh:h∈rj l):h.length≤l.length:=by
 simp only[rj,List.mem_cons,List.not_mem_nil,or_false] at hh
 rcases hh with rfl|rfl<;>exact List.length_filter_le _ _
def Jy(s:Int)(h:List ai):List (an×an):=(h.zip h.reverse).map fun p=>(mG s p.1,mG s p.2)
def adK(s:Int)(l:List ai):List (an×an):=(rj l).flatMap (Jy s)
def Kv(s:Int)(l:List ai):List (an×an):=l.map fun x=>(mG s x,⟨s,if xX x.n=true then x.n+1 else x.n-1,x.l⟩)
def rO(l:List ai):Int:=match l[l.length-1]? with
 |some y=>y.n+Int.tmod y.n 2
 |none=>0
def LQ(s o:Int)(l:List ai)(r:Int):List (an×an):=l.map fun x=>(mG s x,⟨o,x.n+r,x.l⟩)
def gU(u:List (an×an))(x:an):an:=u.foldl (fun y p=>if x=p.1 then p.2 else y) x
theorem apd(u:List (an×an))(a b:an):gU (u++[(a,b)])=fun x=>if x=a then b else gU u x:=by
 funext x;simp only[gU,List.foldl_append,List.foldl_cons,List.foldl_nil]
theorem amP{s:Int}{h:List ai}{x y:ai}(hx:h[i]?=some x) (hy:h[(((h.length:Int)-1)-(i:Int)).toNat]?=some y):(Jy s h)[i]?=some (mG s x,mG s y):=by
 have hi:=(List.getElem?_eq_some_iff.1 hx).1
 have h2:h.reverse[i]?=some y:=by rw[List.getElem?_reverse hi,←hy];congr 1;omega
 have:=(List.getElem?_zip_eq_some (z:=(x,y))).2 ⟨hx,h2⟩
 simp only[Jy,List.getElem?_map,this];rfl
theorem aer(s:Int)(h:List ai):(Jy s h).length=h.length:=by simp[Jy]
theorem af3{β:Type}{f:α→β}{l:List α}{x:α}(h:l[i]?=some x):(l.map f)[i]?=some (f x):=by rw[List.getElem?_map,h];rfl
theorem apk{β:Type}{f:α→List β}{l:List α}{x:α}(h:l[i]?=some x):(l.take (i+1)).flatMap f=(l.take i).flatMap f++f x:=by rw[dF h,List.flatMap_append,List.flatMap_singleton]
theorem MV.upd{S:List (List ai)}(hO:eV S){F:List (an×Value)}{u:List (an×an)}{l:List ai}{x:ai}{y:an}{b:Nat}{T:TypeId}(h:MV Z F (gU u))(hk:F.map (·.1)=bG S)(hl:S[s]?=some l) (hx:x∈l):
 MV (Z++[(b,.cells ⟨cM y⟩ T (0,0))]) (mg (mG s x) (.slice (some ⟨b,0,none⟩) 1 1) F) (gU (u++[(mG s x,y)]))∧(mg (mG s x) (.slice (some ⟨b,0,none⟩) 1 1) F).map (·.1)=bG S:=by
 have hm:mG s x∈F.map (·.1):=by rw[hk];exact HE hl hx
 have hn:(F.map (·.1)).Nodup:=by rw[hk];exact Vf hO _
 rw[apd]
 exact⟨h.set hm hn fun aG hk=>bU [y] (hk _ (.head _)) (fun _ _=>rfl),(PE hm hn).1.trans hk⟩
theorem P5{S:List (List ai)}(hO:eV S){F:List (an×Value)}{x:an}{b:Nat}{T:TypeId}(h:MV Z F id)(hk:F.map (·.1)=(bG S).take k)(hx:(bG S)[k]?=some x):
 MV (Z++[(b,.cells ⟨cM x⟩ T (0,0))]) (mg x (.slice (some ⟨b,0,none⟩) 1 1) F) id∧(mg x (.slice (some ⟨b,0,none⟩) 1 1) F).map (·.1)=(bG S).take (k+1):=by
 have:x∉F.map (·.1):=by rw[hk];exact T1 (Vf hO _) hx
 rw[adJ this]
 exact⟨h.add fun aG hk=>bU [x] (hk _ (.head _)) (fun _ _=>rfl),by rw[List.map_append,hk,dF hx];rfl⟩
theorem Ml{v:Value}{S:List (List ai)}(hS:cX ro v S)(hO:eV S):dO zT 181 [.agg ⟨[v]⟩] ro [] (fun r Y=>∃rm F LM Z,r= .map (some rm)∧Y=LM++Z∧jQ rm oQ F LM∧F.map (·.1)=bG S∧MV Z F id):=by
 have ym:=hS
 obtain⟨ws,ht,di⟩:=hS
 obtain⟨eS,AI,AG,dW,rfl,AH,sA,sw⟩:=ht
 have hln:=di.len
 have JX:=hO.two
 have hhl:=ur hO
 refine zE<|zD 2<|jn fun b1=>zD 4<|jmk oQ fun r6 L6 hm6=>jd 6 [1]<|jc (vs:=[.agg ⟨[.slice eS ws.length dW]⟩]) [] (Zf ym hO) ?_
 rintro v8 L8 ho8
 refine DL ho8<|zD 1<|jf [0] L8 (fun z0 bZ iQ=>?_)
 have hzh:=ho8.kg iQ
 obtain⟨aNo,bbo,bbm,aCu,rfl,bbn,aNn,aNm⟩:=hzh
 refine zD 2<|nY<|dP [1,1,0,1,0,0] [] (fun(zz:Nat×(List (an×Value))×Cells×Cells)=>[(2,(.map none)),(3,(.map (some r6))),(8,.slice aNo ((bG S).length) aCu),(9,zI ((bG S).length:Int)),(10,zI (zz.1:Int))]) (fun(zz:Nat×(List (an×Value))×Cells×Cells)=>[.l zz.2.2.1,.l zz.2.2.2,.b b1 (.cells ⟨[.slice eS ws.length dW]⟩ 27 (0,0))]) (fun(zz:Nat×(List (an×Value))×Cells×Cells)=>zz.1≤(bG S).length∧jQ r6 oQ zz.2.1 zz.2.2.1∧zz.2.1.map (·.1)=(bG S).take zz.1∧MV zz.2.2.2 zz.2.1 id) (fun(zz:Nat×(List (an×Value))×Cells×Cells)=>(bG S).length-zz.1) (⟨0,[],L6,[]⟩) ⟨by dsimp only;omega,hm6,rfl,fun _ _ _ h=>(by cases h)⟩ [1,0,2] ?_
 rintro⟨k,F,LM,Z⟩ hI K1 bH rest
 dsimp only at hI
 refine zD 5<|zJ 11 ((k:Int) <((bG S).length:Int)) (fun h4=>?_) fun h4=>?_
 ·
  refine zD 6 ?_
  obtain⟨tF,ql⟩:=zG ((bG S)) k
  refine ek aCu 3 aNn ql<|jl 0 (aNm _ _ ql)<|jn fun b5=>jd 6 [0,0,0]<|jn fun b17=>jmu (kv:=oQ) (F:=F) (r:=r6) (K:=158) 2 tF (.slice (some ⟨b17,0,none⟩) 1 1) DJ hI.2.1 fun Lm5 hm5=>zD 2<|ja ((k:Int)+1) (by omega)<|zD 2<|LU bH (⟨k+1,_,Lm5,Z++[(b17,.cells ⟨[zI tF.h,zI tF.n,zI tF.l]⟩ 158 (0,0))]⟩) ⟨by dsimp only;omega,hm5,(P5 (T:=158) hO hI.2.2.2 hI.2.2.1 ql).2,(P5 (T:=158) hO hI.2.2.2 hI.2.2.1 ql).1⟩ (by dsimp only;omega) [[0],[3,1],[4]] (Sub.refl _)
 refine zD 8<|aL q0.a ((.map (some r6))) [] [0,1] (LM++Z) bZ ⟨_,_,rfl,rfl,_,F,LM,Z,rfl,rfl,hI.2.1,by rw[hI.2.2.1,List.take_of_length_le (by omega)],hI.2.2.2⟩
theorem gAt{h l:Int}:dv zT 254 [zI h,zI n,zI l] ro (.agg ⟨[zI h,zI n,zI l]⟩):=by
 refine zE<|zD 2<|jn fun b6=>jd 11 [0]<|zR (.agg ⟨[zI h,zI n,zI l]⟩) [0] [] [] ⟨rfl,rfl⟩
theorem aH4{x:ai}:dv zT 252 [.agg ⟨[zI x.n,zI x.l]⟩] ro (.bool (xX x.n)):=by
 refine zE<|zD 2<|jn fun b1=>jd 11 [0]<|zX (.bool (!decide ((Int.tmod x.n 2)=0))) ⟨rfl,rfl⟩
theorem ajC{v:Value}{l:List ai}(hl:bD ro v 2 cL l)(hn:l.length≤4):dO zT 251 [v,.func (.func 252) ⟨[]⟩ ⟨[]⟩] ro [] (fun r Y=>ax r 2 79 cL (l.filter fun x=>xX x.n) Y):=by
 obtain⟨fA,rQ,rP,eP,rfl,tQ,lJ,mE⟩:=hl
 refine zE<|zD 16<|nY<|dP [1,1,0,1,0,0] [] (fun(zz:Nat×Value×Cells)=>[(1,.func (.func 252) ⟨[]⟩ ⟨[]⟩),(4,zS),(5,zz.2.1),(8,.slice fA l.length eP),(9,zI (l.length:Int)),(10,zI (zz.1:Int))]) (fun zz=>[.l zz.2.2]) (fun zz=>zz.1≤l.length∧ax zz.2.1 2 79 cL ((l.take zz.1).filter fun x=>xX x.n) zz.2.2) (fun zz=>l.length-zz.1) (⟨0,zS,[]⟩) ⟨by dsimp only;omega,ax.nil _ _ _⟩ [0] ?_
 rintro⟨k,vO,LO⟩ hI K1 bH rest
 dsimp only at hI
 refine zD 5<|zJ 11 ((k:Int) <(l.length:Int)) (fun h1=>?_) fun h1=>?_
 ·
  refine zD 6 ?_
  obtain⟨tF,ql⟩:=zG l k
  refine ek eP 2 lJ ql<|jl 0 (mE _ _ ql)<|jn fun b7=>jd 6 [0,0]<|jp (vs:=[.agg ⟨[zI tF.n,zI tF.l]⟩]) [] [] (fun aI hs hZ=>(aH4 (x:=tF)))<|zD 1<|js 16 (xX tF.n) (fun h2=>?_) (fun h2=>?_)
  ·
   refine jd 4 [0]<|jn fun IT=>iC (sz:=2) (ps:=((l.take k).filter fun x=>xX x.n)) (qs:=[(⟨tF.n,tF.l⟩:ai)]) (enc:=cL) (w:= .slice (some ⟨IT,0,none⟩) 1 1) [2] [0] [(IT,.cells ⟨([(⟨tF.n,tF.l⟩:ai)].map cL).flatten⟩ 79 (0,0))] (hI.2) (fun s _ hZ=>bK [(⟨tF.n,tF.l⟩:ai)] (hZ _ (.head _)) (by intro p hp;rfl)) (fun p _=>aj rfl) (by have:=List.length_filter_le (fun x:ai=>xX x.n) (l.take k);rw[List.length_take] at this;simp only[List.length_cons,List.length_nil];omega) (fun v20 L20 HB=>?_)
   obtain⟨atf,as3,axB⟩:=HB.form
   subst axB
   refine zD 3<|ja ((k:Int)+1) (by omega)<|zD 2<|bI bH (⟨k+1,(.slice atf ((((l.take k).filter fun x=>xX x.n)++[(⟨tF.n,tF.l⟩:ai)])).length as3),L20⟩) ⟨by dsimp only;omega,by rw[rq ql,show xX tF.n=true from (by assumption)];exact HB⟩ (by dsimp only;omega) [0] (Sub.refl _)
  refine zD 3<|ja ((k:Int)+1) (by omega)<|zD 2<|bI bH (⟨k+1,vO,LO⟩) ⟨by dsimp only;omega,by rw[rq ql,show xX tF.n=false from (by assumption)];simpa using hI.2⟩ (by dsimp only;omega) [1] (Sub.refl _)
 refine zD 8<|zR (vO) [] [0] LO (by have:=hI.2;rwa[List.take_of_length_le (by omega)] at this)
theorem aIb{x:ai}:dv zT 253 [.agg ⟨[zI x.n,zI x.l]⟩] ro (.bool (ES x.n)):=by
 refine zE<|zD 2<|jn fun b1=>jd 11 [0]<|zX (.bool (decide ((Int.tmod x.n 2)=0))) ⟨rfl,rfl⟩
theorem ajB{v:Value}{l:List ai}(hl:bD ro v 2 cL l)(hn:l.length≤4):dO zT 251 [v,.func (.func 253) ⟨[]⟩ ⟨[]⟩] ro [] (fun r Y=>ax r 2 79 cL (l.filter fun x=>ES x.n) Y):=by
 obtain⟨fA,rQ,rP,eP,rfl,tQ,lJ,mE⟩:=hl
 refine zE<|zD 16<|nY<|dP [1,1,0,1,0,0] [] (fun(zz:Nat×Value×Cells)=>[(1,.func (.func 253) ⟨[]⟩ ⟨[]⟩),(4,zS),(5,zz.2.1),(8,.slice fA l.length eP),(9,zI (l.length:Int)),(10,zI (zz.1:Int))]) (fun zz=>[.l zz.2.2]) (fun zz=>zz.1≤l.length∧ax zz.2.1 2 79 cL ((l.take zz.1).filter fun x=>ES x.n) zz.2.2) (fun zz=>l.length-zz.1) (⟨0,zS,[]⟩) ⟨by dsimp only;omega,ax.nil _ _ _⟩ [0] ?_
 rintro⟨k,vO,LO⟩ hI K1 bH rest
 dsimp only at hI
 refine zD 5<|zJ 11 ((k:Int) <(l.length:Int)) (fun h1=>?_) fun h1=>?_
 ·
  refine zD 6 ?_
  obtain⟨tF,ql⟩:=zG l k
  refine ek eP 2 lJ ql<|jl 0 (mE _ _ ql)<|jn fun b7=>jd 6 [0,0]<|jp (vs:=[.agg ⟨[zI tF.n,zI tF.l]⟩]) [] [] (fun aI hs hZ=>(aIb (x:=tF)))<|zD 1<|js 16 (ES tF.n) (fun h2=>?_) (fun h2=>?_)
  ·
   refine jd 4 [0]<|jn fun IT=>iC (sz:=2) (ps:=((l.take k).filter fun x=>ES x.n)) (qs:=[(⟨tF.n,tF.l⟩:ai)]) (enc:=cL) (w:= .slice (some ⟨IT,0,none⟩) 1 1) [2] [0] [(IT,.cells ⟨([(⟨tF.n,tF.l⟩:ai)].map cL).flatten⟩ 79 (0,0))] (hI.2) (fun s _ hZ=>bK [(⟨tF.n,tF.l⟩:ai)] (hZ _ (.head _)) (by intro p hp;rfl)) (fun p _=>aj rfl) (by have:=List.length_filter_le (fun x:ai=>ES x.n) (l.take k);rw[List.length_take] at this;simp only[List.length_cons,List.length_nil];omega) (fun v20 L20 HB=>?_)
   obtain⟨atf,as3,axB⟩:=HB.form
   subst axB
   refine zD 3<|ja ((k:Int)+1) (by omega)<|zD 2<|bI bH (⟨k+1,(.slice atf ((((l.take k).filter fun x=>ES x.n)++[(⟨tF.n,tF.l⟩:ai)])).length as3),L20⟩) ⟨by dsimp only;omega,by rw[rq ql,show ES tF.n=true from (by assumption)];exact HB⟩ (by dsimp only;omega) [0] (Sub.refl _)
  refine zD 3<|ja ((k:Int)+1) (by omega)<|zD 2<|bI bH (⟨k+1,vO,LO⟩) ⟨by dsimp only;omega,by rw[rq ql,show ES tF.n=false from (by assumption)];simpa using hI.2⟩ (by dsimp only;omega) [1] (Sub.refl _)
 refine zD 8<|zR (vO) [] [0] LO (by have:=hI.2;rwa[List.take_of_length_le (by omega)] at this)
theorem Zd{v:Value}{S:List (List ai)}{l:List ai}{c2 c3 c4:Int}{F:List (an×Value)}(hS:cX ro v S)(hO:eV S)(hl:S[s]?=some l) (hm:jQ rm oQ F LM) (hk:F.map (·.1)=bG S) (hM:MV Z F id):dO zT 230 [.agg ⟨[v]⟩,.agg ⟨[zI ck,zI (s:Int),zI c2,zI c3,zI c4,zI c5,zI c6]⟩,(.map (some rm))] ro (LM++Z) (fun r Y=>∃F' L' Z',r= zI 0∧Y=L'++Z'∧jQ rm oQ F' L'∧F'.map (·.1)=bG S∧MV Z' F' (gU (adK (s:Int) l))):=by
 obtain⟨ws,ht,di⟩:=hS
 obtain⟨eS,AI,AG,dW,rfl,AH,sA,sw⟩:=ht
 have hln:=di.len
 have JX:=hO.two
 have LZ:=(List.getElem?_eq_some_iff.1 hl).1
 have hlm:=zL hl
 have hll:=hO.len _ hlm
 refine zC [.l LM,.l Z]<|zD 2<|jn fun b3=>jn fun b4=>zD 4<|Jc [1,0,1] [] (fun(zz:Nat×Value×Value×Cells×Cells)=>[(2,(.map (some rm))),(4,zP b4),(6,zI 0),(25,.slice (some ⟨zz.1,0,none⟩) 2 2),(26,zI 2),(27,zI 0)]) (fun zz=>[.b zz.1 (.cells ⟨[zz.2.1,zz.2.2.1]⟩ 80 (0,0)),.l zz.2.2.2.1,.l zz.2.2.2.2,.l LM,.l Z,.b b4 (.cells ⟨[zI ck,zI (s:Int),zI c2,zI c3,zI c4,zI c5,zI c6]⟩ 83 (0,0)),.b b3 (.cells ⟨[.slice eS ws.length dW]⟩ 27 (0,0))]) (fun zz=>ax zz.2.1 2 79 cL (l.filter fun x=>xX x.n) zz.2.2.2.1∧ax zz.2.2.1 2 79 cL (l.filter fun x=>ES x.n) zz.2.2.2.2) ?_ (fun K1 bH=>?_)
 ·
  rintro⟨n8,v1,v2,L1,L2⟩ hC rest
  dsimp only at hC
  refine jf [0,1,2] ((n8,.cells ⟨[v1,v2]⟩ 80 (0,0))::(L1++L2)) (fun z0 bZ iQ=>?_)
  have hhv:=bU (enc:=fH) (T:=80) [v1,v2] (iQ _ (.head _)) (fun _ _=>rfl)
  have aGD:de (fun w l=>bD z0 w 2 cL l) [v1,v2] (rj l):= .cons (hC.1.kg (Knows.left (Knows.tail iQ))) (.cons (hC.2.kg (Knows.right (Knows.tail iQ))) .nil)
  have hvl: [v1,v2].length=2:=rfl
  obtain⟨qga,qgb,qgo,qgc,RS,qgk,qgh,qgl⟩:=hhv
  simp only[Value.slice.injEq] at RS
  obtain⟨rfl,_,rfl⟩:=RS
  refine zD 1<|dP [1,0,1,0,0] [] (fun(zz:Nat×(List (an×Value))×Cells×Cells)=>[(2,(.map (some rm))),(4,zP b4),(6,zI 0),(25,.slice (some ⟨n8,0,none⟩) 2 2),(26,zI 2),(27,zI (zz.1:Int))]) (fun(zz:Nat×(List (an×Value))×Cells×Cells)=>[.l zz.2.2.1,.l zz.2.2.2,.b b4 (.cells ⟨[zI ck,zI (s:Int),zI c2,zI c3,zI c4,zI c5,zI c6]⟩ 83 (0,0)),.b b3 (.cells ⟨[.slice eS ws.length dW]⟩ 27 (0,0))]) (fun(zz:Nat×(List (an×Value))×Cells×Cells)=>zz.1≤2∧jQ rm oQ zz.2.1 zz.2.2.1∧zz.2.1.map (·.1)=bG S∧MV zz.2.2.2 zz.2.1 (gU (((rj l).take zz.1).flatMap (Jy (s:Int))))) (fun(zz:Nat×(List (an×Value))×Cells×Cells)=>2-zz.1) (⟨0,F,LM,Z⟩) ⟨by dsimp only;omega,hm,hk,hM⟩ (zN 0 4) ?_
  rintro⟨k,F,LM,Z⟩ hI K2 mr rest
  dsimp only at hI
  refine zD 5<|zJ 28 ((k:Int) <2) (fun h4=>?_) fun h4=>?_
  ·
   refine zD 6 ?_
   obtain⟨Ed,A0⟩:=zG ([v1,v2]) k
   refine ek 2 1 qgh A0 ?_
   obtain⟨UW,aw0,N9⟩:=aGD.get A0
   obtain aGd:UW.length≤4:=by have:=aiF (zL aw0);omega
   obtain⟨aC2,bb4,bb0,am6,rfl,bb3,aC1,aC0⟩:=N9
   refine jl 0 (qgl _ _ A0)<|zD 9<|dP [1,0,1,0,0,1,1,0,0,1,1,0,0] [K2] (fun(zz:Nat×(List (an×Value))×Cells×Cells)=>[(2,(.map (some rm))),(4,zP b4),(6,zI 0),(8,.slice aC2 UW.length am6),(25,.slice (some ⟨n8,0,none⟩) 2 2),(26,zI 2),(27,zI (k:Int)),(31,.slice aC2 UW.length am6),(32,zI (UW.length:Int)),(33,zI (zz.1:Int))]) (fun(zz:Nat×(List (an×Value))×Cells×Cells)=>[.l zz.2.2.1,.l zz.2.2.2,.b b4 (.cells ⟨[zI ck,zI (s:Int),zI c2,zI c3,zI c4,zI c5,zI c6]⟩ 83 (0,0)),.b b3 (.cells ⟨[.slice eS ws.length dW]⟩ 27 (0,0))]) (fun(zz:Nat×(List (an×Value))×Cells×Cells)=>zz.1≤UW.length∧jQ rm oQ zz.2.1 zz.2.2.1∧zz.2.1.map (·.1)=bG S∧MV zz.2.2.2 zz.2.1 (gU (((rj l).take k).flatMap (Jy (s:Int))++(Jy (s:Int) UW).take zz.1))) (fun(zz:Nat×(List (an×Value))×Cells×Cells)=>UW.length-zz.1) (⟨0,F,LM,Z⟩) ⟨by dsimp only;omega,hI.2.1,hI.2.2.1,by simpa using hI.2.2.2⟩ (zN 0 4) ?_
   rintro⟨i,F,LM,Z⟩ hJ K3 hK3 rest
   dsimp only at hJ
   refine zD 5<|zJ 34 ((i:Int) <(UW.length:Int)) (fun h5=>?_) fun h5=>?_
   ·
    refine zD 7 ?_
    obtain⟨x36,y6⟩:=zG UW i
    refine ek am6 2 aC1 y6<|jl 0 (aC0 _ _ y6)<|jn fun sC=>jd 14 [0,3,0,3]<|ja ((UW.length:Int)-1) (by omega)<|zD 1<|ja (((UW.length:Int)-1)-(i:Int)) (by omega) ?_
    obtain⟨x51,EB⟩:=zG UW (((((UW.length:Int)-1)-(i:Int))).toNat)
    refine NI (((UW.length:Int)-1)-(i:Int)) am6 2 aC1 EB (by omega)<|jl 0 (aC0 _ _ EB)<|zD 1<|aV 16 fun rI rK qu=>jn fun b54=>eH qu (zN 1 5)<|aV 17 fun An Ay Ba=>jmu (kv:=oQ) (F:=F) (r:=rm) (K:=158) 2 (mG (s:Int) x36) (.slice (some ⟨b54,0,none⟩) 1 1) DJ hJ.2.1 fun Lm8 hm8=>gq Ba<|zD 2<|ja ((i:Int)+1) (by omega)<|zD 2 ?_
    have hup:=MV.upd (T:=158) (b:=b54) (y:=mG s x51) hO hJ.2.2.2 hJ.2.2.1 hl (aiE (zL aw0) (zL y6))
    exact LU hK3 (⟨i+1,_,Lm8,Z++[(b54,.cells ⟨[zI (s:Int),zI x51.n,zI x51.l]⟩ 158 (0,0))]⟩) ⟨by dsimp only;omega,hm8,hup.2,by rw[dF (amP y6 EB),←List.append_assoc];exact hup.1⟩ (by dsimp only;omega) [[0],[3,1],[4],[5]] (Sub.refl _)
   refine zD 3<|ja ((k:Int)+1) (by omega)<|zD 2<|bI mr (⟨k+1,F,LM,Z⟩) ⟨by dsimp only;omega,hJ.2.1,hJ.2.2.1,by have:=hJ.2.2.2;rw[List.take_of_length_le (l:=Jy (s:Int) UW) (by rw[aer];omega)] at this;rw[apk aw0];exact this⟩ (by dsimp only;omega) (zN 0 4) (Sub.refl _)
  refine zD 7<|aL q0.a (zI 0) [] [0,1] (LM++Z) bZ ⟨_,_,rfl,rfl,F,LM,Z,rfl,rfl,hI.2.1,hI.2.2.1,by have:=hI.2.2.2;rwa[show k=2 by omega] at this⟩
 refine jd 5 [1,0] ?_
 obtain⟨As,ahd⟩:=zG ws s
 refine ek dW 1 sA ahd ?_
 obtain⟨l16,aGq,Ob⟩:=di.get ahd
 obtain bee:=hO.len _ (zL aGq)
 obtain aiu:l16=l:=Option.some.inj (aGq.symm.trans hl)
 obtain⟨aDr,aOg,aOc,aDq,rfl,aOe,aOf,aOd⟩:=Ob
 refine jl 0 (sw _ _ ahd)<|jd 4 [1,0] ?_
 obtain⟨su,uh⟩:=zG ws s
 refine ek dW 1 sA uh ?_
 obtain⟨l23,aGp,Ai⟩:=di.get uh
 obtain beb:=hO.len _ (zL aGp)
 obtain axA:l23=l:=Option.some.inj (aGp.symm.trans hl)
 obtain⟨aDb,aN4,aN0,aDa,rfl,aN2,aN3,aN1⟩:=Ai
 refine jl 0 (sw _ _ uh)<|zD 1<|aV 6 fun ZY aai VN=>jc (vs:=[.slice aDr l16.length aDq,.func (.func 252) ⟨[]⟩ ⟨[]⟩]) [] (ajC (show bD _ _ _ _ _ from ⟨aDr,aOg,aOc,aDq,rfl,aOe,aOf,aOd⟩) (by omega)) ?_
 rintro v17 L17 CH
 obtain⟨xT,xS,aoL⟩:=CH.form
 subst aoL
 refine eH VN (zN 1 4)<|aV 13 fun amc amC VM=>jc (vs:=[.slice aDb l23.length aDa,.func (.func 253) ⟨[]⟩ ⟨[]⟩]) [] (ajB (show bD _ _ _ _ _ from ⟨aDb,aN4,aN0,aDa,rfl,aN2,aN3,aN1⟩) (by omega)) ?_
 rintro v24 L24 aFV
 obtain⟨adG,adA,aRN⟩:=aFV.form
 subst aRN
 refine eH VM (zN 1 5)<|aV 14 fun TD TZ VL=>jn fun n8=>eH VL (zN 1 6)<|zD 2<|bI bH ⟨n8,(.slice xT (l16.filter fun x=>xX x.n).length xS),(.slice adG (l23.filter fun x=>ES x.n).length adA),L17,L24⟩ ⟨by rw[←aiu];exact CH,by rw[←axA];exact aFV⟩ Nat.zero_lt_one [0,2,1,5,6,3,4] (Sub.refl _)
theorem Xq{s:Int}{l:List ai}{x:ai}(h:l[i]?=some x):(Kv s l)[i]?=some (mG s x,⟨s,if xX x.n=true then x.n+1 else x.n-1,x.l⟩):=af3 h
theorem aof{s o r:Int}{l:List ai}{x:ai}(h:l[i]?=some x):(LQ s o l r)[i]?=some (mG s x,⟨o,x.n+r,x.l⟩):=af3 h
theorem raise_at{l:List ai}{x:ai}(h:l[(((l.length:Int)-1)).toNat]?=some x):rO l=x.n+Int.tmod x.n 2:=by
 have:l[l.length-1]?=some x:=by rw[←h];congr 1;omega
 simp only[rO,this]
theorem aaG{l:List ai}(h:¬(l.length:Int)>0):rO l=0:=by
 have:l=[]:=List.eq_nil_of_length_eq_zero (by omega)
 subst this;rfl
theorem tm2(h:1≤n∧n≤9):0≤Int.tmod n 2∧Int.tmod n 2≤1:=by
 rw[Int.tmod_eq_emod_of_nonneg (by omega)]
 omega
theorem aeF{l:List ai}(h:∀x∈l,BC x):0≤rO l∧rO l≤10:=by
 unfold rO
 split
 ·rename_i y hy
  have h1:=(h y (zL hy)).1
  have:=tm2 h1
  omega
 omega
theorem Sk{v:Value}{S:List (List ai)}{l:List ai}{c2 c3 c4:Int}{F:List (an×Value)}(hS:cX ro v S)(hO:eV S)(hl:S[s]?=some l) (hm:jQ rm oQ F LM) (hk:F.map (·.1)=bG S) (hM:MV Z F id):dO zT 231 [.agg ⟨[v]⟩,.agg ⟨[zI ck,zI (s:Int),zI c2,zI c3,zI c4,zI c5,zI c6]⟩,(.map (some rm))] ro (LM++Z) (fun r Y=>∃F' L' Z',r= zI 0∧Y=L'++Z'∧jQ rm oQ F' L'∧F'.map (·.1)=bG S∧MV Z' F' (gU (Kv (s:Int) l))):=by
 obtain⟨ws,ht,di⟩:=hS
 obtain⟨eS,AI,AG,dW,rfl,AH,sA,sw⟩:=ht
 have hln:=di.len
 have JX:=hO.two
 have LZ:=(List.getElem?_eq_some_iff.1 hl).1
 have hlm:=zL hl
 have hll:=hO.len _ hlm
 refine zC [.l LM,.l Z]<|zD 2<|jn fun b3=>jn fun b4=>jd 9 [1,0] ?_
 obtain⟨fJ,eI⟩:=zG ws s
 refine ek dW 1 sA eI ?_
 obtain⟨Q6,abF,HZ⟩:=di.get eI
 obtain aRh:=hO.len _ (zL abF)
 obtain N3:Q6=l:=Option.some.inj (abF.symm.trans hl)
 obtain aP3:=hO.ok _ (zL abF)
 obtain⟨auw,aOj,aOh,ae2,rfl,aOi,auv,auu⟩:=HZ
 refine jl 0 (sw _ _ eI)<|zD 4<|dP [1,0,1,0,0] [] (fun(zz:Nat×(List (an×Value))×Cells×Cells)=>[(2,(.map (some rm))),(4,zP b4),(6,zI 0),(15,.slice auw Q6.length ae2),(16,zI (Q6.length:Int)),(17,zI (zz.1:Int))]) (fun(zz:Nat×(List (an×Value))×Cells×Cells)=>[.l zz.2.2.1,.l zz.2.2.2,.b b4 (.cells ⟨[zI ck,zI (s:Int),zI c2,zI c3,zI c4,zI c5,zI c6]⟩ 83 (0,0)),.b b3 (.cells ⟨[.slice eS ws.length dW]⟩ 27 (0,0))]) (fun(zz:Nat×(List (an×Value))×Cells×Cells)=>zz.1≤Q6.length∧jQ rm oQ zz.2.1 zz.2.2.1∧zz.2.1.map (·.1)=bG S∧MV zz.2.2.2 zz.2.1 (gU ((Kv (s:Int) l).take zz.1))) (fun(zz:Nat×(List (an×Value))×Cells×Cells)=>Q6.length-zz.1) (⟨0,F,LM,Z⟩) ⟨by dsimp only;omega,hm,hk,hM⟩ [2,3,0,1] ?_
 rintro⟨i,F,LM,Z⟩ hI K1 bH rest
 dsimp only at hI
 refine zD 5<|zJ 18 ((i:Int) <(Q6.length:Int)) (fun h1=>?_) fun h1=>?_
 ·
  refine zD 6 ?_
  obtain⟨yc,ui⟩:=zG Q6 i
  refine ek ae2 2 auv ui<|jl 0 (auu _ _ ui)<|jn fun b8=>jd 3 [0] ?_
  have JY:=aP3 _ (zL ui)
  have aQy:=JY.1.1
  have aQx:=JY.1.2
  refine jd 3 [0]<|ja (yc.n-1) (by omega)<|jd 6 [0]<|jp (vs:=[.agg ⟨[zI yc.n,zI yc.l]⟩]) [] [] (fun aI hs hZ=>(aH4 (x:=yc)))<|zD 1<|js 25 (xX yc.n) (fun h2=>?_) (fun h2=>?_)
  ·
   refine jd 4 [0]<|ja (yc.n+1) (by omega)<|jd 13 [3,0,3,0]<|jp (vs:=[zI (s:Int),zI (yc.n+1),zI yc.l]) [] [] (fun aI hs hZ=>gAt)<|aV 11 fun yA yI x6=>jn fun qW=>eH x6 (zN 1 5)<|aV 12 fun pW pZ oU=>jmu (kv:=oQ) (F:=F) (r:=rm) (K:=158) 2 (mG (s:Int) yc) (.slice (some ⟨qW,0,none⟩) 1 1) DJ hI.2.1 fun Lm5 hm5=>gq oU<|zD 2<|ja ((i:Int)+1) (by omega)<|zD 2 ?_
   have hup:=MV.upd (T:=158) (b:=qW) (y:=⟨s,yc.n+1,yc.l⟩) hO hI.2.2.2 hI.2.2.1 hl (by rw[←N3];exact zL ui)
   exact LU bH (⟨i+1,_,Lm5,Z++[(qW,.cells ⟨[zI (s:Int),zI (yc.n+1),zI yc.l]⟩ 158 (0,0))]⟩) ⟨by dsimp only;omega,hm5,hup.2,by rw[dF (Xq (by rw[←N3];exact ui))];rw[if_pos (by assumption)];exact hup.1⟩ (by dsimp only;omega) [[0],[3,1],[4],[5]] (Sub.refl _)
  refine jd 13 [3,0,3,0]<|jp (vs:=[zI (s:Int),zI (yc.n-1),zI yc.l]) [] [] (fun aI hs hZ=>gAt)<|aV 11 fun rI rK qu=>jn fun qW=>eH qu (zN 1 5)<|aV 12 fun An Ay Ba=>jmu (kv:=oQ) (F:=F) (r:=rm) (K:=158) 2 (mG (s:Int) yc) (.slice (some ⟨qW,0,none⟩) 1 1) DJ hI.2.1 fun Lm8 hm8=>gq Ba<|zD 2<|ja ((i:Int)+1) (by omega)<|zD 2 ?_
  have hup:=MV.upd (T:=158) (b:=qW) (y:=⟨s,yc.n-1,yc.l⟩) hO hI.2.2.2 hI.2.2.1 hl (by rw[←N3];exact zL ui)
  exact LU bH (⟨i+1,_,Lm8,Z++[(qW,.cells ⟨[zI (s:Int),zI (yc.n-1),zI yc.l]⟩ 158 (0,0))]⟩) ⟨by dsimp only;omega,hm8,hup.2,by rw[dF (Xq (by rw[←N3];exact ui))];rw[if_neg (by rw[show xX yc.n=false from (by assumption)];decide)];exact hup.1⟩ (by dsimp only;omega) [[0],[3,1],[4],[5]] (Sub.refl _)
 refine zD 7<|zR (zI 0) [] [0,1] (LM++Z) ⟨F,LM,Z,rfl,rfl,hI.2.1,hI.2.2.1,by have:=hI.2.2.2;rwa[List.take_of_length_le (by simp only[Kv,List.length_map];rw[←N3];omega)] at this⟩
theorem apf{v:Value}{S:List (List ai)}{o:Nat}{l lo:List ai}{c3 c4:Int}{F:List (an×Value)}(hS:cX ro v S)(hO:eV S)(hl:S[s]?=some l) (hm:jQ rm oQ F LM) (hk:F.map (·.1)=bG S) (hM:MV Z F id) (A6:S[o]?=some lo):dO zT 233 [.agg ⟨[v]⟩,.agg ⟨[zI ck,zI (s:Int),zI (o:Int),zI c3,zI c4,zI c5,zI c6]⟩,(.map (some rm))] ro (LM++Z) (fun r Y=>∃F' L' Z',r= zI 0∧Y=L'++Z'∧jQ rm oQ F' L'∧F'.map (·.1)=bG S∧MV Z' F' (gU (LQ (s:Int) (o:Int) l (rO lo)))):=by
 obtain⟨ws,ht,di⟩:=hS
 obtain⟨eS,AI,AG,dW,rfl,AH,sA,sw⟩:=ht
 have hln:=di.len
 have JX:=hO.two
 have LZ:=(List.getElem?_eq_some_iff.1 hl).1
 have hlm:=zL hl
 have hll:=hO.len _ hlm
 have hso:=(List.getElem?_eq_some_iff.1 A6).1
 have aGh:=zL A6
 have hr:=aeF (hO.ok _ aGh)
 have bei:=hO.len _ aGh
 refine zC [.l LM,.l Z]<|zD 2<|jn fun b3=>jn fun b4=>jd 8 [1,0] ?_
 obtain⟨Xc,Hg⟩:=zG ws s
 refine ek dW 1 sA Hg ?_
 obtain⟨l18,aw3,V2⟩:=di.get Hg
 obtain bed:=hO.len _ (zL aw3)
 obtain N2:l18=l:=Option.some.inj (aw3.symm.trans hl)
 obtain jP:=hO.ok _ (zL aw3)
 obtain⟨aDl,bch,bcf,auo,rfl,bcg,aOb,aOa⟩:=V2
 refine jl 0 (sw _ _ Hg)<|jd 4 [1,0] ?_
 obtain⟨vk,tb⟩:=zG ws o
 refine ek dW 1 sA tb ?_
 obtain⟨UX,Vt,h24⟩:=di.get tb
 obtain aGf:=hO.len _ (zL Vt)
 obtain VA:UX=lo:=Option.some.inj (Vt.symm.trans A6)
 obtain aFl:=hO.ok _ (zL Vt)
 obtain⟨aun,aC9,aC7,aeN,rfl,aC8,am8,am7⟩:=h24
 refine jl 0 (sw _ _ tb)<|zD 10<|ja ((l18.length:Int)+(UX.length:Int)) (by omega)<|zD 2<|zJ 30 (((l18.length:Int)+(UX.length:Int))>8) (fun h1=>?_) fun h1=>?_
 ·
  exfalso;omega
 refine zD 18<|Jc [1,1,1,1,1] [] (fun(zz:Int)=>[(2,(.map (some rm))),(4,zP b4),(6,zI 0),(7,.slice aDl l18.length auo),(9,zI zz)]) (fun zz=>[.l LM,.l Z,.b b4 (.cells ⟨[zI ck,zI (s:Int),zI (o:Int),zI c3,zI c4,zI c5,zI c6]⟩ 83 (0,0)),.b b3 (.cells ⟨[.slice eS ws.length dW]⟩ 27 (0,0))]) (fun zz=>zz=rO lo) ?_ (fun K1 bH=>?_)
 ·
  rintro q hQ rest
  refine zD 8<|dP [1,1,1,1,1,0,1,0,0] [] (fun(zz:Nat×(List (an×Value))×Cells×Cells)=>[(2,(.map (some rm))),(4,zP b4),(9,zI q),(49,.slice aDl l18.length auo),(50,zI (l18.length:Int)),(51,zI (zz.1:Int))]) (fun(zz:Nat×(List (an×Value))×Cells×Cells)=>[.l zz.2.2.1,.l zz.2.2.2,.b b4 (.cells ⟨[zI ck,zI (s:Int),zI (o:Int),zI c3,zI c4,zI c5,zI c6]⟩ 83 (0,0)),.b b3 (.cells ⟨[.slice eS ws.length dW]⟩ 27 (0,0))]) (fun(zz:Nat×(List (an×Value))×Cells×Cells)=>zz.1≤l18.length∧jQ rm oQ zz.2.1 zz.2.2.1∧zz.2.1.map (·.1)=bG S∧MV zz.2.2.2 zz.2.1 (gU ((LQ (s:Int) (o:Int) l (rO lo)).take zz.1))) (fun(zz:Nat×(List (an×Value))×Cells×Cells)=>l18.length-zz.1) (⟨0,F,LM,Z⟩) ⟨by dsimp only;omega,hm,hk,hM⟩ (zN 0 4) ?_
  rintro⟨i,F,LM,Z⟩ hI K2 mr rest
  dsimp only at hI
  refine zD 5<|zJ 52 ((i:Int) <(l18.length:Int)) (fun h2=>?_) fun h2=>?_
  ·
   refine zD 6 ?_
   obtain⟨x53,ag7⟩:=zG l18 i
   refine ek auo 2 aOb ag7<|jl 0 (aOa _ _ ag7)<|jn fun wW=>jd 4 [0] ?_
   have JY:=jP _ (zL ag7)
   have aQy:=JY.1.1
   have aQx:=JY.1.2
   refine jd 4 [0]<|ja (x53.n+q) (by omega)<|zD 2<|zJ 59 ((x53.n+q)>40) (fun h3=>?_) fun h3=>?_
   ·
    exfalso;omega
   refine jd 13 [3,0,3,0]<|ja (x53.n+q) (by omega)<|jd 2 [0]<|jp (vs:=[zI (o:Int),zI (x53.n+q),zI x53.l]) [] [] (fun aI hs hZ=>gAt)<|aV 14 fun pW pZ oU=>jn fun b74=>eH oU (zN 1 5)<|aV 15 fun rI rK qu=>jmu (kv:=oQ) (F:=F) (r:=rm) (K:=158) 2 (mG (s:Int) x53) (.slice (some ⟨b74,0,none⟩) 1 1) DJ hI.2.1 fun Lm6 hm6=>gq qu<|zD 2<|ja ((i:Int)+1) (by omega)<|zD 2 ?_
   have hup:=MV.upd (T:=158) (b:=b74) (y:=⟨o,x53.n+q,x53.l⟩) hO hI.2.2.2 hI.2.2.1 hl (by rw[←N2];exact zL ag7)
   exact LU mr (⟨i+1,_,Lm6,Z++[(b74,.cells ⟨[zI (o:Int),zI (x53.n+q),zI x53.l]⟩ 158 (0,0))]⟩) ⟨by dsimp only;omega,hm6,hup.2,by rw[dF (aof (by rw[←N2];exact ag7))];have e:=hup.1;rw[hQ] at e ⊢;exact e⟩ (by dsimp only;omega) [[0],[3,1],[4],[5]] (Sub.refl _)
  refine zD 7<|zR (zI 0) [] [0,1] (LM++Z) ⟨F,LM,Z,rfl,rfl,hI.2.1,hI.2.2.1,by have:=hI.2.2.2;rwa[List.take_of_length_le (by simp only[LQ,List.length_map];rw[←N2];omega)] at this⟩
 refine zJ 34 ((UX.length:Int)>0) (fun h7=>?_) fun h7=>?_
 ·
  refine zD 4<|ja ((UX.length:Int)-1) (by omega) ?_
  obtain⟨x38,NQ⟩:=zG UX ((((UX.length:Int)-1)).toNat)
  refine NI ((UX.length:Int)-1) aeN 2 am8 NQ (by omega)<|zD 1<|jl 0 (am7 _ _ NQ)<|zD 2<|ja ((UX.length:Int)-1) (by omega) ?_
  obtain⟨ZZ,JU⟩:=zG UX ((((UX.length:Int)-1)).toNat)
  refine NI ((UX.length:Int)-1) aeN 2 am8 JU (by omega)<|zD 1<|jl 0 (am7 _ _ JU)<|zD 1<|ja (x38.n+(Int.tmod ZZ.n 2)) (by have h1:=(aFl _ (zL NQ)).1;have h2:=(aFl _ (zL JU)).1;have:=tm2 h2;omega) ?_
  refine zD 2 ?_
  have hra:=raise_at NQ
  rw[VA] at hra
  exact bI bH (x38.n+(Int.tmod ZZ.n 2)) (by rw[←VA];have e:x38=ZZ:=Option.some.inj (NQ.symm.trans JU);subst e;exact(raise_at NQ).symm) Nat.zero_lt_one [2,3,0,1] (Sub.refl _)
 refine zD 2<|bI bH 0 (by rw[←VA];exact(aaG (by omega)).symm) Nat.zero_lt_one [2,3,0,1] (Sub.refl _)
end Go.L
