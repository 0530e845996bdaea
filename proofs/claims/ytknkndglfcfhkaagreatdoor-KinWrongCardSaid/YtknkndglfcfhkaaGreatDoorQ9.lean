/- Part 9 of the proof. -/
import Derived.Test.YtknkndglfcfhkaaGreatDoorQ8
set_option maxRecDepth 100000
set_option linter.all false
namespace Go.L
open Go Go.Conc Go.Proofs
variable {ro:Nat→Option Obj} {K:aB} {l fi ca:List Value} {W:List (List Int)} {Z LM Z2:Cells} {F:Nat→Nat→Bool} {i k f s rm:Nat} {α κ:Type} {n b ck c5 c6:Int} {g:FuncId} {xs:List Int}
def aII(n:Nat):Prop:=∀(ro:Nat→Option Obj) (v:Value) (xs:List aj) (L:Cells) (a m b:Int),aw v 8 128 cQ xs L→xs.length≤100000→gq xs→(0≤a∧a <m∧m <b∧b≤xs.length)→(b-a).toNat=n→
 dE zT 191 [v,zI a,zI m,zI b,.func (.func 109) ⟨[]⟩ ⟨[]⟩] ro L (fun _ Y=>xe v xs Y)
theorem aez{v:Value}{xs:List aj}{L:Cells}{a:Int}(ho:aw v 8 128 cQ xs L)(hN:xs.length≤100000)(hP:gq xs)(xG:(0≤a∧0≤b∧0≤n)∧a+n≤xs.length∧b+n≤xs.length∧a≠b):dE zT 241 [v,zI a,zI b,zI n,.func (.func 109) ⟨[]⟩ ⟨[]⟩] ro L (fun r Y=>xe v xs Y):=by
 refine zC [.l L]<|zD 5<|dB [1,0,0] [] (fun(zz:Int×(List aj)×Cells)=>[(0,v),(1,zI a),(2,zI b),(3,zI n),(10,zI zz.1)]) (fun zz=>[.l zz.2.2]) (fun zz=>(0≤zz.1∧zz.1≤n)∧aw v 8 128 cQ zz.2.1 zz.2.2∧zz.2.1.Perm xs) (fun zz=>(n-zz.1).toNat) (⟨0,xs,L⟩) ⟨by dsimp only;omega,ho,.refl _⟩ [0] ?_
 rintro⟨i,ys,L⟩ hI K1 bF rest
 dsimp only at hI
 have Rn:=hI.2.2.length_eq
 have hyp:=hP.perm hI.2.2
 refine zD 7<|zJ 13 (i <n) (fun h1=>?_) fun h1=>?_
 ·
  refine zD 8<|ja (a+i) (by omega)<|zD 3<|ja (b+i) (by omega)<|zD 3<|ja (b+i) (by omega) ?_
  obtain⟨x28,avT⟩:=zG ys ((b+i).toNat) (by first|omega| (simp only[List.length_set];omega))
  refine mW (b+i) 8 hI.2.1 avT (Int.toNat_of_nonneg (show 0≤(b+i)∧(b+i) <((ys).length:Int) from (by first|omega| (simp only[List.length_set];omega))).1).symm (fun b28 aRY=>?_)
  refine kJ 0 [0] L (fun s _ hZ=>bn hI.2.1 aRY hZ avT)<|zD 3<|ja (a+i) (by omega) ?_
  obtain⟨x34,NB⟩:=zG ys ((a+i).toNat) (by first|omega| (simp only[List.length_set];omega))
  refine mW (a+i) 8 hI.2.1 NB (Int.toNat_of_nonneg (show 0≤(a+i)∧(a+i) <((ys).length:Int) from (by first|omega| (simp only[List.length_set];omega))).1).symm (fun b34 aRV=>?_)
  refine kJ 0 [0] L (fun s _ hZ=>bn hI.2.1 aRV hZ NB) ?_
  obtain⟨x36,za⟩:=zG ys ((a+i).toNat) (by first|omega| (simp only[List.length_set];omega))
  refine mW (a+i) 8 hI.2.1 za (Int.toNat_of_nonneg (show 0≤(a+i)∧(a+i) <((ys).length:Int) from (by first|omega| (simp only[List.length_set];omega))).1).symm (fun qX axL=>?_)
  refine aS 21 fun yD yK ya=>E8 0 0 [zI x28.past,zI x28.w0,zI x28.w1,zI x28.w2,zI x28.w3,zI x28.gone,zI x28.new,zI x28.af] x28 hI.2.1 axL za rfl rfl (Nat.le_of_ble_eq_true rfl) fun L3 ho4=>gx ya [] ?_
  obtain⟨x37,abE⟩:=zG ((ys.set ((a+i).toNat) x28)) ((b+i).toNat) (by first|omega| (simp only[List.length_set];omega))
  refine mW (b+i) 8 ho4 abE (Int.toNat_of_nonneg (show 0≤(b+i)∧(b+i) <(((ys.set ((a+i).toNat) x28)).length:Int) from (by first|omega| (simp only[List.length_set];omega))).1).symm (fun b37 aRT=>?_)
  refine aS 23 fun oh ov mZ=>E8 0 0 [zI x34.past,zI x34.w0,zI x34.w1,zI x34.w2,zI x34.w3,zI x34.gone,zI x34.new,zI x34.af] x34 ho4 aRT abE rfl rfl (Nat.le_of_ble_eq_true rfl) fun L6 Tx=>fU mZ<|zD 3<|ja (i+1) (by omega)<|zD 2<|bE bF (⟨(i+1),((ys.set ((a+i).toNat) x28).set ((b+i).toNat) x34),L6⟩) ⟨by dsimp only;omega,Tx,(lZ NB avT).trans hI.2.2⟩ (by dsimp only;omega) [0] (Sub.refl _)
 refine zD 2<|zR (.tuple ⟨[]⟩) [] [0] L ⟨ys,hI.2.2,hI.2.1⟩
theorem aMk{v:Value}{xs:List aj}{L:Cells}{a m:Int}(ho:aw v 8 128 cQ xs L)(hN:xs.length≤100000)(hP:gq xs)(xG:0≤a∧a <m∧m <b∧b≤xs.length):dE zT 220 [v,zI a,zI m,zI b,.func (.func 109) ⟨[]⟩ ⟨[]⟩] ro L (fun r Y=>xe v xs Y):=by
 refine zC [.l L]<|zD 4<|ja (m-a) (by omega)<|zD 6<|ja (b-m) (by omega)<|zD 4<|dB [1,1,0,0,0] [] (fun(zz:Int×Int×(List aj)×Cells)=>[(0,v),(2,zI m),(4,.func (.func 109) ⟨[]⟩ ⟨[]⟩),(10,zI zz.1),(11,zI zz.2.1)]) (fun zz=>[.l zz.2.2.2]) (fun zz=>((0 <zz.1∧zz.1≤m-a)∧0 <zz.2.1∧zz.2.1≤b-m)∧aw v 8 128 cQ zz.2.2.1 zz.2.2.2∧zz.2.2.1.Perm xs) (fun zz=>(zz.1+zz.2.1).toNat) (⟨(m-a),(b-m),xs,L⟩) ⟨by dsimp only;omega,ho,.refl _⟩ [0] ?_
 rintro⟨i,j,ys,L⟩ hI K1 bF rest
 dsimp only at hI
 have Rn:=hI.2.2.length_eq
 have hyp:=hP.perm hI.2.2
 refine zD 7<|js 20 (!decide (i=j)) (fun h1=>?_) (fun h1=>?_)
 ·
  replace h1:=of_decide_eq_false (by simpa using h1)
  refine zD 9<|zJ 23 (i>j) (fun h2=>?_) fun h2=>?_
  ·
   refine zD 6<|ja (m-i) (by omega)<|zD 3<|jc (vs:=[v,zI (m-i),zI m,zI j,.func (.func 109) ⟨[]⟩ ⟨[]⟩]) [0] (aez hI.2.1 (by omega) hyp (by omega)) ?_
   rintro aZw Y31 ⟨aKQ,awl,awt⟩
   have aWK:=awl.length_eq
   have aWD:=gq.perm hyp awl
   refine zD 4<|ja (i-j) (by omega)<|zD 2<|bE bF (⟨(i-j),j,aKQ,Y31⟩) ⟨by dsimp only;omega,awt,(awl.trans hI.2.2)⟩ (by dsimp only;omega) [0] (Sub.refl _)
  refine zD 6<|ja (m-i) (by omega)<|zD 2<|ja (m+j) (by omega)<|zD 1<|ja ((m+j)-i) (by omega)<|zD 2<|jc (vs:=[v,zI (m-i),zI ((m+j)-i),zI i,.func (.func 109) ⟨[]⟩ ⟨[]⟩]) [0] (aez hI.2.1 (by omega) hyp (by omega)) ?_
  rintro aZu Y46 ⟨aKO,awj,aPY⟩
  have aWI:=awj.length_eq
  have aWB:=gq.perm hyp awj
  refine zD 4<|ja (j-i) (by omega)<|zD 2<|bE bF (⟨i,(j-i),aKO,Y46⟩) ⟨by dsimp only;omega,aPY,(awj.trans hI.2.2)⟩ (by dsimp only;omega) [0] (Sub.refl _)
 replace h1:=of_decide_eq_true (by simpa using h1)
 refine zD 6<|ja (m-i) (by omega)<|zD 3<|jc (vs:=[v,zI (m-i),zI m,zI i,.func (.func 109) ⟨[]⟩ ⟨[]⟩]) [0] (aez hI.2.1 (by omega) hyp (by omega)) ?_
 rintro aZt Y57 ⟨aYD,awh,aoa⟩
 have aWH:=awh.length_eq
 have aWA:=gq.perm hyp awh
 refine zD 1<|zR (.tuple ⟨[]⟩) [] [0] Y57 ⟨_,(awh.trans hI.2.2),aoa⟩
theorem aBX{n:Nat}{v:Value}{xs:List aj}{L:Cells}{a m:Int}(ih:∀k,k <n→aII k)(ho:aw v 8 128 cQ xs L)(hN:xs.length≤100000)(hP:gq xs)(xG:0≤a∧a <m∧m <b∧b≤xs.length)(hn:(b-a).toNat=n):dE zT 191 [v,zI a,zI m,zI b,.func (.func 109) ⟨[]⟩ ⟨[]⟩] ro L (fun r Y=>xe v xs Y):=by
 refine zC [.l L]<|zD 5<|ja (m-a) (by omega)<|zD 2<|zJ 28 ((m-a)=1) (fun h1=>?_) fun h1=>?_
 ·
  refine zD 13<|dB [0,1,0,1,1,0,0,0] [] (fun(zz:Int×Int)=>[(0,v),(1,zI a),(2,zI m),(3,zI b),(4,.func (.func 109) ⟨[]⟩ ⟨[]⟩),(10,zI zz.1),(11,zI zz.2)]) (fun zz=>[.l L]) (fun zz=>(m≤zz.1∧zz.1≤zz.2)∧zz.2≤b) (fun zz=>(zz.2-zz.1).toNat) (⟨m,b⟩) (by dsimp only;omega) [0] ?_
  rintro⟨i,j⟩ hI K1 bF rest
  dsimp only at hI
  refine zD 7<|zJ 33 (i <j) (fun h2=>?_) fun h2=>?_
  ·
   refine zD 7<|ja (i+j) (by omega)<|zD 6 ?_
   have hh:=Fh (x:=i+j) (by omega)
   refine zD 4 ?_
   obtain⟨x43,Nz⟩:=zG xs ((IntKind.i64.wrap (aT .u64 (IntKind.u64.wrap (i+j)) 1)).toNat) (by first|omega| (simp only[List.length_set];omega))
   refine mW (IntKind.i64.wrap (aT .u64 (IntKind.u64.wrap (i+j)) 1)) 8 ho Nz (Int.toNat_of_nonneg (show 0≤(IntKind.i64.wrap (aT .u64 (IntKind.u64.wrap (i+j)) 1))∧(IntKind.i64.wrap (aT .u64 (IntKind.u64.wrap (i+j)) 1)) <((xs).length:Int) from (by first|omega| (simp only[List.length_set];omega))).1).symm (fun b43 axJ=>?_)
   refine kJ 0 [0] L (fun s _ hZ=>bn ho axJ hZ Nz)<|zD 2 ?_
   obtain⟨x47,Vg⟩:=zG xs (a.toNat) (by first|omega| (simp only[List.length_set];omega))
   refine mW a 8 ho Vg (Int.toNat_of_nonneg (show 0≤a∧a <((xs).length:Int) from (by first|omega| (simp only[List.length_set];omega))).1).symm (fun b47 aRQ=>?_)
   refine kJ 0 [0] L (fun s _ hZ=>bn ho aRQ hZ Vg)<|aS 9 fun yD yK ya=>jp (vs:=[.agg ⟨[zI x43.past,zI x43.w0,zI x43.w1,zI x43.w2,zI x43.w3,zI x43.gone,zI x43.new,zI x43.af]⟩,.agg ⟨[zI x47.past,zI x47.w0,zI x47.w1,zI x47.w2,zI x47.w3,zI x47.gone,zI x47.new,zI x47.af]⟩]) [] [] (fun aG hs hZ=>(anN (x:=x43) (y:=x47) (hP _ (zL Nz)) (hP _ (zL Vg))))<|eo ya [0]<|zD 2<|zJ 50 ((x43.past-x47.past) <0) (fun h4=>?_) fun h4=>?_
   ·
    refine zD 3<|ja ((IntKind.i64.wrap (aT .u64 (IntKind.u64.wrap (i+j)) 1))+1) (by omega)<|zD 2<|bE bF (⟨((IntKind.i64.wrap (aT .u64 (IntKind.u64.wrap (i+j)) 1))+1),j⟩) (by dsimp only;omega) (by dsimp only;omega) [0] (Sub.refl _)
   refine zD 5<|bE bF (⟨i,(IntKind.i64.wrap (aT .u64 (IntKind.u64.wrap (i+j)) 1))⟩) (by dsimp only;omega) (by dsimp only;omega) [0] (Sub.refl _)
  refine zD 9<|dB [0,1,0,1,1,1,0,1,0,0] [] (fun(zz:Int×(List aj)×Cells)=>[(0,v),(1,zI a),(2,zI m),(3,zI b),(4,.func (.func 109) ⟨[]⟩ ⟨[]⟩),(10,zI i),(13,zI zz.1)]) (fun zz=>[.l zz.2.2]) (fun zz=>a≤zz.1∧aw v 8 128 cQ zz.2.1 zz.2.2∧zz.2.1.Perm xs) (fun zz=>(i-zz.1).toNat) (⟨a,xs,L⟩) ⟨by dsimp only;omega,ho,.refl _⟩ [0] ?_
  rintro⟨k,ys,L⟩ hJ K3 hK3 rest
  dsimp only at hJ
  have Rn:=hJ.2.2.length_eq
  have hyp:=hP.perm hJ.2.2
  refine zD 5<|ja (i-1) (by omega)<|zD 2<|zJ 58 (k <(i-1)) (fun h5=>?_) fun h5=>?_
  ·
   refine zD 9<|ja (k+1) (by omega)<|zD 2<|ja (k+1) (by omega) ?_
   obtain⟨TP,abC⟩:=zG ys ((k+1).toNat) (by first|omega| (simp only[List.length_set];omega))
   refine mW (k+1) 8 hJ.2.1 abC (Int.toNat_of_nonneg (show 0≤(k+1)∧(k+1) <((ys).length:Int) from (by first|omega| (simp only[List.length_set];omega))).1).symm (fun b69 axG=>?_)
   refine kJ 0 [0] L (fun s _ hZ=>bn hJ.2.1 axG hZ abC)<|zD 2 ?_
   obtain⟨x73,abB⟩:=zG ys (k.toNat) (by first|omega| (simp only[List.length_set];omega))
   refine mW k 8 hJ.2.1 abB (Int.toNat_of_nonneg (show 0≤k∧k <((ys).length:Int) from (by first|omega| (simp only[List.length_set];omega))).1).symm (fun b73 aRL=>?_)
   refine kJ 0 [0] L (fun s _ hZ=>bn hJ.2.1 aRL hZ abB) ?_
   obtain⟨x75,Vf⟩:=zG ys (k.toNat) (by first|omega| (simp only[List.length_set];omega))
   refine mW k 8 hJ.2.1 Vf (Int.toNat_of_nonneg (show 0≤k∧k <((ys).length:Int) from (by first|omega| (simp only[List.length_set];omega))).1).symm (fun b75 aRJ=>?_)
   refine aS 15 fun pX p6 oZ=>E8 0 0 [zI TP.past,zI TP.w0,zI TP.w1,zI TP.w2,zI TP.w3,zI TP.gone,zI TP.new,zI TP.af] TP hJ.2.1 aRJ Vf rfl rfl (Nat.le_of_ble_eq_true rfl) fun L7 ho8=>gx oZ [] ?_
   obtain⟨x76,aEp⟩:=zG ((ys.set k.toNat TP)) ((k+1).toNat) (by first|omega| (simp only[List.length_set];omega))
   refine mW (k+1) 8 ho8 aEp (Int.toNat_of_nonneg (show 0≤(k+1)∧(k+1) <(((ys.set k.toNat TP)).length:Int) from (by first|omega| (simp only[List.length_set];omega))).1).symm (fun b76 aRI=>?_)
   refine aS 17 fun yC yJ zm=>E8 0 0 [zI x73.past,zI x73.w0,zI x73.w1,zI x73.w2,zI x73.w3,zI x73.gone,zI x73.new,zI x73.af] x73 ho8 aRI aEp rfl rfl (Nat.le_of_ble_eq_true rfl) fun L10 awv=>fU zm<|zD 3<|ja (k+1) (by omega)<|zD 2<|bE hK3 (⟨(k+1),((ys.set k.toNat TP).set ((k+1).toNat) x73),L10⟩) ⟨by dsimp only;omega,awv,(lZ abB abC).trans hJ.2.2⟩ (by dsimp only;omega) [0] (Sub.refl _)
  refine zD 3<|zR (.tuple ⟨[]⟩) [] [0] L ⟨_,hJ.2.2,hJ.2.1⟩
 refine zD 7<|ja (b-m) (by omega)<|zD 2<|zJ 80 ((b-m)=1) (fun zp=>?_) fun zp=>?_
 ·
  refine zD 13<|dB [1,0,1,0,1,1,0,0,0] [] (fun(zz:Int×Int)=>[(0,v),(1,zI a),(2,zI m),(3,zI b),(4,.func (.func 109) ⟨[]⟩ ⟨[]⟩),(14,zI zz.1),(15,zI zz.2)]) (fun zz=>[.l L]) (fun zz=>(a≤zz.1∧zz.1≤zz.2)∧zz.2≤m) (fun zz=>(zz.2-zz.1).toNat) (⟨a,m⟩) (by dsimp only;omega) [0] ?_
  rintro⟨i,j⟩ hI K6 hK6 rest
  dsimp only at hI
  refine zD 7<|zJ 85 (i <j) (fun uU=>?_) fun uU=>?_
  ·
   refine zD 7<|ja (i+j) (by omega)<|zD 6 ?_
   have hh:=Fh (x:=i+j) (by omega)
   refine zD 4 ?_
   obtain⟨x95,avP⟩:=zG xs (m.toNat) (by first|omega| (simp only[List.length_set];omega))
   refine mW m 8 ho avP (Int.toNat_of_nonneg (show 0≤m∧m <((xs).length:Int) from (by first|omega| (simp only[List.length_set];omega))).1).symm (fun b95 aRF=>?_)
   refine kJ 0 [0] L (fun s _ hZ=>bn ho aRF hZ avP)<|zD 2 ?_
   obtain⟨x99,abA⟩:=zG xs ((IntKind.i64.wrap (aT .u64 (IntKind.u64.wrap (i+j)) 1)).toNat) (by first|omega| (simp only[List.length_set];omega))
   refine mW (IntKind.i64.wrap (aT .u64 (IntKind.u64.wrap (i+j)) 1)) 8 ho abA (Int.toNat_of_nonneg (show 0≤(IntKind.i64.wrap (aT .u64 (IntKind.u64.wrap (i+j)) 1))∧(IntKind.i64.wrap (aT .u64 (IntKind.u64.wrap (i+j)) 1)) <((xs).length:Int) from (by first|omega| (simp only[List.length_set];omega))).1).symm (fun b99 axF=>?_)
   refine kJ 0 [0] L (fun s _ hZ=>bn ho axF hZ abA)<|aS 9 fun alO amc Sb=>jp (vs:=[.agg ⟨[zI x95.past,zI x95.w0,zI x95.w1,zI x95.w2,zI x95.w3,zI x95.gone,zI x95.new,zI x95.af]⟩,.agg ⟨[zI x99.past,zI x99.w0,zI x99.w1,zI x99.w2,zI x99.w3,zI x99.gone,zI x99.new,zI x99.af]⟩]) [] [] (fun aG hs hZ=>(anN (x:=x95) (y:=x99) (hP _ (zL avP)) (hP _ (zL abA))))<|eo Sb [0]<|zD 3<|js 103 (!(decide ((x95.past-x99.past) <0))) (fun N0=>?_) (fun N0=>?_)
   ·
    try simp only[zB] at N0
    refine zD 3<|ja ((IntKind.i64.wrap (aT .u64 (IntKind.u64.wrap (i+j)) 1))+1) (by omega)<|zD 2<|bE hK6 (⟨((IntKind.i64.wrap (aT .u64 (IntKind.u64.wrap (i+j)) 1))+1),j⟩) (by dsimp only;omega) (by dsimp only;omega) [0] (Sub.refl _)
   try simp only[zB] at N0
   refine zD 5<|bE hK6 (⟨i,(IntKind.i64.wrap (aT .u64 (IntKind.u64.wrap (i+j)) 1))⟩) (by dsimp only;omega) (by dsimp only;omega) [0] (Sub.refl _)
  refine zD 9<|dB [1,0,1,0,1,1,1,0,1,0,0] [] (fun(zz:Int×(List aj)×Cells)=>[(0,v),(1,zI a),(2,zI m),(3,zI b),(4,.func (.func 109) ⟨[]⟩ ⟨[]⟩),(14,zI i),(17,zI zz.1)]) (fun zz=>[.l zz.2.2]) (fun zz=>(a≤i∧zz.1≤m)∧aw v 8 128 cQ zz.2.1 zz.2.2∧zz.2.1.Perm xs) (fun zz=>(zz.1-i).toNat) (⟨m,xs,L⟩) ⟨by dsimp only;omega,ho,.refl _⟩ [0] ?_
  rintro⟨k,ys,L⟩ hJ K8 hK8 rest
  dsimp only at hJ
  have Rn:=hJ.2.2.length_eq
  have hyp:=hP.perm hJ.2.2
  refine zD 7<|zJ 110 (k>i) (fun V4=>?_) fun V4=>?_
  ·
   refine zD 9<|ja (k-1) (by omega)<|zD 2<|ja (k-1) (by omega) ?_
   obtain⟨BX,aha⟩:=zG ys ((k-1).toNat) (by first|omega| (simp only[List.length_set];omega))
   refine mW (k-1) 8 hJ.2.1 aha (Int.toNat_of_nonneg (show 0≤(k-1)∧(k-1) <((ys).length:Int) from (by first|omega| (simp only[List.length_set];omega))).1).symm (fun bez aGz=>?_)
   refine kJ 0 [0] L (fun s _ hZ=>bn hJ.2.1 aGz hZ aha)<|zD 2 ?_
   obtain⟨Je,ag9⟩:=zG ys (k.toNat) (by first|omega| (simp only[List.length_set];omega))
   refine mW k 8 hJ.2.1 ag9 (Int.toNat_of_nonneg (show 0≤k∧k <((ys).length:Int) from (by first|omega| (simp only[List.length_set];omega))).1).symm (fun bey aGy=>?_)
   refine kJ 0 [0] L (fun s _ hZ=>bn hJ.2.1 aGy hZ ag9) ?_
   obtain⟨aYL,arc⟩:=zG ys (k.toNat) (by first|omega| (simp only[List.length_set];omega))
   refine mW k 8 hJ.2.1 arc (Int.toNat_of_nonneg (show 0≤k∧k <((ys).length:Int) from (by first|omega| (simp only[List.length_set];omega))).1).symm (fun bex aGx=>?_)
   refine aS 15 fun TO T5 Sa=>E8 0 0 [zI BX.past,zI BX.w0,zI BX.w1,zI BX.w2,zI BX.w3,zI BX.gone,zI BX.new,zI BX.af] BX hJ.2.1 aGx arc rfl rfl (Nat.le_of_ble_eq_true rfl) fun L18 aoc=>gx Sa [] ?_
   obtain⟨aYK,ag8⟩:=zG ((ys.set k.toNat BX)) ((k-1).toNat) (by first|omega| (simp only[List.length_set];omega))
   refine mW (k-1) 8 aoc ag8 (Int.toNat_of_nonneg (show 0≤(k-1)∧(k-1) <(((ys.set k.toNat BX)).length:Int) from (by first|omega| (simp only[List.length_set];omega))).1).symm (fun OB aGw=>?_)
   refine aS 17 fun Fx FY wG=>E8 0 0 [zI Je.past,zI Je.w0,zI Je.w1,zI Je.w2,zI Je.w3,zI Je.gone,zI Je.new,zI Je.af] Je aoc aGw ag8 rfl rfl (Nat.le_of_ble_eq_true rfl) fun L21 aob=>fU wG<|zD 3<|ja (k-1) (by omega)<|zD 2<|bE hK8 (⟨(k-1),((ys.set k.toNat BX).set ((k-1).toNat) Je),L21⟩) ⟨by dsimp only;omega,aob,(lZ ag9 aha).trans hJ.2.2⟩ (by dsimp only;omega) [0] (Sub.refl _)
  refine zD 3<|zR (.tuple ⟨[]⟩) [] [0] L ⟨_,hJ.2.2,hJ.2.1⟩
 refine zD 6<|ja (a+b) (by omega)<|zD 6 ?_
 have bcx:=Fh (x:=a+b) (by omega)
 refine zD 3<|ja ((IntKind.i64.wrap (aT .u64 (IntKind.u64.wrap (a+b)) 1))+m) (by omega)<|zD 14<|Es [1,1,1,1,1,1] [] (fun(zz:Int×Int)=>[(0,v),(1,zI a),(2,zI m),(3,zI b),(4,.func (.func 109) ⟨[]⟩ ⟨[]⟩),(18,zI (IntKind.i64.wrap (aT .u64 (IntKind.u64.wrap (a+b)) 1))),(19,zI ((IntKind.i64.wrap (aT .u64 (IntKind.u64.wrap (a+b)) 1))+m)),(20,zI zz.1),(21,zI zz.2)]) (fun zz=>[.l L]) (fun zz=>(a≤zz.1∧zz.1≤zz.2)∧zz.2≤b∧a≤((IntKind.i64.wrap (aT .u64 (IntKind.u64.wrap (a+b)) 1))+m)-zz.2∧((IntKind.i64.wrap (aT .u64 (IntKind.u64.wrap (a+b)) 1))+m)-zz.1≤b) ?_ (fun K11 aGQ=>?_)
 ·
  rintro⟨s0,r0⟩ hC rest
  dsimp only at hC
  refine zD 3<|ja (((IntKind.i64.wrap (aT .u64 (IntKind.u64.wrap (a+b)) 1))+m)-1) (by omega)<|zD 4<|dB [1,1,1,1,1,1,1,0,0,0] [] (fun(zz:Int×Int)=>[(0,v),(1,zI a),(2,zI m),(3,zI b),(4,.func (.func 109) ⟨[]⟩ ⟨[]⟩),(18,zI (IntKind.i64.wrap (aT .u64 (IntKind.u64.wrap (a+b)) 1))),(19,zI ((IntKind.i64.wrap (aT .u64 (IntKind.u64.wrap (a+b)) 1))+m)),(20,zI zz.1),(21,zI zz.2),(22,zI (((IntKind.i64.wrap (aT .u64 (IntKind.u64.wrap (a+b)) 1))+m)-1))]) (fun zz=>[.l L]) (fun zz=>(a≤zz.1∧zz.1≤zz.2)∧zz.2≤b∧a≤((IntKind.i64.wrap (aT .u64 (IntKind.u64.wrap (a+b)) 1))+m)-zz.2∧((IntKind.i64.wrap (aT .u64 (IntKind.u64.wrap (a+b)) 1))+m)-zz.1≤b) (fun zz=>(zz.2-zz.1).toNat) (⟨s0,r0⟩) hC [0] ?_
  rintro⟨sx,r⟩ hK K12 aoM rest
  dsimp only at hK
  refine zD 7<|zJ 151 (sx <r) (fun Fi=>?_) fun Fi=>?_
  ·
   refine zD 7<|ja (sx+r) (by omega)<|zD 6 ?_
   have hsr:=Fh (x:=sx+r) (by omega)
   refine zD 5<|ja ((((IntKind.i64.wrap (aT .u64 (IntKind.u64.wrap (a+b)) 1))+m)-1)-(IntKind.i64.wrap (aT .u64 (IntKind.u64.wrap (sx+r)) 1))) (by omega) ?_
   obtain⟨Jd,ag6⟩:=zG xs (((((IntKind.i64.wrap (aT .u64 (IntKind.u64.wrap (a+b)) 1))+m)-1)-(IntKind.i64.wrap (aT .u64 (IntKind.u64.wrap (sx+r)) 1))).toNat) (by first|omega| (simp only[List.length_set];omega))
   refine mW ((((IntKind.i64.wrap (aT .u64 (IntKind.u64.wrap (a+b)) 1))+m)-1)-(IntKind.i64.wrap (aT .u64 (IntKind.u64.wrap (sx+r)) 1))) 8 ho ag6 (Int.toNat_of_nonneg (show 0≤((((IntKind.i64.wrap (aT .u64 (IntKind.u64.wrap (a+b)) 1))+m)-1)-(IntKind.i64.wrap (aT .u64 (IntKind.u64.wrap (sx+r)) 1)))∧((((IntKind.i64.wrap (aT .u64 (IntKind.u64.wrap (a+b)) 1))+m)-1)-(IntKind.i64.wrap (aT .u64 (IntKind.u64.wrap (sx+r)) 1))) <((xs).length:Int) from (by first|omega| (simp only[List.length_set];omega))).1).symm (fun beu aGs=>?_)
   refine kJ 0 [0] L (fun s _ hZ=>bn ho aGs hZ ag6)<|zD 2 ?_
   obtain⟨Jc,ag5⟩:=zG xs ((IntKind.i64.wrap (aT .u64 (IntKind.u64.wrap (sx+r)) 1)).toNat) (by first|omega| (simp only[List.length_set];omega))
   refine mW (IntKind.i64.wrap (aT .u64 (IntKind.u64.wrap (sx+r)) 1)) 8 ho ag5 (Int.toNat_of_nonneg (show 0≤(IntKind.i64.wrap (aT .u64 (IntKind.u64.wrap (sx+r)) 1))∧(IntKind.i64.wrap (aT .u64 (IntKind.u64.wrap (sx+r)) 1)) <((xs).length:Int) from (by first|omega| (simp only[List.length_set];omega))).1).symm (fun bet aGr=>?_)
   refine kJ 0 [0] L (fun s _ hZ=>bn ho aGr hZ ag5)<|aS 11 fun ap3 aqp NW=>jp (vs:=[.agg ⟨[zI Jd.past,zI Jd.w0,zI Jd.w1,zI Jd.w2,zI Jd.w3,zI Jd.gone,zI Jd.new,zI Jd.af]⟩,.agg ⟨[zI Jc.past,zI Jc.w0,zI Jc.w1,zI Jc.w2,zI Jc.w3,zI Jc.gone,zI Jc.new,zI Jc.af]⟩]) [] [] (fun aG hs hZ=>(anN (x:=Jd) (y:=Jc) (hP _ (zL ag6)) (hP _ (zL ag5))))<|eo NW [0]<|zD 3<|js 171 (!(decide ((Jd.past-Jc.past) <0))) (fun h25=>?_) (fun h25=>?_)
   ·
    try simp only[zB] at h25
    refine zD 3<|ja ((IntKind.i64.wrap (aT .u64 (IntKind.u64.wrap (sx+r)) 1))+1) (by omega)<|zD 2<|bE aoM (⟨((IntKind.i64.wrap (aT .u64 (IntKind.u64.wrap (sx+r)) 1))+1),r⟩) (by dsimp only;omega) (by dsimp only;omega) [0] (Sub.refl _)
   try simp only[zB] at h25
   refine zD 5<|bE aoM (⟨sx,(IntKind.i64.wrap (aT .u64 (IntKind.u64.wrap (sx+r)) 1))⟩) (by dsimp only;omega) (by dsimp only;omega) [0] (Sub.refl _)
  refine zD 6<|ja (((IntKind.i64.wrap (aT .u64 (IntKind.u64.wrap (a+b)) 1))+m)-sx) (by omega)<|zD 9<|jj 4 [(0,v),(1,zI a),(2,zI m),(3,zI b),(4,.func (.func 109) ⟨[]⟩ ⟨[]⟩),(18,zI (IntKind.i64.wrap (aT .u64 (IntKind.u64.wrap (a+b)) 1))),(20,zI sx),(24,zI (((IntKind.i64.wrap (aT .u64 (IntKind.u64.wrap (a+b)) 1))+m)-sx)),(185,.bool ((decide (sx <m))&&(decide (m <(((IntKind.i64.wrap (aT .u64 (IntKind.u64.wrap (a+b)) 1))+m)-sx)))))] (fun gH=>?_) (fun hj=>?_)
  rotate_left
  refine js 181 (decide (sx <m)) (fun h26=>?_) (fun h26=>?_)
  ·
   have ai4:=h26
   replace ai4:=of_decide_eq_true ai4
   refine zD 4<|jw 185 (.bool ((decide (sx <m))&&(decide (m <(((IntKind.i64.wrap (aT .u64 (IntKind.u64.wrap (a+b)) 1))+m)-sx))))) (w:= .bool (decide (m <(((IntKind.i64.wrap (aT .u64 (IntKind.u64.wrap (a+b)) 1))+m)-sx)))) (by rw[h26]<;>rfl) ?_
   exact zK hj
  ·
   have ai4:=h26
   replace ai4:=of_decide_eq_false ai4
   refine zD 4<|jw 185 (.bool ((decide (sx <m))&&(decide (m <(((IntKind.i64.wrap (aT .u64 (IntKind.u64.wrap (a+b)) 1))+m)-sx))))) (w:= .bool false) (by rw[h26]<;>rfl) ?_
   exact zK hj
  refine zD 1<|Es [1,1,1,1,1,1,1,1,1,1] [] (fun(zz:(List aj)×Cells)=>[(0,v),(1,zI a),(3,zI b),(4,.func (.func 109) ⟨[]⟩ ⟨[]⟩),(18,zI (IntKind.i64.wrap (aT .u64 (IntKind.u64.wrap (a+b)) 1))),(20,zI sx),(24,zI (((IntKind.i64.wrap (aT .u64 (IntKind.u64.wrap (a+b)) 1))+m)-sx))]) (fun zz=>[.l zz.2]) (fun zz=>zz.1.Perm xs∧aw v 8 128 cQ zz.1 zz.2) ?_ (fun K14 JD=>?_)
  ·
   rintro⟨ys,L⟩ hA rest
   dsimp only at hA
   have Rn:=hA.1.length_eq
   have hyp:=hP.perm hA.1
   refine zD 7<|jj 4 [(0,v),(1,zI a),(3,zI b),(4,.func (.func 109) ⟨[]⟩ ⟨[]⟩),(18,zI (IntKind.i64.wrap (aT .u64 (IntKind.u64.wrap (a+b)) 1))),(20,zI sx),(24,zI (((IntKind.i64.wrap (aT .u64 (IntKind.u64.wrap (a+b)) 1))+m)-sx)),(199,.bool ((decide (a <sx))&&(decide (sx <(IntKind.i64.wrap (aT .u64 (IntKind.u64.wrap (a+b)) 1))))))] (fun gH=>?_) (fun hj=>?_)
   rotate_left
   refine js 195 (decide (a <sx)) (fun h27=>?_) (fun h27=>?_)
   ·
    have ai3:=h27
    replace ai3:=of_decide_eq_true ai3
    refine zD 4<|jw 199 (.bool ((decide (a <sx))&&(decide (sx <(IntKind.i64.wrap (aT .u64 (IntKind.u64.wrap (a+b)) 1)))))) (w:= .bool (decide (sx <(IntKind.i64.wrap (aT .u64 (IntKind.u64.wrap (a+b)) 1))))) (by rw[h27]<;>rfl) ?_
    exact zK hj
   ·
    have ai3:=h27
    replace ai3:=of_decide_eq_false ai3
    refine zD 4<|jw 199 (.bool ((decide (a <sx))&&(decide (sx <(IntKind.i64.wrap (aT .u64 (IntKind.u64.wrap (a+b)) 1)))))) (w:= .bool false) (by rw[h27]<;>rfl) ?_
    exact zK hj
   refine zD 1<|Es [1,1,1,1,1,1,1,1,1,1,1] [] (fun(zz:(List aj)×Cells)=>[(0,v),(3,zI b),(4,.func (.func 109) ⟨[]⟩ ⟨[]⟩),(18,zI (IntKind.i64.wrap (aT .u64 (IntKind.u64.wrap (a+b)) 1))),(24,zI (((IntKind.i64.wrap (aT .u64 (IntKind.u64.wrap (a+b)) 1))+m)-sx))]) (fun zz=>[.l zz.2]) (fun zz=>zz.1.Perm xs∧aw v 8 128 cQ zz.1 zz.2) ?_ (fun K15 aGP=>?_)
   ·
    rintro⟨ys,L⟩ hB rest
    dsimp only at hB
    have Rn:=hB.1.length_eq
    have hyp:=hP.perm hB.1
    refine zD 6<|jj 4 [(0,v),(3,zI b),(4,.func (.func 109) ⟨[]⟩ ⟨[]⟩),(18,zI (IntKind.i64.wrap (aT .u64 (IntKind.u64.wrap (a+b)) 1))),(24,zI (((IntKind.i64.wrap (aT .u64 (IntKind.u64.wrap (a+b)) 1))+m)-sx)),(213,.bool ((decide ((IntKind.i64.wrap (aT .u64 (IntKind.u64.wrap (a+b)) 1)) <(((IntKind.i64.wrap (aT .u64 (IntKind.u64.wrap (a+b)) 1))+m)-sx)))&&(decide ((((IntKind.i64.wrap (aT .u64 (IntKind.u64.wrap (a+b)) 1))+m)-sx) <b))))] (fun gH=>?_) (fun hj=>?_)
    rotate_left
    refine js 209 (decide ((IntKind.i64.wrap (aT .u64 (IntKind.u64.wrap (a+b)) 1)) <(((IntKind.i64.wrap (aT .u64 (IntKind.u64.wrap (a+b)) 1))+m)-sx))) (fun h28=>?_) (fun h28=>?_)
    ·
     have ai2:=h28
     replace ai2:=of_decide_eq_true ai2
     refine zD 4<|jw 213 (.bool ((decide ((IntKind.i64.wrap (aT .u64 (IntKind.u64.wrap (a+b)) 1)) <(((IntKind.i64.wrap (aT .u64 (IntKind.u64.wrap (a+b)) 1))+m)-sx)))&&(decide ((((IntKind.i64.wrap (aT .u64 (IntKind.u64.wrap (a+b)) 1))+m)-sx) <b)))) (w:= .bool (decide ((((IntKind.i64.wrap (aT .u64 (IntKind.u64.wrap (a+b)) 1))+m)-sx) <b))) (by rw[h28]<;>rfl) ?_
     exact zK hj
    ·
     have ai2:=h28
     replace ai2:=of_decide_eq_false ai2
     refine zD 4<|jw 213 (.bool ((decide ((IntKind.i64.wrap (aT .u64 (IntKind.u64.wrap (a+b)) 1)) <(((IntKind.i64.wrap (aT .u64 (IntKind.u64.wrap (a+b)) 1))+m)-sx)))&&(decide ((((IntKind.i64.wrap (aT .u64 (IntKind.u64.wrap (a+b)) 1))+m)-sx) <b)))) (w:= .bool false) (by rw[h28]<;>rfl) ?_
     exact zK hj
    refine zD 1<|js 213 ((decide ((IntKind.i64.wrap (aT .u64 (IntKind.u64.wrap (a+b)) 1)) <(((IntKind.i64.wrap (aT .u64 (IntKind.u64.wrap (a+b)) 1))+m)-sx)))&&(decide ((((IntKind.i64.wrap (aT .u64 (IntKind.u64.wrap (a+b)) 1))+m)-sx) <b))) (fun h29=>?_) (fun h29=>?_)
    ·
     try simp only[zB] at h29
     refine zD 7<|jc (vs:=[v,zI (IntKind.i64.wrap (aT .u64 (IntKind.u64.wrap (a+b)) 1)),zI (((IntKind.i64.wrap (aT .u64 (IntKind.u64.wrap (a+b)) 1))+m)-sx),zI b,.func (.func 109) ⟨[]⟩ ⟨[]⟩]) [0] (ih _ (show (b-(IntKind.i64.wrap (aT .u64 (IntKind.u64.wrap (a+b)) 1))).toNat <n by omega) _ _ _ _ _ _ _ hB.2 (by omega) hyp (by omega) rfl) ?_
     rintro aVN aUc ⟨aVg,ahn,aFc⟩
     have aOQ:=ahn.length_eq
     have aON:=gq.perm hyp ahn
     refine zD 1<|zR (.tuple ⟨[]⟩) [] [0] aUc ⟨_,(ahn.trans hB.1),aFc⟩
    try simp only[zB] at h29
    refine zD 2<|zR (.tuple ⟨[]⟩) [] [0] L ⟨_,hB.1,hB.2⟩
   refine js 199 ((decide (a <sx))&&(decide (sx <(IntKind.i64.wrap (aT .u64 (IntKind.u64.wrap (a+b)) 1))))) (fun h30=>?_) (fun h30=>?_)
   ·
    try simp only[zB] at h30
    refine zD 7<|jc (vs:=[v,zI a,zI sx,zI (IntKind.i64.wrap (aT .u64 (IntKind.u64.wrap (a+b)) 1)),.func (.func 109) ⟨[]⟩ ⟨[]⟩]) [0] (ih _ (show ((IntKind.i64.wrap (aT .u64 (IntKind.u64.wrap (a+b)) 1))-a).toNat <n by omega) _ _ _ _ _ _ _ hA.2 (by omega) hyp (by omega) rfl) ?_
    rintro aVO aUd ⟨aAC,aho,aFe⟩
    have aOR:=aho.length_eq
    have aOO:=gq.perm hyp aho
    refine zD 1<|bE aGP ⟨aAC,aUd⟩ ⟨(aho.trans hA.1),aFe⟩ Nat.zero_lt_one [0] (Sub.refl _)
   try simp only[zB] at h30
   refine zD 2<|bE aGP ⟨ys,L⟩ ⟨hA.1,hA.2⟩ Nat.zero_lt_one [0] (Sub.refl _)
  refine js 185 ((decide (sx <m))&&(decide (m <(((IntKind.i64.wrap (aT .u64 (IntKind.u64.wrap (a+b)) 1))+m)-sx)))) (fun h31=>?_) (fun h31=>?_)
  ·
   try simp only[zB] at h31
   refine zD 7<|jc (vs:=[v,zI sx,zI m,zI (((IntKind.i64.wrap (aT .u64 (IntKind.u64.wrap (a+b)) 1))+m)-sx),.func (.func 109) ⟨[]⟩ ⟨[]⟩]) [0] (aMk ho (by omega) hP (by omega)) ?_
   rintro aVP aUe ⟨aAD,ahp,aFf⟩
   have aOS:=ahp.length_eq
   have aOP:=gq.perm hP ahp
   refine zD 1<|bE JD ⟨aAD,aUe⟩ ⟨(ahp.trans (.refl _)),aFf⟩ Nat.zero_lt_one [0] (Sub.refl _)
  try simp only[zB] at h31
  refine zD 2<|bE JD ⟨xs,L⟩ ⟨(.refl _),ho⟩ Nat.zero_lt_one [0] (Sub.refl _)
 refine zJ 140 (m>(IntKind.i64.wrap (aT .u64 (IntKind.u64.wrap (a+b)) 1))) (fun h32=>?_) fun h32=>?_
 ·
  refine zD 5<|ja (((IntKind.i64.wrap (aT .u64 (IntKind.u64.wrap (a+b)) 1))+m)-b) (by omega)<|zD 6<|bE aGQ ⟨(((IntKind.i64.wrap (aT .u64 (IntKind.u64.wrap (a+b)) 1))+m)-b),(IntKind.i64.wrap (aT .u64 (IntKind.u64.wrap (a+b)) 1))⟩ (by dsimp only;omega) Nat.zero_lt_one [0] (Sub.refl _)
 refine zD 10<|bE aGQ ⟨a,m⟩ (by dsimp only;omega) Nat.zero_lt_one [0] (Sub.refl _)
theorem aMj:∀n,aII n:=by
 intro n
 induction n using Nat.strongRecOn with
 |_ n ih=>exact fun ro v xs L a m b ho hN hP xG hn=>aBX ih ho hN hP xG hn
theorem aqz{v:Value}{xs:List aj}{L:Cells}{a m:Int}(ho:aw v 8 128 cQ xs L)(hN:xs.length≤100000)(hP:gq xs)(xG:0≤a∧a <m∧m <b∧b≤xs.length):dE zT 191 [v,zI a,zI m,zI b,.func (.func 109) ⟨[]⟩ ⟨[]⟩] ro L (fun _ Y=>xe v xs Y):=
 aMj _ ro v xs L a m b ho hN hP xG rfl
theorem aBY{v:Value}{xs:List aj}{L:Cells}(ho:aw v 8 128 cQ xs L)(hN:xs.length≤100000)(hP:gq xs)(hn:n=xs.length):dE zT 150 [v,zI n,.func (.func 109) ⟨[]⟩ ⟨[]⟩] ro L (fun r Y=>xe v xs Y):=by
 refine zC [.l L]<|zD 12<|dB [1,1,0,0,0] [] (fun(zz:Int×Int×(List aj)×Cells)=>[(0,v),(1,zI n),(2,.func (.func 109) ⟨[]⟩ ⟨[]⟩),(6,zI 20),(7,zI zz.1),(8,zI zz.2.1)]) (fun zz=>[.l zz.2.2.2]) (fun zz=>(zz.2.1=zz.1+20∧0≤zz.1∧zz.1≤n)∧aw v 8 128 cQ zz.2.2.1 zz.2.2.2∧zz.2.2.1.Perm xs) (fun zz=>(n-zz.1).toNat) (⟨0,20,xs,L⟩) ⟨by dsimp only;omega,ho,.refl _⟩ [0] ?_
 rintro⟨a,b,ys,L⟩ hI K1 bF rest
 dsimp only at hI
 have Rn:=hI.2.2.length_eq
 have hyp:=hP.perm hI.2.2
 refine zD 7<|zJ 13 (b≤n) (fun h1=>?_) fun h1=>?_
 ·
  refine zD 9<|jc (vs:=[v,zI a,zI b,.func (.func 109) ⟨[]⟩ ⟨[]⟩]) [0] (aB0 hI.2.1 (by omega) hyp (by omega)) ?_
  rintro aZy Y18 ⟨aKR,Rz,abK⟩
  have aWM:=Rz.length_eq
  have aWF:=gq.perm hyp Rz
  refine zD 9<|ja (b+20) (by omega)<|zD 2<|bE bF (⟨b,(b+20),aKR,Y18⟩) ⟨by dsimp only;omega,abK,(Rz.trans hI.2.2)⟩ (by dsimp only;omega) [0] (Sub.refl _)
 refine zD 8<|jc (vs:=[v,zI a,zI n,.func (.func 109) ⟨[]⟩ ⟨[]⟩]) [0] (aB0 hI.2.1 (by omega) hyp (by omega)) ?_
 rintro aZx Y27 ⟨aYE,awm,aP2⟩
 have aWL:=awm.length_eq
 have aWE:=gq.perm hyp awm
 refine zD 2<|dB [1,1,1,1,0,0] [] (fun(zz:Int×(List aj)×Cells)=>[(0,v),(1,zI n),(2,.func (.func 109) ⟨[]⟩ ⟨[]⟩),(6,zI zz.1)]) (fun zz=>[.l zz.2.2]) (fun zz=>(20≤zz.1∧zz.1≤1000000)∧aw v 8 128 cQ zz.2.1 zz.2.2∧zz.2.1.Perm xs) (fun zz=>(n-zz.1).toNat) (⟨20,_,_⟩) ⟨by dsimp only;omega,aP2,awm.trans hI.2.2⟩ [0] ?_
 rintro⟨bz,ys,L⟩ hJ K2 kL rest
 dsimp only at hJ
 have Rn:=hJ.2.2.length_eq
 have hyp:=hP.perm hJ.2.2
 refine zD 7<|zJ 30 (bz <n) (fun h2=>?_) fun h2=>?_
 ·
  refine zD 6<|ja (2*bz) (by omega)<|zD 5<|dB [1,1,1,1,0,0,1,0,1,0,0,0] [K2] (fun(zz:Int×Int×(List aj)×Cells)=>[(0,v),(1,zI n),(2,.func (.func 109) ⟨[]⟩ ⟨[]⟩),(6,zI bz),(7,zI zz.1),(8,zI zz.2.1)]) (fun zz=>[.l zz.2.2.2]) (fun zz=>(zz.2.1=zz.1+2*bz∧0≤zz.1∧zz.1≤n)∧aw v 8 128 cQ zz.2.2.1 zz.2.2.2∧zz.2.2.1.Perm xs) (fun zz=>(n-zz.1).toNat) (⟨0,(2*bz),ys,L⟩) ⟨by dsimp only;omega,hJ.2⟩ [0] ?_
  rintro⟨a,b,ys,L⟩ hK K3 hK3 rest
  dsimp only at hK
  have Rn:=hK.2.2.length_eq
  have hyp:=hP.perm hK.2.2
  refine zD 7<|zJ 35 (b≤n) (fun h3=>?_) fun h3=>?_
  ·
   refine zD 9<|ja (a+bz) (by omega)<|zD 2<|jc (vs:=[v,zI a,zI (a+bz),zI b,.func (.func 109) ⟨[]⟩ ⟨[]⟩]) [0] (aqz hK.2.1 (by omega) hyp (by omega)) ?_
   rintro aZv Y43 ⟨aKP,awk,aPZ⟩
   have aWJ:=awk.length_eq
   have aWC:=gq.perm hyp awk
   refine zD 9<|ja (2*bz) (by omega)<|ja (b+(2*bz)) (by omega)<|zD 2<|bE hK3 (⟨b,(b+(2*bz)),aKP,Y43⟩) ⟨by dsimp only;omega,aPZ,(awk.trans hK.2.2)⟩ (by dsimp only;omega) [0] (Sub.refl _)
  refine zD 7<|ja (a+bz) (by omega)<|zD 8<|zJ 54 ((a+bz) <n) (fun h4=>?_) fun h4=>?_
  ·
   refine zD 7<|jc (vs:=[v,zI a,zI (a+bz),zI n,.func (.func 109) ⟨[]⟩ ⟨[]⟩]) [0] (aqz hK.2.1 (by omega) hyp (by omega)) ?_
   rintro aZs Y60 ⟨aKN,ahm,NG⟩
   have aWG:=ahm.length_eq
   have aWz:=gq.perm hyp ahm
   refine zD 3<|ja (bz*2) (by omega)<|zD 2<|bE kL (⟨(bz*2),aKN,Y60⟩) ⟨by dsimp only;omega,NG,(ahm.trans hK.2.2)⟩ (by dsimp only;omega) [0] (Sub.refl _)
  refine zD 4<|ja (bz*2) (by omega)<|zD 2<|bE kL (⟨(bz*2),ys,L⟩) ⟨by dsimp only;omega,hK.2.1,hK.2.2⟩ (by dsimp only;omega) [0] (Sub.refl _)
 refine zD 2<|zR (.tuple ⟨[]⟩) [] [0] L ⟨_,hJ.2.2,hJ.2.1⟩
theorem P8{v:Value}{xs:List aj}{L:Cells}(ho:aw v 8 128 cQ xs L)(hN:xs.length≤100000)(hP:gq xs):dE zT 108 [v,.func (.func 109) ⟨[]⟩ ⟨[]⟩] ro L (fun r Y=>xe v xs Y):=by
 refine zC [.l L]<|zD 3<|CG ho<|zD 1<|jc (vs:=[v,zI (xs.length:Int),.func (.func 109) ⟨[]⟩ ⟨[]⟩]) [0] (aBY ho (by omega) hP rfl) ?_
 rintro rv8 Y8 ⟨ys8,hp8,ho8⟩
 have bbr:=hp8.length_eq
 have bbq:=gq.perm hP hp8
 refine zD 1<|zR (.tuple ⟨[]⟩) [] [0] Y8 ⟨_,hp8,ho8⟩
open Go.ConcR (KK wgBlock WgAt stA smA rd wr)
def akp(o:Oper):Array TypeId:=match o.op with
 | .call c=>c.argTypes
 | .go c=>c.argTypes
 | .defer c=>c.argTypes
 |_=> #[]
noncomputable def kE:rJ:=ayG zT 76 2
theorem aD8:kE.cl.OK zT 210 where
 ff:=by kernel_rfl
 fn:=⟨(Tryz.prog.funcs[106]?).getD default,by kernel_rfl,by kernel_rfl,by kernel_rfl⟩
 bf:=⟨by kernel_rfl,by kernel_rfl,by kernel_rfl⟩
 enter:=fun p1 p2=>by kernel_rfl
 op0:=by kernel_rfl
 rest:=⟨1,by kernel_rfl⟩
 size:=by kernel_rfl
 op:=⟨by kernel_rfl,by kernel_rfl,akp kE.cl.oc,by kernel_rfl⟩
theorem avw:∀v,v <2→∀W,∃k,Ij zT 210 v (Frame.enter zT 103 #[zP W,zI 1] .normal)=some (List.replicate k W):=by
 intro v hv W
 match v,hv with
 |0,_=>exact⟨7,by kernel_rfl⟩
 |1,_=>exact⟨4,by kernel_rfl⟩
theorem anM:∀W,∃k,xN zT 210 2 (Frame.enter zT 105 #[zP W] .deferred)=some (List.replicate k W):=fun W=>⟨27,by kernel_rfl⟩
theorem anL:∀W,∃k,Bt zT 210 2 (Frame.enter zT 107 #[zP W] .normal)=some (List.replicate k W):=fun W=>⟨164,by kernel_rfl⟩
noncomputable def nv(Wg Ch:Nat)(gI:Os)(cz:Array (Nat×ByteArray)):dN (List aj):=⟨zT,210,Wg,Ch,2,zS,gI,cz,fun l v X=>aw v 8 128 cQ l X⟩
theorem HO(K:aB)(on:Int)(hb:K.after.length≤4):∀(n a:Nat) (p:Nat→Int),(∀i,0≤p i∧p i≤4)→(gA K on n a p).length≤5^n∧∀q∈gA K on n a p,∀i,0≤q i∧q i≤4
 |0,a,p,hp=>by
  simp only[gA]
  cases jY on p K.facts 0 with
  |true=>exact⟨by simp,fun q hq=>by simp only[cond_true,List.mem_singleton] at hq;subst hq;exact hp⟩
  |false=>exact⟨by simp,fun q hq=>by simp at hq⟩
 |n+1,a,p,hp=>by
  obtain⟨h1,h2⟩:=HO K on hb n (a+1) p hp
  have hg:∀b,b <K.after.length→(nt K on n a p b).length≤5^n∧∀q∈nt K on n a p b,∀i,0≤q i∧q i≤4:=fun b cI=>by
   simp only[nt]
   cases !dc K on a b||qn p a ((b:Int)+1) with
   |true=>exact⟨by simp,fun q hq=>by simp at hq⟩
   |false=>
    simp only[cond_false]
    refine HO K on hb n (a+1) _ fun i=>?_
    simp only[ig]
    split
    ·omega
    exact hp i
  rw[qu]
  refine⟨?_,fun q hq=>?_⟩
  ·rw[List.length_append,List.length_flatMap]
   have:((List.range K.after.length).map fun b=>(nt K on n a p b).length).sum≤K.after.length*5^n:=by
    have key:∀l:List Nat,(∀b∈l,b <K.after.length)→(l.map fun b=>(nt K on n a p b).length).sum≤l.length*5^n:=by
     intro l
     induction l with
     |nil=>intro _;simp
     |cons b l ih=>
      intro hl
      have:=ih fun x hx=>hl x (List.mem_cons_of_mem _ hx)
      have:=(hg b (hl b List.mem_cons_self)).1
      simp only[List.map_cons,List.sum_cons,List.length_cons,Nat.succ_mul]
      omega
    have:=key (List.range K.after.length) fun b hb=>List.mem_range.1 hb
    simpa using this
   have h5:K.after.length*5^n≤4*5^n:=Nat.mul_le_mul_right _ hb
   rw[Nat.pow_succ]
   omega
  rcases List.mem_append.1 hq with hq|hq
  ·exact h2 q hq
  obtain⟨b,mv,hq⟩:=List.mem_flatMap.1 hq
  exact(hg b (List.mem_range.1 mv)).2 q hq
theorem j6(hV:eG K)(on:Int):(aJ K on).length≤625∧∀q∈aJ K on,∀i,0≤q i∧q i≤4:=by
 obtain⟨h1,h2⟩:=HO K on hV.after.1 K.before.length 0 (fun _=>0) fun _=>by omega
 refine⟨Nat.le_trans h1 ?_,h2⟩
 have:=Nat.pow_le_pow_right (n:=5) (by omega) hV.before.1
 omega
abbrev pV(b:Nat):Value:= zP b
noncomputable def Eo(f i:Nat):Array Oper:=cO (codeOf zT f) i
noncomputable def aTH(f i:Nat):Code:=((codeOf zT f)[i]?).getD .skip
def mB(K:aB)(on:Int)(keep:aj→Bool)(r:bG)(past:Nat):List aj:=((aJ K on).map (cu K r past)).filter keep
noncomputable def ZM(f:Nat):Code:=(((Tryz.prog.funcs[f]?).getD default).body).getD .skip
theorem iA{l:List α}{x:α}(h:l[k]?=some x):l.take (k+1)=l.take k++[x]:=by rw[List.take_succ,h];rfl
theorem ayx:gD [ZM 104]=[.region 0 (Eo 104 0) false,.region 1 (Eo 104 1) false,.region 2 (Eo 104 2) false,aTH 104 3,.region 7 (Eo 104 4) false]:=by kernel_rfl
theorem aDZ{rows:List bG}{on:Int}{past:Nat}{Jg:bG}{keep:aj→Bool}{Wg Ch:Nat}{gI:Os}{cz:Array (Nat×ByteArray)}{b3 b4 b5 b7 b9:Nat}(hV:eG K)(hF:nY ro f K rows)(CM:rows[past]?=some Jg) (Hv:BR zT g=true)
 (gZ:∀aD,Sub ro aD→∀p∈aJ K on,dr zT g (fi++[.agg ⟨cQ (cu K Jg past p)⟩]++ca) aD (.bool (keep (cu K Jg past p))))
 (g3:ro b3=some (.cells ⟨[pV f]⟩ 100 (0,0))) (g4:ro b4=some (.cells ⟨[.int .u8 on]⟩ 105 (0,0))) (g9:ro b9=some (.cells ⟨[zI (past:Int)]⟩ 3 (0,0))) (g5:ro b5=some (.cells ⟨[.func (.func g) ⟨fi⟩ ⟨ca⟩]⟩ 163 (0,0))) (g7:ro b7=some (.cells ⟨[.chan (some Ch)]⟩ 202 (0,0))):
 eH zT false ((nv Wg Ch gI cz).JM (mB K on keep Jg past)) (born zT {target:= .fn (.func 104) ⟨[pV Wg,pV b3,pV b4,pV b9,pV b5,pV b7]⟩,args:= #[]}) ⟨ro,[]⟩:=by
 have hT:Closed zT false (eH zT false ((nv Wg Ch gI cz).JM (mB K on keep Jg past))):=dO _ _ _
 refine aBP (fn:=(Tryz.prog.funcs[104]?).getD default) (c:=ZM 104) (n:=26) (by kernel_rfl) (by kernel_rfl) (by kernel_rfl) (by kernel_rfl) (by rfl)<|p7 hT ayx fun l1 CX=>?_
 refine atu hT (a:=eC (Eo 104 0) 0) (f:=105) (xs:= #[.tmp 0]) (vs:=[pV Wg]) (ats:=akp (eC (Eo 104 0) 0)) (by kernel_rfl) (by kernel_rfl) (by kernel_rfl) (by decide) rfl<|p7 hT CX fun l2 qO=>?_
 refine vN ar hT<|jn fun b6=>zD 1<|xW<|p7 hT qO fun l3 O8=>?_
 refine vN ar hT<|jl (b:=b3) (off:=0) (m:=1) (vs:=[pV f]) 0 ⟨_,_,_,.inl g3,rfl⟩<|jl (b:=b4) (off:=0) (m:=1) (vs:=[.int .u8 on]) 0 ⟨_,_,_,.inl g4,rfl⟩<|jc [] (KU (on:=on) hF hV) ?_
 rintro _ _ ⟨q1,q2,q3,q4,rfl,rfl⟩
 refine jf [0] [(q1,.cells ⟨[pV f]⟩ 100 (0,0)),(q2,.cells ⟨[.func (.func 116) ⟨[]⟩ ⟨[pV q1,pV q4]⟩]⟩ 218 (0,0)),(q3,.cells ⟨Bp ⟨dc K on⟩⟩ 153 (0,0)),(q4,.cells ⟨[.int .u8 on]⟩ 105 (0,0))] fun aG cg hk1=>zD 1<|aBN<|aqt hT O8 fun l4 O7=>?_
 refine aBO ar hT ?_
 have Ba:=hF.up cg
 refine zD 1<|n8 ?_
 refine jrf [] (YA (on:=on) Ba hV (hk1 _ (.head _)) (hk1 _ (.tail _ (.head _))) (hk1 _ (.tail _ (.tail _ (.head _)))) (hk1 _ (.tail _ (.tail _ (.tail _ (.head _)))))) (by rintro _ _ _ _ ⟨_,_,rfl,_⟩;rfl)
  (fun(zz:Value×Cells)=>[.b b6 (.cells ⟨[zz.1]⟩ 103 (0,0)),.l zz.2]) (fun kk=>(fun(zz:Value×Cells)=>aw zz.1 8 128 cQ ((((aJ K on).take kk).map (cu K Jg past)).filter keep) zz.2)) (fun jump=>(fun(zz:Value×Cells)=>False)) (⟨zS,[]⟩) (aw.nil _ _ _) [1,0] ?_ ?_ ?_
 ·rintro bl bd kk vs LL ⟨v,Lb⟩ lj iK ⟨p,hp,rfl,rfl⟩ hI qj
  dsimp only at hI
  have aE0:=zL hp
  have hp4:=(j6 hV on).2 p aE0
  have ahg:=Sub.trans cg qj
  have hlen:((((aJ K on).take kk).map (cu K Jg past)).filter keep).length≤625:=by
   refine Nat.le_trans (List.length_filter_le _ _) ?_
   rw[List.length_map,List.length_take]
   have:=(j6 hV on).1
   omega
  refine zD 1<|jn fun wZ=>jd 2 [0]<|jbI 1<|zD 3<|jl (b:=b3) (off:=0) (m:=1) (vs:=[pV f]) 0 ⟨_,_,_,.inl (ahg _ _ g3),rfl⟩<|jl (b:=b9) (off:=0) (m:=1) (vs:=[zI (past:Int)]) 0 ⟨_,_,_,.inl (ahg _ _ g9),rfl⟩<|jd 1 [0]<|jp (vs:=[pV f,zI (past:Int),.agg ⟨eP4 p⟩]) [] [] (fun yS hs hZ=>aq8 (hF.up (Sub.trans ahg hs)) hV CM hp4)<|jn fun vy=>jd 4 [0]<|jl (b:=b5) (off:=0) (m:=1) (vs:=[.func (.func g) ⟨fi⟩ ⟨ca⟩]) 0 ⟨_,_,_,.inl (ahg _ _ g5),rfl⟩<|jd 1 [0]<|jpF (f:=g) (V:= .bool (keep (cu K Jg past p))) (vs:=fi++[Value.agg ⟨cQ (cu K Jg past p)⟩]++ca) [] [] Hv (fun yS hs hZ=>gZ _ (Sub.trans ahg hs) p aE0)<|zD 1<|js 19 (keep (cu K Jg past p)) (fun h5=>?_) (fun h5=>?_)
  ·refine jd 4 [3,0]<|jn fun OA=>iE (sz:=8) (ps:=(((aJ K on).take kk).map (cu K Jg past)).filter keep) (qs:=[cu K Jg past p]) (enc:=cQ) (w:= .slice (some ⟨OA,0,none⟩) 1 1) [5] [0] [(OA,.cells ⟨([cu K Jg past p].map cQ).flatten⟩ 128 (0,0))] hI (fun s _ hZ=>bN [cu K Jg past p] (hZ _ (.head _)) (by intro p hp;rfl)) (fun p _=>ai rfl) (by simp only[List.length_cons,List.length_nil];omega) (fun v23 L23 ze=>?_)
   obtain⟨va,vc,he⟩:=ze.form
   subst he
   refine jd 2 [5]<|jyn qy0 (Sub.refl _) ⟨.slice va _ vc,L23⟩ (by dsimp only;rw[iA hp,List.map_append,List.filter_append,List.map_cons,List.map_nil,List.filter_cons_of_pos h5,List.filter_nil];exact ze) [4,5,0]
  refine zD 2<|jyn qy0 (Sub.refl _) ⟨v,Lb⟩ (by dsimp only;rw[iA hp,List.map_append,List.filter_append,List.map_cons,List.map_nil,List.filter_cons_of_neg (by rw[h5];simp),List.filter_nil,List.append_nil];exact hI) [2,3,4]
 ·rintro bd ⟨v,Lb⟩ Z hI rfl
  dsimp only at hI
  rw[List.take_length] at hI
  refine aBM<|p7 hT O7 fun l5 O6=>?_
  have:=gi O6
  subst this
  show TT _ _ (.inRegion (Eo 104 4) (0::[1,2])::[]) _ _ _ _ _
  refine tLd hT (.chan (some Ch)) (a:=eC (Eo 104 4) 0) (x:= .tmp 5) (U:=202) (q:=b7) (by kernel_rfl) (by kernel_rfl) (by kernel_rfl) (by kernel_rfl) (by decide) rfl (fun _ _ _ _=> .inl (cg _ _ g7))<|aL5 hT v (a:=eC (Eo 104 4) 1) (x:= .tmp 6) (U:=103) (q:=b6) (by kernel_rfl) (by kernel_rfl) (by kernel_rfl) (by kernel_rfl) (by decide) rfl [2] 103<|aBH (E:=nv Wg Ch gI cz) (a:=eC (Eo 104 4) 2) (sc:= .tmp 24) (sv:= .tmp 25) (v:=v) (Y:=Lb) [3] (by kernel_rfl) (by kernel_rfl) (fun ρ=>by kernel_rfl) (by decide) rfl hI<|Xr (dO _ _ _)<|atp (E:=nv Wg Ch gI cz) (fn:=(Tryz.prog.funcs[104]?).getD default) (dn:=105) (bd:=bd) (by kernel_rfl) (by kernel_rfl) (by kernel_rfl) (anM Wg).choose_spec xu [0] rfl rfl
 rintro bd ⟨v,Lb⟩ Z jump hS hZ
 exact hS.elim
theorem f26:gD [ZM 76]=[.region 0 kE.o0 false,.region 1 kE.o1 false,.region 2 kE.o2 false,.region 3 kE.o3 false,.block 0 (.loop kE.lb),.region 9 kE.o9 false,.region 10 kE.o10 false,.region 11 kE.o11 false,.block 2 (.loop kE.rb),.region 15 (Eo 76 9) false,.region 16 (Eo 76 10) false,.ret]:=by kernel_rfl
theorem aHG:gD [kE.lb]=[.region 4 kE.o4 false,.cond (.tmp 19) .skip (.exit 0),.block 1 kE.DL,.region 8 kE.o8 false]:=by kernel_rfl
theorem aTt:gD [kE.DL]=[.region 5 kE.o5 false,.region 6 kE.o6 false,.region 7 kE.o7 false]:=by kernel_rfl
theorem aHF:gD [kE.rb]=[.region 12 kE.Cm false,.cond (.tmp 27) .skip (.exit 2),.block 3 kE.uI]:=by kernel_rfl
theorem aTs:gD [kE.uI]=[.region 13 kE.o13 false,.region 14 kE.o14 false]:=by kernel_rfl
def iz(K:aB)(on:Int)(keep:aj→Bool)(rows:List bG)(n:Nat):List (List aj):=(List.range n).map fun i=>mB K on keep ((rows[i]?).getD ⟨fun _ _=>false⟩) i
theorem Ps{on:Int}{keep:aj→Bool}{rows:List bG}{n:Nat}{r:bG}(h:rows[n]?=some r):iz K on keep rows (n+1)=iz K on keep rows n++[mB K on keep r n]:=by
 simp only[iz,List.range_succ,List.map_append,List.map_cons,List.map_nil,h,Option.getD_some]
theorem yE(K:aB)(on:Int)(keep:aj→Bool)(rows:List bG)(n:Nat):(iz K on keep rows n).length=n:=by simp[iz]
def cY(K:aB)(on:Int)(keep:aj→Bool)(rows:List bG):List aj:=(iz K on keep rows rows.length).flatten
theorem qH(hV:eG K)(on:Int)(keep:aj→Bool){rows:List bG}(hR:rows.length≤2):(cY K on keep rows).length≤1250:=by
 have h1:∀r i,(mB K on keep r i).length≤625:=fun r i=>Nat.le_trans (List.length_filter_le _ _) (by rw[List.length_map];exact(j6 hV on).1)
 have key:∀n,(iz K on keep rows n).flatten.length≤n*625:=by
  intro n
  induction n with
  |zero=>simp[iz]
  |succ n ih=>
   have:=h1 ((rows[n]?).getD ⟨fun _ _=>false⟩) n
   simp only[iz,List.range_succ,List.map_append,List.map_cons,List.map_nil,List.flatten_append,List.length_append,List.flatten_cons,List.flatten_nil,List.append_nil] at ih ⊢
   omega
 have:=key rows.length
 have h2:rows.length*625≤2*625:=Nat.mul_le_mul_right _ hR
 exact Nat.le_trans this h2
theorem acJ{on:Int}{keep:aj→Bool}{rows:List bG}(hR:rows.length≤2):gq (cY K on keep rows):=by
 intro x hx
 obtain⟨l,hl,hx⟩:=List.mem_flatten.1 hx
 obtain⟨i,hi,rfl⟩:=List.mem_map.1 hl
 have hi:=List.mem_range.1 hi
 obtain⟨p,_,rfl⟩:=List.mem_map.1 (List.mem_filter.1 hx).1
 simp only[cu]
 omega
theorem ajp(a:List (List α))(o:List α)(b:List (List α))(zs:List α):((zs++o)++(a++b).flatten).Perm (zs++(a++o::b).flatten):=by
 simp only[List.flatten_append,List.flatten_cons,List.append_assoc]
 refine .append_left _ ?_
 rw[←List.append_assoc,←List.append_assoc]
 exact .append_right _ List.perm_append_comm
theorem aD7{rows:List bG}{on:Int}{keep:aj→Bool}{fr:Cells}(hV:eG K)(hF:nY ro f K rows)(hR:rows.length≤2)(Hv:BR zT g=true)
 (gZ:∀i r,rows[i]?=some r→∀aD,Sub ro aD→∀p∈aJ K on,dr zT g (fi++[.agg ⟨cQ (cu K r i p)⟩]++ca) aD (.bool (keep (cu K r i p)))):
 Fn (C0 zT) zT 76 ⟨[pV f,.int .u8 on,.func (.func g) ⟨fi⟩ ⟨ca⟩]⟩ ⟨ro,fr⟩ (fun en s'=>∃v Y zs,en= .returned v∧s'=⟨ro,Y++fr⟩∧zs.Perm (cY K on keep rows)∧aw v 8 128 cQ zs Y):=by
 rintro main T ⟨rfl,gI,cz,Post,rfl⟩ cl Oh kr _
 have hT:=sH zT gI cz Post
 obtain⟨c0,c1,c2,vc,vh,vr,vb,va,vf,vt,hv,hf,qo,nJ,hr,ED,JC,Le,bW⟩:=id hF
 obtain⟨nE,Em,Ek,mV,rfl,Qf,MN,MM⟩:=bW
 refine ato (fn:=(Tryz.prog.funcs[76]?).getD default) (c:=ZM 76) (n:=35) (by kernel_rfl) (by kernel_rfl) (by kernel_rfl) (by rfl)<|p7 hT f26 fun l1 CX=>?_
 refine vN ar hT<|jn fun b3=>jn fun b4=>jn fun b5=>zD 2<|xW<|p7 hT CX fun l2 qO=>?_
 show TT _ _ (.inRegion kE.o1 (0::[1,2])::_) _ _ _ _ _
 refine aBI hT (a:=kE.a1) (f:=fun q=> .chan (some q)) (ob:= .chan 0 #[] false 0 0 false) (by kernel_rfl) (by kernel_rfl) (fun e q=>by kernel_rfl) (by decide) rfl fun Ch=>?_
 refine vN ar hT<|jn fun b7=>jd 2 [0]<|xW<|p7 hT qO fun l3 O8=>?_
 show TT _ _ (.inRegion kE.o2 (0::[])::_) _ _ _ _ _
 refine aBI hT (a:=kE.a2) (f:=fun q=> zP q) (ob:=wgBlock 210 0 0) (by kernel_rfl) (by kernel_rfl) (fun e q=>by kernel_rfl) (by decide) rfl fun Wg=>?_
 refine Xr hT<|att (E:=nv Wg Ch gI cz) (Q:=Good zT Post) (tm:=false) 0 2 ((b7,.cells ⟨[.chan (some Ch)]⟩ 202 (0,0))::(b5,.cells ⟨[.func (.func g) ⟨fi⟩ ⟨ca⟩]⟩ 163 (0,0))::(b4,.cells ⟨[.int .u8 on]⟩ 105 (0,0))::(b3,.cells ⟨[pV f]⟩ 100 (0,0))::fr) hT (fun L aG hl dH VV=>?_)
 have h7:=hl.kn _ (.head _)
 have h5:=hl.kn _ (.tail _ (.head _))
 have h4:=hl.kn _ (.tail _ (.tail _ (.head _)))
 have h3:=hl.kn _ (.tail _ (.tail _ (.tail _ (.head _))))
 dsimp only at h7 h5 h4 h3
 have hM:∀pend os,Closed zT true (TM (nv Wg Ch gI cz) L (Good zT Post) pend false os 0):=fun pend os=>eY (E:=nv Wg Ch gI cz) false os (fun e=>(by cases e))
 have hC:∀os,Closed zT true (TM (nv Wg Ch gI cz) L (Good zT Post) 0 true os 0):=fun os=>eY (E:=nv Wg Ch gI cz) true os (fun _=>rfl)
 refine p7 (hM 0 []) O8 fun l4 O7=>?_
 refine vN ar (hM 0 [])<|jl (b:=b3) (off:=0) (m:=1) (vs:=[pV f]) 0 ⟨_,_,_,.inl h3,rfl⟩<|zD 2<|jl (b:=f) (off:=0) (m:=13) (vs:=[c0,c1,c2,vc,vh,vr,vb,va,zI K.gone,zI K.new,zI K.af,vf,.slice nE rows.length mV]) 12 ⟨_,_,_,.inl (hl.sub _ _ hf),rfl⟩<|zD 3<|xW<|Mv (hM 0 []) O7 fun l5 O6=>?_
 refine aqs (hM 0 []) (rest:=[]) rfl fun l6 IZ=>?_
 have:=gi IZ
 subst this
 have loop:∀m i lj,m+i=rows.length→Sub aG lj→(∀lj rest,Sub aG lj→TT (TM (nv Wg Ch gI cz) L (Good zT Post) 0 false (iz K on keep rows rows.length) 0) (fr0 76 .normal) (l5.map .code++[]) (cl::Oh) 35 [] lj (some ⟨.fin .normal,[(7,pV b7),(8,pV Wg)]++rest,[],⟨[],[]⟩⟩))→
  ∀rest,TT (TM (nv Wg Ch gI cz) L (Good zT Post) 0 false (iz K on keep rows i) 0) (fr0 76 .normal) ([kE.lb].map .code++(.inLoop kE.lb::(.inBlock 0::(l5.map .code++[])))) (cl::Oh) 35 [] lj (some ⟨.fin .normal,[(3,pV b3),(4,pV b4),(5,pV b5),(7,pV b7),(8,pV Wg),(17,zI (rows.length:Int)),(18,zI (i:Int))]++rest,[],⟨[],[]⟩⟩):=by
  intro m
  induction m with
  |zero=>
   intro i lj hi hs ql rest
   refine p7 (hM 0 _) aHG fun m1 hm1=>?_
   refine vN ar (hM 0 _)<|zD 2<|xW<|Xs (hM 0 _) (t:=false) (q:=decide ((i:Int) <(rows.length:Int))) hm1 (by simp;omega) fun m2 Fe=>?_
   refine aqu (hM 0 _) (k':=l5.map .code++[]) (by rw[qz];simp[exitTo]) ?_
   have:i=rows.length:=by omega
   subst this
   exact tSt (hM 0 _) [(7,pV b7),(8,pV Wg)] [] [] fun rest=>ql lj rest hs
  |succ m ih=>
   intro i lj hi hs ql rest
   obtain⟨r,CM⟩:∃r,rows[i]?=some r:=⟨_,List.getElem?_eq_getElem (by omega)⟩
   refine p7 (hM 0 _) aHG fun m1 hm1=>?_
   refine vN ar (hM 0 _)<|zD 2<|xW<|Xs (hM 0 _) (t:=true) (q:=decide ((i:Int) <(rows.length:Int))) hm1 (by simp;omega) fun m2 Fe=>?_
   refine aqq (hM 0 _)<|Mv (hM 0 _) Fe fun m3 hm3=>?_
   refine p7 (hM 0 _) aTt fun m4 hm4=>?_
   refine vN ar (hM 0 _)<|zD 1<|jn fun b9=>jd 2 [0]<|xW<|p7 (hM 0 _) hm4 fun m5 hm5=>?_
   show TT _ _ (.inRegion kE.o6 [0]::_) _ _ _ _ _
   refine aL8 (E:=nv Wg Ch gI cz) (a:=kE.a6) (f:=103) (x:= .tmp 8) (ats:=akp kE.a6) ?_ (by kernel_rfl) (by kernel_rfl) (by kernel_rfl) (k8 (by kernel_rfl)) (by decide) rfl (by show _ <2;rw[yE];omega) (by show Ij zT 210 _ _=_;rw[yE];exact(avw i (by omega) Wg).choose_spec) xu
   refine p7 (hM 1 _) hm5 fun m6 hm6=>?_
   have:=gi hm6
   subst this
   show TT _ _ (.inRegion kE.o7 (0::[1])::_) _ _ _ _ _
   refine aBF (hM 1 _) (a:=eC kE.o7 0) (.func (.func 104) ⟨[]⟩ ⟨[pV Wg,pV b3,pV b4,pV b9,pV b5,pV b7]⟩) (by kernel_rfl) (by kernel_rfl) (by decide) rfl<|tGo (E:=nv Wg Ch gI cz) (mB K on keep r i) (a:=kE.a7) (f:=104) (y:= .tmp 22) (ca:=[pV Wg,pV b3,pV b4,pV b9,pV b5,pV b7]) (ats:=akp kE.a7) [(b9,.cells ⟨[zI (i:Int)]⟩ 3 (0,0))] (by kernel_rfl) (by kernel_rfl) (by kernel_rfl) (by decide) rfl (fun yS BO hk3=>⟨?_,?_⟩)
   ·have uU:=Sub.trans hs BO
    have h03:=Sub.trans hl.sub uU
    exact aDZ hV (hF.up h03) CM Hv (fun aD mX=>gZ i r CM aD (Sub.trans h03 mX)) (uU _ _ h3) (uU _ _ h4) (hk3 _ (.head _)) (uU _ _ h5) (uU _ _ h7)
   rw[←Ps CM]
   refine Xr (hM 0 _) (aqv (hM 0 _) ?_)
   refine p7 (hM 0 _) hm3 fun m7 hm7=>?_
   have:=gi hm7
   subst this
   refine vN ar (hM 0 _)<|ja ((i:Int)+1) (by omega)<|zD 2<|xW<|aeg (hM 0 _)<|tSt (hM 0 _) [(3,pV b3),(4,pV b4),(5,pV b5),(7,pV b7),(8,pV Wg),(17,zI (rows.length:Int)),(18,zI ((i+1:Nat):Int))] [] [] fun rest=>ih (i+1) yS (by omega) (Sub.trans hs BO) ql rest
 refine tSt (hM 0 _) [(3,pV b3),(4,pV b4),(5,pV b5),(7,pV b7),(8,pV Wg),(17,zI (rows.length:Int)),(18,zI (((0:Nat)):Int))] [] [] fun rest=>loop rows.length 0 aG (by omega) (Sub.refl _) (fun lj rest qj=>?_) rest
 refine p7 (hM 0 _) O6 fun l7 EB=>?_
 show TT _ _ (.inRegion kE.o9 (0::[1])::_) _ _ _ _ _
 refine aBF (hM 0 _) (a:=eC kE.o9 0) (.func (.func 106) ⟨[]⟩ ⟨[pV Wg,pV b7]⟩) (by kernel_rfl) (by kernel_rfl) (by decide) rfl<|atx (E:=nv Wg Ch gI cz) (a:=kE.a9) (f:=106) (y:= .tmp 24) (ca:=[pV Wg,pV b7]) (ats:=akp kE.a9) [] (by kernel_rfl) (by kernel_rfl) (by kernel_rfl) (by decide) rfl (fun yS BO _=>?_)
 have uU:=Sub.trans qj BO
 refine⟨amg (E:=nv Wg Ch gI cz) (x:=kE.cl) aD8 (anL Wg).choose_spec xu (q:=b7) (t:=202) (fz:=(0,0)) (a:=eC kE.cl.q1 0) (y:= .tmp 1) (U:=202) (uU _ _ h7) (by kernel_rfl) (by kernel_rfl) (by kernel_rfl) (by kernel_rfl) (by kernel_rfl) (by kernel_rfl),?_⟩
 refine Xr (hC _)<|p7 (hC _) EB fun l8 Y0=>?_
 refine vN ar (hC _)<|zD 2<|xW<|p7 (hC _) Y0 fun l9 hl9=>?_
 refine vN ar (hC _)<|jl (b:=b7) (off:=0) (m:=1) (vs:=[.chan (some Ch)]) 0 ⟨_,_,_,.inl (uU _ _ h7),rfl⟩<|zD 1<|xW<|Mv (hC _) hl9 fun l10 awS=>?_
 refine aqs (hC _) (rest:=[]) rfl fun l11 awR=>?_
 have:=gi awR
 subst this
 have hlen:=qH hV on keep hR
 have recv:∀m (os:List (List aj)) (v:Value) (L1:Cells) (zs:List aj),os.length=m→aw v 8 128 cQ zs L1→(zs++os.flatten).Perm (cY K on keep rows)→∀rest,
  TT (TM (nv Wg Ch gI cz) L (Good zT Post) 0 true os 0) (fr0 76 .normal) ([kE.rb].map .code++(.inLoop kE.rb::(.inBlock 2::(l10.map .code++[])))) (cl::Oh) 35 [] yS (some ⟨.fin .normal,[(10,v),(25,.chan (some Ch))]++rest,[.l L1],⟨[],[]⟩⟩):=by
  intro m
  induction m with
  |zero=>
   intro os v L1 zs tE ho hp rest
   have tE:=List.eq_nil_of_length_eq_zero tE
   subst tE
   refine p7 (hC _) aHF fun m1 hm1=>?_
   show TT _ _ (.inRegion kE.Cm (0::[1])::_) _ _ _ _ _
   refine aqr (E:=nv Wg Ch gI cz) (a:=kE.Tb) (rc:= .tmp 25) (z:= zS) hl uU VV (by kernel_rfl) (by kernel_rfl) (fun ρ=>by kernel_rfl) (by decide) rfl (fun a' oo b' v' Y he _=>by simp at he) fun _=>?_
   refine vN ar hT<|zD 2<|xW<|Xs hT (t:=false) (q:=false) hm1 rfl fun m2 Fe=>?_
   refine aqu hT (k':=l10.map .code++[]) (by rw[qz];simp[exitTo]) ?_
   refine p7 hT awS fun m3 hm3=>?_
   refine vN ar hT<|zD 1 ?_
   have hp':zs.Perm (cY K on keep rows):=by simpa using hp
   refine jc (vs:=[v,.func (.func 109) ⟨[]⟩ ⟨[]⟩]) [1] (P8 ho (by rw[hp'.length_eq];omega) ((acJ hR).perm hp')) ?_
   rintro _ Y ⟨ys,hys,hoY⟩
   refine zD 1<|xW<|p7 hT hm3 fun m4 hm4=>?_
   refine vN ar hT<|zD 3<|xW<|aqt hT hm4 fun m5 hm5=>?_
   refine aL4 ar hT (fn:=(Tryz.prog.funcs[76]?).getD default) v [] [0,1] (Y++((b7,.cells ⟨[.chan (some Ch)]⟩ 202 (0,0))::(b5,.cells ⟨[.func (.func g) ⟨fi⟩ ⟨ca⟩]⟩ 163 (0,0))::(b4,.cells ⟨[.int .u8 on]⟩ 105 (0,0))::(b3,.cells ⟨[pV f]⟩ 100 (0,0))::fr)) (by kernel_rfl)<|hT.mono _ ⟨ro,Y++fr⟩ _ (dK (J:=[(b7,.cells ⟨[.chan (some Ch)]⟩ 202 (0,0)),(b5,.cells ⟨[.func (.func g) ⟨fi⟩ ⟨ca⟩]⟩ 163 (0,0)),(b4,.cells ⟨[.int .u8 on]⟩ 105 (0,0)),(b3,.cells ⟨[pV f]⟩ 100 (0,0))]) ?_ (Sub.refl _)) (kr v _ ⟨v,Y,ys,rfl,rfl,hys.trans hp',hoY⟩)
   rw[List.append_assoc]
   exact .append_left _ (List.perm_append_comm (l₁:=[_,_,_,_]))
  |succ m ih=>
   intro os v L1 zs tE ho hp rest
   refine p7 (hC _) aHF fun m1 hm1=>?_
   show TT _ _ (.inRegion kE.Cm (0::[1])::_) _ _ _ _ _
   refine aqr (E:=nv Wg Ch gI cz) (a:=kE.Tb) (rc:= .tmp 25) (z:= zS) hl uU VV (by kernel_rfl) (by kernel_rfl) (fun ρ=>by kernel_rfl) (by decide) rfl (fun a' oo b' v' Y he oG=>?_) fun he=>by simp[he] at tE
   subst he
   have oG:aw v' 8 128 cQ oo Y:=oG
   refine vN ar (hC _)<|zD 2<|xW<|Xs (hC _) (t:=true) (q:=true) hm1 rfl fun m2 Fe=>?_
   refine aqq (hC _)<|Mv (hC _) Fe fun m3 hm3=>?_
   have:=gi hm3
   subst this
   refine p7 (hC _) aTs fun m4 hm4=>?_
   refine vN ar (hC _)<|zD 3<|xW<|p7 (hC _) hm4 fun m5 hm5=>?_
   have:=gi hm5
   subst this
   refine vN ar (hC _)<|zD 2 ?_
   have Tw:((zs++oo)++(a'++b').flatten).Perm (cY K on keep rows):=(ajp a' oo b' zs).trans hp
   have hlz:zs.length+oo.length≤1250:=by
    have:=Tw.length_eq
    simp only[List.length_append] at this
    omega
   refine iE (sz:=8) (ps:=zs) (qs:=oo) (enc:=cQ) (w:=v') [1] [0] Y ho (fun s _ hZ=>oG.sl hZ) (fun p _=>ai rfl) (by omega) fun v23 L23 ze=>zD 2<|xW<|aqv (hC _) (aeg (hC _) ?_)
   exact tSt (hC _) [(10,v23),(25,.chan (some Ch))] [.l L23] [0] fun rest=>ih (a'++b') v23 L23 (zs++oo) (by simp at tE ⊢;omega) ze Tw rest
 refine tGe<|tSt (hC _) [(10,zS),(25,.chan (some Ch))] [.l []] [0] fun rest=>recv rows.length (iz K on keep rows rows.length) (zS) [] [] (yE _ _ _ _ _) (aw.nil _ _ _) (by simp[cY]) rest
theorem agM{rows:List bG}{on:Int}{keep:aj→Bool}(hV:eG K)(hF:nY ro f K rows)(hR:rows.length≤2)(Hv:BR zT g=true)
 (gZ:∀i r,rows[i]?=some r→∀aD,Sub ro aD→∀p∈aJ K on,dr zT g (fi++[.agg ⟨cQ (cu K r i p)⟩]++ca) aD (.bool (keep (cu K r i p)))):
 BU zT 76 [pV f,.int .u8 on,.func (.func g) ⟨fi⟩ ⟨ca⟩] ro [] (fun v Y=>∃zs,zs.Perm (cY K on keep rows)∧aw v 8 128 cQ zs Y):=
 fun fr=>Fn.mono (aD7 (fr:=fr) hV hF hR Hv gZ) fun en s' ⟨v,Y,zs,h1,h2,h3,h4⟩=>⟨v,Y,h1,by rw[h2];exact St.le_refl _,zs,h3,h4⟩
theorem Yx{rows:List bG}{on:Int}(hV:eG K)(hF:nY ro f K rows)(hR:rows.length≤2):
 BU zT 41 [pV f,.int .u8 on] ro [] (fun v Y=>∃zs,zs.Perm (cY K on (cB K.gone K.new K.af) rows)∧aw v 8 128 cQ zs Y):=by
 refine G3 ar [] [] aW fun fr=>zD 10<|Tq (vs:=[pV f,.int .u8 on,.func (.func 77) ⟨[pV f]⟩ ⟨[]⟩]) [] (fun _ _ h=>h) (agM (keep:=cB K.gone K.new K.af) hV hF hR (by kernel_rfl) fun i r hr aD hs p hp=>?_) ?_
 ·obtain⟨c0,c1,c2,vc,vh,vr,vb,va,vf,vt,hv,hf,_⟩:=hF.up hs
  exact agI hf
 rintro v Y ⟨zs,hz,ho⟩
 refine zD 3<|Tp qC v [0,1] Y (Sub.refl _) ⟨zs,hz,ho⟩
theorem ayV{x:Int}(h:0≤x∧x≤4):iI x 0 4=true:=by simp only[iI,Bool.and_eq_true,decide_eq_true_eq];omega
theorem afS:rG (bs [97]):=⟨by decide,.inl (by decide)⟩
def akD(ro:Nat→Option Obj)(v:Value)(W:List (List Int)):Prop:=∃ws,bC ro v 1 fK ws∧di (fun w l=>bC ro w 1 cm l) ws W
def qI(ro:Nat→Option Obj)(l:List Value)(W:List (List Int)):Prop:=∀aG,Sub ro aG→dE zT 95 [.agg ⟨l.take 3⟩] aG [] (fun r Y=>∃a n c,r= .tuple ⟨[.slice a n c,zI 0]⟩∧n=W.length∧∀lj,Knows lj Y→akD lj (.slice a n c) W)
theorem avA(hK:fF ro l K)(hO:jz K)(hV:eG K)(hW:1≤W.length∧W.length≤4)(h76:qI ro l W):dE zT 71 [.agg ⟨l⟩] ro [] (fun r Y=>∃a n c,r= .slice a n c∧n=W.length∧∀lj,Knows lj Y→akD lj r W):=by
 have Zi:=hK
 obtain⟨vS,vT,vc,vh,vr,vb,va,vf,fa,fc,hv,rfl,hS,hT,qo,nJ,hr,hb,ha,hf⟩:=hK
 obtain⟨ib,hs,e9⟩:=id hS
 obtain⟨iN,ht,eT⟩:=id hT
 obtain⟨hc,hh,DT⟩:=id qo
 have vu:=hr
 have u9:=hb
 have ha0:=ha
 have hf0:=hf
 obtain⟨lu,Qi,Qg,kB,rfl,Qh,Jl,Jk⟩:=hs
 obtain⟨eP,AG,AE,dQ,rfl,AF,sr,sq⟩:=ht
 obtain⟨eg,AJ,AI,dV,rfl,DC,yU,yT⟩:=hc
 obtain⟨dI,u4,u3,du,rfl,xw,qR,qQ⟩:=hh
 obtain⟨kU,IP,IN,kT,rfl,OX,Gq,Gp⟩:=hr
 obtain⟨mw,O0,OY,mo,rfl,OZ,MS,MQ⟩:=hb
 obtain⟨lP,Ko,Kl,lG,rfl,Km,Jn,Jm⟩:=ha
 obtain⟨gX,v9,vZ,fT,rfl,AH,qL,qK⟩:=hf
 have CX:=hO.rules
 have qO:=hO.before.1
 have O8:=hO.after.1
 have O7:=hO.facts.1
 have O6:=hO.ways.1
 have IZ:=e9.len
 have EB:=eT.len
 have Y0:=hO.oS.two
 have hl9:=hO.c8.nh
 have OW:∀(i:Nat) (p:da),([]:List da)[i]?=some p→cA ⟨ro,[]⟩ 0 (0+i*6) 6 (mP p):=fun _ _ h=>oE h
 have hgl:=hO.tZ
 refine zE<|zD 2<|jn fun b1=>jd 6 [0]<|jc (vs:=[.agg ⟨[.slice lu ib.length kB,.slice eP iN.length dQ,.slice fa 0 fc]⟩]) [] (h76 _ (Sub.refl _)) ?_
 rintro _ Z3 ⟨a10,n10,c10,rfl,aQb,ahb⟩
 refine zD 9<|jp (vs:=[zI 0]) [] [] (fun aG hs hZ=>AZ)<|zD 10<|zJ 15 ((n10:Int)=0) (fun h1=>?_) fun h1=>?_
 ·
  exfalso;omega
 refine zD 8<|zJ 20 ((n10:Int)>4) (fun h2=>?_) fun h2=>?_
 ·
  exfalso;omega
 refine jd 6 [1]<|jp (vs:=[.agg ⟨[.slice eg K.cs.length dV,.slice dI hv.length du]⟩]) [] [] (fun aG hs hZ=>atz (qo.up hs) nJ hV.c8)<|jp (vs:=[zI 0]) [] [] (fun aG hs hZ=>AZ)<|jd 5 [1]<|jp (vs:=[.slice kU K.rules.length kT,.string (bs [97]),.string (bs [97])]) [] [] (fun aG hs hZ=>QS (vu.up hs) hV.rules.2 hV.rules.1 afS afS)<|zD 8<|jp (vs:=[zI 0]) [] [] (fun aG hs hZ=>AZ)<|jd 6 [1,1]<|jp (vs:=[.agg ⟨[.slice lu ib.length kB,.slice eP iN.length dQ,.slice fa 0 fc,.slice eg K.cs.length dV,.slice dI hv.length du,.slice kU K.rules.length kT,.slice mw K.before.length mo,.slice lP K.after.length lG,zI K.gone,zI K.new,zI K.af,.slice gX K.facts.length fT]⟩,.slice mw K.before.length mo,.bool true]) [] [] (fun aG hs hZ=>agD (Zi.up hs) hO (u9.up hs))<|jp (vs:=[zI 0]) [] [] (fun aG hs hZ=>AZ)<|jd 6 [1,1]<|jp (vs:=[.agg ⟨[.slice lu ib.length kB,.slice eP iN.length dQ,.slice fa 0 fc,.slice eg K.cs.length dV,.slice dI hv.length du,.slice kU K.rules.length kT,.slice mw K.before.length mo,.slice lP K.after.length lG,zI K.gone,zI K.new,zI K.af,.slice gX K.facts.length fT]⟩,.slice lP K.after.length lG,.bool false]) [] [] (fun aG hs hZ=>agE (Zi.up hs) hO (ha0.up hs))<|jp (vs:=[zI 0]) [] [] (fun aG hs hZ=>AZ)<|jd 6 [1]<|jp (vs:=[zI K.gone,zI 0,zI 4]) [] [] (fun aG hs hZ=>eZ)<|zD 2<|jj 5 [(1,zP b1),(2,zS),(3,.slice a10 n10 c10),(56,.bool ((!(iI K.gone 0 4))||(!(iI K.new 0 4))))] (fun gH=>?_) (fun hj=>?_)
 rotate_left
 refine js 51 (!(iI K.gone 0 4)) (fun h3=>?_) (fun h3=>?_)
 ·
  have wH:=h3
  try simp only[zB] at wH
  refine zD 5<|jw 56 (.bool ((!(iI K.gone 0 4))||(!(iI K.new 0 4)))) (w:= .bool true) (by rw[h3]<;>rfl) ?_
  exact zK hj
 ·
  have wH:=h3
  try simp only[zB] at wH
  refine jd 2 [1]<|jp (vs:=[zI K.new,zI 0,zI 4]) [] [] (fun aG hs hZ=>eZ)<|zD 2<|jw 56 (.bool ((!(iI K.gone 0 4))||(!(iI K.new 0 4)))) (w:= .bool (!(iI K.new 0 4))) (by rw[h3]<;>rfl) ?_
  exact zK hj
 refine zD 1<|jj 5 [(1,zP b1),(2,zS),(3,.slice a10 n10 c10),(62,.bool (((!(iI K.gone 0 4))||(!(iI K.new 0 4)))||(!(iI K.af 0 4))))] (fun gH=>?_) (fun hj=>?_)
 rotate_left
 refine js 57 ((!(iI K.gone 0 4))||(!(iI K.new 0 4))) (fun h4=>?_) (fun h4=>?_)
 ·
  have uR:=h4
  try simp only[zB] at uR
  refine zD 5<|jw 62 (.bool (((!(iI K.gone 0 4))||(!(iI K.new 0 4)))||(!(iI K.af 0 4)))) (w:= .bool true) (by rw[h4]<;>rfl) ?_
  exact zK hj
 ·
  have uR:=h4
  try simp only[zB] at uR
  refine jd 2 [1]<|jp (vs:=[zI K.af,zI 0,zI 4]) [] [] (fun aG hs hZ=>eZ)<|zD 2<|jw 62 (.bool (((!(iI K.gone 0 4))||(!(iI K.new 0 4)))||(!(iI K.af 0 4)))) (w:= .bool (!(iI K.af 0 4))) (by rw[h4]<;>rfl) ?_
  exact zK hj
 refine zD 1<|js 62 (((!(iI K.gone 0 4))||(!(iI K.new 0 4)))||(!(iI K.af 0 4))) (fun h5=>?_) (fun h5=>?_)
 ·
  try simp only[zB] at h5
  exfalso;simp[ayV hgl.1,ayV hgl.2.1,ayV hgl.2.2] at h5
 try simp only[zB] at h5
 refine jd 10 [1]<|zJ 67 ((K.facts.length:Int)>4) (fun h6=>?_) fun h6=>?_
 ·
  exfalso;omega
 refine jd 11 [1]<|dB [1,1,1,1,1,1,1,1,1,1,1,0,1,0,0] [] (fun(zz:Nat)=>[(1,zP b1),(2,zS),(3,.slice a10 n10 c10),(70,.slice gX K.facts.length fT),(71,zI (K.facts.length:Int)),(72,zI (zz:Int))]) (fun zz=>[.b b1 (.cells ⟨[.slice lu ib.length kB,.slice eP iN.length dQ,.slice fa 0 fc,.slice eg K.cs.length dV,.slice dI hv.length du,.slice kU K.rules.length kT,.slice mw K.before.length mo,.slice lP K.after.length lG,zI K.gone,zI K.new,zI K.af,.slice gX K.facts.length fT]⟩ 40 (0,0)),.l Z3]) (fun zz=>zz≤K.facts.length) (fun zz=>K.facts.length-zz) 0 (by omega) [1,0] ?_
 rintro k hI K1 bF rest
 refine zD 5<|zJ 73 ((k:Int) <(K.facts.length:Int)) (fun h7=>?_) fun h7=>?_
 ·
  refine zD 7 ?_
  obtain⟨x75,Vf⟩:=zG K.facts k
  refine gY fT 3 qL Vf<|jl 0 (qK _ _ Vf)<|jn fun b6=>jd 8 [0,1,1]<|jcH (hi:=(k:Int)) (show bC _ _ _ _ _ from ⟨gX,v9,vZ,fT,rfl,AH,qL,qK⟩) (by omega) (fun v81 aPv=>?_)
  obtain⟨aqG,aCp,aCl,aqF,rfl,aCn,aCo,aCm⟩:=aPv
  refine jd 1 [0]<|jp (vs:=[.agg ⟨[.slice lu ib.length kB,.slice eP iN.length dQ,.slice fa 0 fc,.slice eg K.cs.length dV,.slice dI hv.length du,.slice kU K.rules.length kT,.slice mw K.before.length mo,.slice lP K.after.length lG,zI K.gone,zI K.new,zI K.af,.slice gX K.facts.length fT]⟩,.slice aqG ((((K.facts).take (k:Int).toNat)).length) aqF,.agg ⟨[zI x75.a,zI x75.b,.bool x75.same]⟩]) [] [] (fun aG hs hZ=>aD6 (Zi.up hs) hO ((show bC _ _ _ _ _ from ⟨aqG,aCp,aCl,aqF,rfl,aCn,aCo,aCm⟩).up hs) (by simp only[List.length_take,List.length_drop];omega) (hO.facts.2 _ (zL Vf)) (ajw hO.apart Vf)) ?_
  refine jp (vs:=[zI 0]) [] [] (fun aG hs hZ=>AZ)<|zD 2<|ja ((k:Int)+1) (by omega)<|zD 2<|bE bF (k+1) (by omega) (by omega) [1,2] (Sub.refl _)
 refine zD 8<|zR (.slice a10 n10 c10) [] [1] Z3 ⟨_,_,_,rfl,aQb,ahb⟩
def jk(ro:Nat→Option Obj)(l:List Value)(K:aB)(rows:List bG):Prop:=∀aG,Sub ro aG→dE zT 40 [.agg ⟨l⟩] aG [] (fun r Y=>∃f,r= .tuple ⟨[pV f,zI 0]⟩∧∀lj,Sub aG lj→Knows lj Y→nY lj f K rows)
def aF(K:aB):Int:=IntKind.u8.wrap (dv .u8 1 (K.facts.length:Int)-1)
theorem yj{rows:List bG}(hV:eG K)(hF:nY ro f K rows):dr zT 42 [pV f] ro (.int .u8 (aF K)):=by
 obtain⟨c0,c1,c2,vc,vh,vr,vb,va,vf,vt,hv,hf,qo,nJ,hr,ED,JC,Le,bW⟩:=hF
 exact aOl Le hf (by have:=hV.facts.1;omega)
theorem agx{rows:List bG}(hK:fF ro l K)(hV:eG K)(hR:rows.length≤2)(hB:jk ro l K rows):
 BU zT 12 [.agg ⟨l⟩] ro [] (fun r Y=>r= .tuple ⟨[zI ((cY K (aF K) (cB K.gone K.new K.af) rows).length:Int),zI 0]⟩∧Y=[]):=by
 obtain⟨v0,v1,v3,v4,v5,v6,v7,vb,fa,fc,hv,rfl,_⟩:=hK
 refine G3 ar [] [] aW fun fr=>zD 2<|jn fun b1=>jd 6 [0]<|jc (vs:=[Value.agg ⟨[v0,v1,.slice fa 0 fc,v3,v4,v5,v6,v7,zI K.gone,zI K.new,zI K.af,vb]⟩]) [] (hB _ (Sub.refl _)) ?_
 rintro _ Y ⟨f,rfl,hF⟩
 refine jf [0] Y (fun aG hs hk=>?_)
 have Ba:=hF aG hs hk
 refine zD 18<|jp (vs:=[pV f]) [] [] (fun yS BO hZ=>yj hV (Ba.up BO))<|Tq (vs:=[pV f,.int .u8 (aF K)]) [] (fun _ _ h=>h) (Yx hV Ba hR) ?_
 rintro v Y2 ⟨zs,hz,ho⟩
 obtain⟨a,c,rfl⟩:=ho.form
 refine zD 5<|Tp qC.a (.tuple ⟨[zI (zs.length:Int),zI 0]⟩) [2] [] hs ⟨by rw[hz.length_eq],rfl⟩
theorem gL{on:Int}{keep:aj→Bool}{rows:List bG}{x:aj}(h:x∈cY K on keep rows):∃i r p,rows[i]?=some r∧p∈aJ K on∧x=cu K r i p∧keep x=true:=by
 obtain⟨l,hl,hx⟩:=List.mem_flatten.1 h
 obtain⟨i,hi,rfl⟩:=List.mem_map.1 hl
 have hi:=List.mem_range.1 hi
 obtain⟨h1,h2⟩:=List.mem_filter.1 hx
 obtain⟨p,hp,rfl⟩:=List.mem_map.1 h1
 rw[List.getElem?_eq_getElem hi] at h2 ⊢
 exact⟨i,rows[i],p,List.getElem?_eq_getElem hi,hp,rfl,h2⟩
theorem Yg(r:bG)(p:Nat→Int):∀k,0≤Cp r p k∧Cp r p k≤k
 |0=>by simp[Cp]
 |k+1=>by
  have:=Yg r p k
  simp only[Cp]
  cases decide (p k>0)&& !r.c k (p k-1).toNat with
  |true=>simp only[cond_true];omega
  |false=>simp only[cond_false];omega
theorem pQ(hV:eG K)(r:bG)(i:Nat)(p:Nat→Int):(-4≤(cu K r i p).gone∧(cu K r i p).gone≤4)∧(-4≤(cu K r i p).new∧(cu K r i p).new≤4)∧(0≤(cu K r i p).af∧(cu K r i p).af≤4):=by
 have h1:=XW p
 have h2:=Yg r p 4
 have h3:=hV.before.1
 have h4:=hV.after.1
 simp only[cu]
 omega
def F5(x:aj):Int:=x.gone+x.new+x.af
theorem avs{rows:List bG}(hK:fF ro l K)(hV:eG K)(hR:rows.length≤2)(hB:jk ro l K rows):BU zT 48 [.agg ⟨l⟩] ro [] (fun r Y=>∃zs,zs.Perm (cY K (aF K) (fun _=>true) rows)∧Y=[]∧((zs=[]∧r= .tuple ⟨[zI 0,zI 9]⟩)∨(zs≠[]∧r= .tuple ⟨[zI (u6 (zs.map F5)),zI 0]⟩))):=by
 obtain⟨v0,v1,v3,v4,v5,v6,v7,vb,fa,fc,hv,rfl,_⟩:=hK
 refine G3 ar [] [] aW fun fr=>zD 2<|jn fun b1=>jd 6 [0]<|jc (vs:=[.agg ⟨[v0,v1,.slice fa 0 fc,v3,v4,v5,v6,v7,zI K.gone,zI K.new,zI K.af,vb]⟩]) [] (hB _ (Sub.refl _)) ?_
 rintro _ Y12 ⟨f12,rfl,ayc⟩
 refine zD 5<|jf [0] Y12 (fun yS cg iK=>?_)
 have Ba:=ayc _ cg iK
 refine zD 13<|jp (vs:=[zP f12]) [] [] (fun aG hs hZ=>yj hV (Ba.up hs))<|Tq (vs:=[zP f12,.int .u8 (aF K),.func (.func 85) ⟨[]⟩ ⟨[]⟩]) [] (fun _ _ h=>h) (agM (keep:=fun _=>true) hV Ba hR (by kernel_rfl) (fun i r hr aD hs p hp=>anI)) ?_
 rintro v21 Y21 ⟨zs,anX,aFd⟩
 have Vr:∀x∈zs,(-4≤x.gone∧x.gone≤4)∧(-4≤x.new∧x.new≤4)∧(0≤x.af∧x.af≤4):=fun x hx=>by obtain⟨i,r,p,_,_,rfl,_⟩:=gL (anX.mem_iff.1 hx);exact pQ hV r i p
 have hzl:zs.length≤1250:=by rw[anX.length_eq];exact qH hV _ _ hR
 refine zD 6<|CG aFd<|zD 1<|jf [0] Y21 (fun ro6 ko Y3=>?_)
 have hZ1:=aFd.jW Y3
 obtain⟨xX,UI,UG,u5,rfl,UH,M1,M0⟩:=hZ1
 refine zD 1<|zJ 24 ((zs.length:Int)=0) (fun h7=>?_) fun h7=>?_
 ·
  refine zD 7<|Tp qC.a.a (.tuple ⟨[zI 0,zI 9]⟩) [1] [] (cg.trans ko) ⟨zs,anX,rfl,.inl ⟨List.eq_nil_of_length_eq_zero (by omega),rfl⟩⟩
 refine zD 14<|n8<|dB [1,1,1,1,1,1,0,1,0,0] [] (fun(zz:Nat×Value×Cells)=>[(2,zI 0),(3,zI 0),(7,zz.2.1),(25,.slice xX zs.length u5),(26,zI (zs.length:Int)),(27,zI (zz.1:Int))]) (fun zz=>[.l zz.2.2,.b b1 (.cells ⟨[v0,v1,.slice fa 0 fc,v3,v4,v5,v6,v7,zI K.gone,zI K.new,zI K.af,vb]⟩ 40 (0,0)),.l fr]) (fun zz=>zz.1≤zs.length∧aw zz.2.1 1 3 cm ((zs.take zz.1).map F5) zz.2.2) (fun zz=>zs.length-zz.1) (⟨0,zS,[]⟩) ⟨by dsimp only;omega,aw.nil _ _ _⟩ [0,1,2] ?_
 rintro⟨k,vS,LS⟩ hI K1 bF rest
 dsimp only at hI
 refine zD 5<|zJ 28 ((k:Int) <(zs.length:Int)) (fun h8=>?_) fun h8=>?_
 ·
  refine zD 6 ?_
  obtain⟨Ef,A1⟩:=zG zs k
  refine gY u5 8 M1 A1<|jl 0 (M0 _ _ A1)<|jn fun b9=>jd 2 [0] ?_
  have hg:=Vr _ (zL A1)
  refine jd 6 [0,0]<|ja (Ef.gone+Ef.new) (by omega)<|jd 2 [0]<|ja ((Ef.gone+Ef.new)+Ef.af) (by omega)<|jn fun qW=>iE (sz:=1) (ps:=((zs.take k).map F5)) (qs:=[((Ef.gone+Ef.new)+Ef.af)]) (enc:=cm) (w:= .slice (some ⟨qW,0,none⟩) 1 1) [2] [0] [(qW,.cells ⟨([((Ef.gone+Ef.new)+Ef.af)].map cm).flatten⟩ 3 (0,0))] (hI.2) (fun s _ hZ=>bN [((Ef.gone+Ef.new)+Ef.af)] (hZ _ (.head _)) (by intro p hp;rfl)) (fun p _=>ai rfl) (by simp only[List.length_map,List.length_take,List.length_cons,List.length_nil];omega) (fun v41 L41 mI=>?_)
  obtain⟨vJ,vI,CY⟩:=mI.form
  subst CY
  refine zD 3<|ja ((k:Int)+1) (by omega)<|zD 2<|bE bF (⟨k+1,(.slice vJ ((((zs.take k).map F5)++[((Ef.gone+Ef.new)+Ef.af)])).length vI),L41⟩) ⟨by dsimp only;omega,by rw[iA A1,List.map_append];exact mI⟩ (by dsimp only;omega) [0,3,4] (Sub.refl _)
 refine zD 5<|jp (vs:=[vS]) [0] LS (fun aG hs hZ=>aq5 (hI.2.jW hZ) ⟨by simp only[List.length_map,List.length_take];omega,by simp only[List.length_map,List.length_take];omega⟩) ?_
 refine zD 5<|Tp qC.a.a (.tuple ⟨[zI (u6 ((zs.take k).map F5)),zI 0]⟩) [2] [] (cg.trans ko) ⟨zs,anX,rfl,.inr ⟨fun e=>by subst e;simp at*,by rw[show k=zs.length by omega,List.take_length]⟩⟩
def aUY(ro:Nat→Option Obj)(f:Nat)(l:List Value)(rows:List bG):Prop:=∃vt,ro f=some (.cells ⟨l++[vt]⟩ 150 (0,0))∧bC ro vt 16 Bp rows
def Br(ways:List (List aO))(w:List Int):List (List aO):=List.zipWith (fun l n=>(l.take (n.toNat+1)).drop n.toNat) ways w
theorem apf{ways:List (List aO)}{w:List Int}{l:List aO}(h1:ways[k]?=some l) (h2:w[k]?=some n):(Br ways w)[k]?=some ((l.take (n.toNat+1)).drop n.toNat):=by
 simp only[Br,List.getElem?_zipWith,h1,h2]
def kA(K:aB)(qM:List Int→aA→List an)(w:List Int):bG:=⟨fun i j=>match K.before[i]?,K.after[j]? with
 |some x,some y=>decide (bR (pg y.st y.no 0) (qM w x) 0≥0)
 |_,_=>false⟩
def ES(F:Nat→Nat→Bool)(i j:Nat)(r:bG):Prop:=∀x y,r.c x y=((decide (x <i)||(decide (x=i)&&decide (y <j)))&&F x y)
theorem ES.set{j:Nat}{r:bG}(h:ES F i j r):ES F i (j+1) (iT r i j (F i j)):=fun x y=>by
 simp only[iT]
 split
 ·rename_i hx;obtain⟨rfl,rfl⟩:=hx;simp
 rename_i hx
 rw[h x y]
 congr 2
 by_cases e:x=i
 ·subst e
  have:y≠j:=fun e2=>hx ⟨rfl,e2⟩
  simp only[decide_true,Bool.true_and]
  congr 1
  exact propext (by omega)
 simp[e]
theorem ES.nxt{n:Nat}{r:bG}(hF:∀x y,n≤y→F x y=false)(h:ES F i n r):ES F (i+1) 0 r:=fun x y=>by
 rw[h x y]
 by_cases hy:y <n
 ·congr 1
  simp only[hy,decide_true,Bool.and_true,Nat.not_lt_zero,decide_false,Bool.and_false,Bool.or_false]
  rw[Bool.eq_iff_iff];simp;omega
 rw[hF x y (by omega)];simp
theorem ES.fin{n:Nat}{r:bG}(hF:∀x y,n≤x→F x y=false)(h:ES F n 0 r):r=⟨F⟩:=by
 rcases r with ⟨c⟩
 congr 1
 funext x y
 have:=h x y
 dsimp only at this
 rw[this]
 by_cases hx:x <n
 ·simp[hx]
 rw[hF x y (by omega)];simp
theorem atW{qM:List Int→aA→List an}{w:List Int}(x y:Nat)(h:K.before.length≤x):(kA K qM w).c x y=false:=by simp only[kA,List.getElem?_eq_none h]
theorem atV{qM:List Int→aA→List an}{w:List Int}(x y:Nat)(h:K.after.length≤y):(kA K qM w).c x y=false:=by
 simp only[kA,List.getElem?_eq_none h]
 split
 ·rename_i h1;cases h1
 rfl
structure WV(K:aB)(W:List (List Int)):Prop where
 n:1≤W.length∧W.length≤2
 len:∀w∈W,w.length=K.ways.length
 rng:∀w∈W,∀(k:Nat) (l:List aO) (n:Int),K.ways[k]?=some l→w[k]?=some n→0≤n∧n <l.length
def xR(ro:Nat→Option Obj)(l:List Value)(K:aB)(W:List (List Int))(qM:List Int→aA→List an):Prop:=∀w∈W,∀x∈K.before,(qM w x).length≤1000∧∀aG,Sub ro aG→∀v vS vT vU r,l=vS::vT::vU::r→nU aG v (Br K.ways w)→
 dE zT 72 [.agg ⟨[vS,v,vU]⟩,.agg ⟨[zI x.st,zI x.no,zI 0]⟩] aG [] (fun r Y=>∃a n c,r= .tuple ⟨[.slice a n c,zI 0]⟩∧∀lj,Knows lj Y→bC lj (.slice a n c) 3 cK (qM w x))
theorem avB{qM:List Int→aA→List an}(hK:fF ro l K)(hO:jz K)(hV:eG K)(hW:WV K W)(h76:qI ro l W)(h47:xR ro l K W qM):dE zT 40 [.agg ⟨l⟩] ro [] (fun r Y=>∃f,r= .tuple ⟨[pV f,zI 0]⟩∧∀lj,Sub ro lj→Knows lj Y→nY lj f K (W.map (kA K qM))∧aUY lj f l (W.map (kA K qM))):=by
 have Zi:=hK
 obtain⟨vS,vT,vc,vh,vr,vb,va,vf,fa,fc,hv,rfl,hS,hT,qo,nJ,hr,hb,ha,hf⟩:=hK
 obtain⟨ib,hs,e9⟩:=id hS
 obtain⟨iN,ht,eT⟩:=id hT
 obtain⟨hc,hh,DT⟩:=id qo
 have vu:=hr
 have u9:=hb
 have ha0:=ha
 have hf0:=hf
 obtain⟨lu,Qi,Qg,kB,rfl,Qh,Jl,Jk⟩:=hs
 obtain⟨eP,AG,AE,dQ,rfl,AF,sr,sq⟩:=ht
 obtain⟨eg,AJ,AI,dV,rfl,DC,yU,yT⟩:=hc
 obtain⟨dI,u4,u3,du,rfl,xw,qR,qQ⟩:=hh
 obtain⟨kU,IP,IN,kT,rfl,OX,Gq,Gp⟩:=hr
 obtain⟨mw,O0,OY,mo,rfl,OZ,MS,MQ⟩:=hb
 obtain⟨lP,Ko,Kl,lG,rfl,Km,Jn,Jm⟩:=ha
 obtain⟨gX,v9,vZ,fT,rfl,AH,qL,qK⟩:=hf
 have CX:=hO.rules
 have qO:=hO.before.1
 have O8:=hO.after.1
 have O7:=hO.facts.1
 have O6:=hO.ways.1
 have IZ:=e9.len
 have EB:=eT.len
 have Y0:=hO.oS.two
 have hl9:=hO.c8.nh
 have OW:∀(i:Nat) (p:da),([]:List da)[i]?=some p→cA ⟨ro,[]⟩ 0 (0+i*6) 6 (mP p):=fun _ _ h=>oE h
 have hWn:=hW.n
 refine aOo ar 70 [] [] aW<|zD 2<|jn fun b1=>jn fun b2=>jn fun b3=>zD 4<|jdf (f:=70) (ca:=[zP b2,zP b3])<|jd 5 [2]<|jn fun IA=>jd 6 [2,3]<|jc (vs:=[.agg ⟨[.slice lu ib.length kB,.slice eP iN.length dQ,.slice fa 0 fc,.slice eg K.cs.length dV,.slice dI hv.length du,.slice kU K.rules.length kT,.slice mw K.before.length mo,.slice lP K.after.length lG,zI K.gone,zI K.new,zI K.af,.slice gX K.facts.length fT]⟩]) [] (avA Zi hO hV ⟨hW.n.1,by have:=hW.n.2;omega⟩ h76) ?_
 rintro _ Y21 ⟨a21,n21,c21,rfl,bct,an5⟩
 refine zD 2<|jf [0] Y21 (fun yS cg iK=>?_)
 obtain⟨wsW,hWs,arM⟩:=an5 _ iK
 obtain⟨qWa,qWb,qWo,qWc,heW,qWk,qWh,qWl⟩:=hWs
 simp only[Value.slice.injEq] at heW
 obtain⟨rfl,rfl,rfl⟩:=heW
 have hlW:=arM.len
 refine zD 2<|n8<|dB [1,1,1,0,1,0,0] [] (fun(zz:Nat×Value×Cells)=>[(1,zP b1),(2,zP b2),(3,zP b3),(21,.slice a21 wsW.length c21),(22,zI (wsW.length:Int)),(23,zI (zz.1:Int))]) (fun zz=>[.l zz.2.2,.b IA (.cells ⟨[.slice lu ib.length kB,.slice eP iN.length dQ,.slice fa 0 fc,.slice eg K.cs.length dV,.slice dI hv.length du,.slice kU K.rules.length kT,.slice mw K.before.length mo,.slice lP K.after.length lG,zI K.gone,zI K.new,zI K.af,.slice gX K.facts.length fT,zz.2.1]⟩ 150 (0,0)),.b b1 (.cells ⟨[.slice lu ib.length kB,.slice eP iN.length dQ,.slice fa 0 fc,.slice eg K.cs.length dV,.slice dI hv.length du,.slice kU K.rules.length kT,.slice mw K.before.length mo,.slice lP K.after.length lG,zI K.gone,zI K.new,zI K.af,.slice gX K.facts.length fT]⟩ 40 (0,0)),.b b2 (.cells ⟨[zP IA]⟩ 100 (0,0)),.b b3 (.cells ⟨[zI 0]⟩ 46 (0,0))]) (fun zz=>zz.1≤wsW.length∧aw zz.2.1 16 153 Bp ((W.take zz.1).map (kA K qM)) zz.2.2) (fun zz=>wsW.length-zz.1) (⟨0,zS,[]⟩) ⟨by dsimp only;omega,aw.nil _ _ _⟩ [0,1,4,3,2] ?_
 rintro⟨k,vR,LR⟩ hI K1 bF rest
 dsimp only at hI
 refine zD 5<|zJ 24 ((k:Int) <(wsW.length:Int)) (fun h4=>?_) fun h4=>?_
 ·
  refine zD 6 ?_
  obtain⟨xk,ju⟩:=zG wsW k
  refine gY c21 1 qWh ju ?_
  obtain⟨wx,aFG,h26⟩:=arM.get ju
  obtain⟨aNb,bax,bav,aCV,rfl,baw,aNa,aM9⟩:=h26
  refine jl 0 (qWl _ _ ju)<|zD 3 ?_
  have hwm:=zL aFG
  have hwl:=hW.len _ hwm
  refine jd 8 [2,2]<|jn fun b6=>jd 10 [0]<|n8<|dB [1,1,1,0,1,0,0,1,1,0,0,1,1,0,1,0,0] [K1] (fun(zz:Nat×Value×Cells×(List Value))=>[(1,zP b1),(2,zP b2),(3,zP b3),(6,zP b6),(21,.slice a21 wsW.length c21),(22,zI (wsW.length:Int)),(23,zI (k:Int)),(34,.slice aNb wx.length aCV),(35,zI (wx.length:Int)),(36,zI (zz.1:Int))]) (fun zz=>[.l zz.2.2.1,.b b6 (.cells ⟨[.slice lu ib.length kB,zz.2.1,.slice fa 0 fc]⟩ 31 (0,0)),.l LR,.b IA (.cells ⟨[.slice lu ib.length kB,.slice eP iN.length dQ,.slice fa 0 fc,.slice eg K.cs.length dV,.slice dI hv.length du,.slice kU K.rules.length kT,.slice mw K.before.length mo,.slice lP K.after.length lG,zI K.gone,zI K.new,zI K.af,.slice gX K.facts.length fT,vR]⟩ 150 (0,0)),.b b1 (.cells ⟨[.slice lu ib.length kB,.slice eP iN.length dQ,.slice fa 0 fc,.slice eg K.cs.length dV,.slice dI hv.length du,.slice kU K.rules.length kT,.slice mw K.before.length mo,.slice lP K.after.length lG,zI K.gone,zI K.new,zI K.af,.slice gX K.facts.length fT]⟩ 40 (0,0)),.b b2 (.cells ⟨[zP IA]⟩ 100 (0,0)),.b b3 (.cells ⟨[zI 0]⟩ 46 (0,0))]) (fun zz=>(zz.1≤wx.length∧zz.2.2.2.length=zz.1)∧aw zz.2.1 1 87 fK zz.2.2.2 zz.2.2.1∧di (fun w l=>bC yS w 7 kO l) zz.2.2.2 ((Br K.ways wx).take zz.1)) (fun zz=>wx.length-zz.1) (⟨0,zS,[],[]⟩) ⟨⟨by dsimp only;omega,rfl⟩,aw.nil _ _ _,(by simp only[List.take_zero];exact di.nil)⟩ (zN 0 7) ?_
  rintro⟨j,vT,LT,es⟩ hJ K2 kL rest
  dsimp only at hJ
  refine zD 5<|zJ 37 ((j:Int) <(wx.length:Int)) (fun h5=>?_) fun h5=>?_
  ·
   refine zD 7 ?_
   obtain⟨BK,oF⟩:=zG wx j
   refine gY aCV 1 aNa oF<|jl 0 (aM9 _ _ oF)<|jd 10 [1,4] ?_
   obtain⟨x47,Vg⟩:=zG iN j
   refine gY dQ 1 sr Vg<|zD 1 ?_
   obtain⟨l49,awL,h49⟩:=eT.get Vg
   obtain hwr:=hW.rng _ hwm _ _ _ awL oF
   obtain bcy:=(hO.ways.2 _ (zL awL)).1.2
   obtain⟨aMT,aMS,aMN,aMR,rfl,aMP,aMQ,aMO⟩:=h49
   refine jl 0 ((sq _ _ Vg).ext (ur cg))<|zD 2<|ja (BK+1) (by omega)<|jcB (lo:=BK) (hi:=(BK+1)) ((show bC _ _ _ _ _ from ⟨aMT,aMS,aMN,aMR,rfl,aMP,aMQ,aMO⟩).up cg) (by omega) (fun v53 wD=>?_)
   obtain⟨Kj,aCu,aCq,Ki,rfl,aCs,aCt,aCr⟩:=wD
   refine zD 1<|aS 14 fun oh ov mZ=>jn fun b55=>eo mZ (zN 1 7)<|aS 15 fun pX p6 oZ=>iE (sz:=1) (ps:=es) (qs:=[(.slice Kj (((((l49).take (BK+1).toNat).drop BK.toNat)).length) Ki:Value)]) (enc:=fK) (w:= .slice (some ⟨b55,0,none⟩) 1 1) [1] [0] [(b55,.cells ⟨([(.slice Kj (((((l49).take (BK+1).toNat).drop BK.toNat)).length) Ki:Value)].map fK).flatten⟩ 87 (0,0))] (hJ.2.1) (fun s _ hZ=>bN [(.slice Kj (((((l49).take (BK+1).toNat).drop BK.toNat)).length) Ki:Value)] (hZ _ (.head _)) (by intro p hp;rfl)) (by intro p hp;rw[List.mem_singleton] at hp;subst hp;exact ai rfl) (by simp<;>omega) (fun v56 L56 wE=>?_)
   obtain⟨aan,aal,ah9⟩:=wE.form
   subst ah9
   refine gx oZ [[],[5]]<|zD 1<|aS 17 fun yC yJ zm=>jd 1 [2]<|fU zm<|zD 2<|ja ((j:Int)+1) (by omega)<|zD 2<|bE kL (⟨j+1,(.slice aan ((es++[(.slice Kj (((((l49).take (BK+1).toNat).drop BK.toNat)).length) Ki:Value)])).length aal),L56,(es++[(.slice Kj (((((l49).take (BK+1).toNat).drop BK.toNat)).length) Ki:Value)])⟩) ⟨⟨by dsimp only;omega,by simp only[zM];omega⟩,wE,by rw[iA (apf awL oF)];exact hJ.2.2.snoc (by rw[show BK.toNat+1=(BK+1).toNat by omega];exact⟨Kj,aCu,aCq,Ki,rfl,aCs,aCt,aCr⟩)⟩ (by dsimp only;omega) [0,2,3,4,5,6,7] (Sub.refl _)
  refine zD 3 ?_
  have hS6:di (fun w l=>bC yS w 7 kO l) es (Br K.ways wx):=by have:=hJ.2.2;rwa[List.take_of_length_le (by simp only[Br,List.length_zipWith];omega)] at this
  refine zD 1<|jn fun b9=>jd 10 [5]<|dB [1,1,1,0,1,0,0,1,1,0,0,1,1,1,1,0,1,0,0] [K1] (fun(zz:Nat×bG)=>[(1,zP b1),(2,zP b2),(3,zP b3),(6,zP b6),(9,zP b9),(21,.slice a21 wsW.length c21),(22,zI (wsW.length:Int)),(23,zI (k:Int)),(60,.slice mw K.before.length mo),(61,zI (K.before.length:Int)),(62,zI (zz.1:Int))]) (fun zz=>[.b b9 (.cells ⟨[.bool (zz.2.c 0 0),.bool (zz.2.c 0 1),.bool (zz.2.c 0 2),.bool (zz.2.c 0 3),.bool (zz.2.c 1 0),.bool (zz.2.c 1 1),.bool (zz.2.c 1 2),.bool (zz.2.c 1 3),.bool (zz.2.c 2 0),.bool (zz.2.c 2 1),.bool (zz.2.c 2 2),.bool (zz.2.c 2 3),.bool (zz.2.c 3 0),.bool (zz.2.c 3 1),.bool (zz.2.c 3 2),.bool (zz.2.c 3 3)]⟩ 153 (0,0)),.l LT,.b b6 (.cells ⟨[.slice lu ib.length kB,vT,.slice fa 0 fc]⟩ 31 (0,0)),.l LR,.b IA (.cells ⟨[.slice lu ib.length kB,.slice eP iN.length dQ,.slice fa 0 fc,.slice eg K.cs.length dV,.slice dI hv.length du,.slice kU K.rules.length kT,.slice mw K.before.length mo,.slice lP K.after.length lG,zI K.gone,zI K.new,zI K.af,.slice gX K.facts.length fT,vR]⟩ 150 (0,0)),.b b1 (.cells ⟨[.slice lu ib.length kB,.slice eP iN.length dQ,.slice fa 0 fc,.slice eg K.cs.length dV,.slice dI hv.length du,.slice kU K.rules.length kT,.slice mw K.before.length mo,.slice lP K.after.length lG,zI K.gone,zI K.new,zI K.af,.slice gX K.facts.length fT]⟩ 40 (0,0)),.b b2 (.cells ⟨[zP IA]⟩ 100 (0,0)),.b b3 (.cells ⟨[zI 0]⟩ 46 (0,0))]) (fun zz=>zz.1≤K.before.length∧ES (kA K qM wx).c zz.1 0 zz.2) (fun zz=>K.before.length-zz.1) (⟨0,⟨fun _ _=>false⟩⟩) ⟨by dsimp only;omega,fun x y=>by simp⟩ (zN 0 8) ?_
  rintro⟨i,r⟩ hQ K6 hK6 rest
  dsimp only at hQ
  refine zD 5<|zJ 63 ((i:Int) <(K.before.length:Int)) (fun h9=>?_) fun h9=>?_
  ·
   refine zD 7 ?_
   obtain⟨Pn,agZ⟩:=zG K.before i
   refine gY mo 5 MS agZ<|jl 0 ((MQ _ _ agZ).ext (ur cg))<|jn fun OC=>jd 7 [0,3,0]<|jp (vs:=[.agg ⟨[.string Pn.name,zI Pn.st,zI Pn.no,zI Pn.head,.bool Pn.bold]⟩]) [] [] (fun aG hs hZ=>YB)<|aS 3 fun alO amc Sb=>jcL (vs:=[.agg ⟨[.slice lu ib.length kB,vT,.slice fa 0 fc]⟩,.agg ⟨[zI Pn.st,zI Pn.no,zI 0]⟩]) [] [2] LT (fun aG hs hZ=>(h47 _ hwm _ (zL agZ)).2 _ (cg.trans hs) _ _ _ _ _ rfl ⟨_,hJ.2.1.jW hZ,hS6.imp fun _ _ k=>k.up hs⟩) ?_
   rintro _ Y71 ⟨a71,n71,c71,rfl,aO4⟩
   refine eo Sb (zN 1 9)<|zD 9<|jp (vs:=[zI 0]) [] [] (fun aG hs hZ=>AZ)<|jf [0] Y71 (fun aZH aEN aQB=>?_)
   obtain⟨qPa,qPb,qPo,qPc,heP,qPk,qPh,qPl⟩:=aO4 _ aQB
   simp only[Value.slice.injEq] at heP
   obtain⟨rfl,rfl,rfl⟩:=heP
   refine jd 9 [6]<|dB [1,1,1,0,1,0,0,1,1,0,0,1,1,1,1,0,1,0,0,1,1,0,0,1,1,1,1,0,0] [K1,K6] (fun(zz:Nat×bG)=>[(1,zP b1),(2,zP b2),(3,zP b3),(6,zP b6),(9,zP b9),(10,zI (i:Int)),(12,.slice a71 ((qM wx Pn).length) c71),(21,.slice a21 wsW.length c21),(22,zI (wsW.length:Int)),(23,zI (k:Int)),(60,.slice mw K.before.length mo),(61,zI (K.before.length:Int)),(62,zI (i:Int)),(77,.slice lP K.after.length lG),(78,zI (K.after.length:Int)),(79,zI (zz.1:Int))]) (fun zz=>[.b b9 (.cells ⟨[.bool (zz.2.c 0 0),.bool (zz.2.c 0 1),.bool (zz.2.c 0 2),.bool (zz.2.c 0 3),.bool (zz.2.c 1 0),.bool (zz.2.c 1 1),.bool (zz.2.c 1 2),.bool (zz.2.c 1 3),.bool (zz.2.c 2 0),.bool (zz.2.c 2 1),.bool (zz.2.c 2 2),.bool (zz.2.c 2 3),.bool (zz.2.c 3 0),.bool (zz.2.c 3 1),.bool (zz.2.c 3 2),.bool (zz.2.c 3 3)]⟩ 153 (0,0)),.b OC (.cells ⟨[.string Pn.name,zI Pn.st,zI Pn.no,zI Pn.head,.bool Pn.bold]⟩ 55 (0,0)),.l LT,.b b6 (.cells ⟨[.slice lu ib.length kB,vT,.slice fa 0 fc]⟩ 31 (0,0)),.l LR,.b IA (.cells ⟨[.slice lu ib.length kB,.slice eP iN.length dQ,.slice fa 0 fc,.slice eg K.cs.length dV,.slice dI hv.length du,.slice kU K.rules.length kT,.slice mw K.before.length mo,.slice lP K.after.length lG,zI K.gone,zI K.new,zI K.af,.slice gX K.facts.length fT,vR]⟩ 150 (0,0)),.b b1 (.cells ⟨[.slice lu ib.length kB,.slice eP iN.length dQ,.slice fa 0 fc,.slice eg K.cs.length dV,.slice dI hv.length du,.slice kU K.rules.length kT,.slice mw K.before.length mo,.slice lP K.after.length lG,zI K.gone,zI K.new,zI K.af,.slice gX K.facts.length fT]⟩ 40 (0,0)),.b b2 (.cells ⟨[zP IA]⟩ 100 (0,0)),.b b3 (.cells ⟨[zI 0]⟩ 46 (0,0))]) (fun zz=>zz.1≤K.after.length∧ES (kA K qM wx).c i zz.1 zz.2) (fun zz=>K.after.length-zz.1) (⟨0,r⟩) ⟨by dsimp only;omega,hQ.2⟩ [1,0,2,3,4,5,6,7,8] ?_
   rintro⟨j,r⟩ hU K8 hK8 rest
   dsimp only at hU
   refine zD 5<|zJ 80 ((j:Int) <(K.after.length:Int)) (fun h14=>?_) fun h14=>?_
   ·
    refine zD 7 ?_
    obtain⟨EY,Ve⟩:=zG K.after j
    refine gY lG 5 Jn Ve<|jl 0 ((Jm _ _ Ve).ext (ur (cg.trans aEN)))<|jn fun IB=>jd 3 [0] ?_
    have hRW:(kA K qM wx).c i j=decide (bR (pg EY.st EY.no 0) (qM wx Pn) 0≥0):=by simp only[kA,agZ,Ve]
    refine jd 5 [0]<|KZ (b:=b9) (off:=0) (len:=4) (sz:=4) (i:Int) (by omega)<|jp (vs:=[.agg ⟨[.string EY.name,zI EY.st,zI EY.no,zI EY.head,.bool EY.bold]⟩]) [] [] (fun aG hs hZ=>YB)<|jp (vs:=[.slice a71 ((qM wx Pn).length) c71,.agg ⟨[zI EY.st,zI EY.no,zI 0]⟩]) [] [] (fun aG hs hZ=>KW ((show bC _ _ _ _ _ from ⟨a71,qPb,qPo,c71,rfl,qPk,qPh,qPl⟩).up hs) (h47 _ hwm _ (zL agZ)).1)<|KZ (b:=b9) (off:=0+(i:Int).toNat*4) (len:=4) (sz:=1) (j:Int) (by omega)<|aS 8 fun TO T5 Sa=>jsx 1 b9 (0+(i:Int).toNat*4+(j:Int).toNat*1) [.bool (r.c 0 0),.bool (r.c 0 1),.bool (r.c 0 2),.bool (r.c 0 3),.bool (r.c 1 0),.bool (r.c 1 1),.bool (r.c 1 2),.bool (r.c 1 3),.bool (r.c 2 0),.bool (r.c 2 1),.bool (r.c 2 2),.bool (r.c 2 3),.bool (r.c 3 0),.bool (r.c 3 1),.bool (r.c 3 2),.bool (r.c 3 3)] [.bool (decide (bR (pg EY.st EY.no 0) (qM wx Pn) 0≥0))] 153 (by intro v hv;rw[List.mem_singleton] at hv;subst hv;rfl) (XH (r:=r) (by omega) (by omega)) ?_
    refine jmw 0 [.b b9 (.cells ⟨[.bool ((iT r i j ((kA K qM wx).c i j)).c 0 0),.bool ((iT r i j ((kA K qM wx).c i j)).c 0 1),.bool ((iT r i j ((kA K qM wx).c i j)).c 0 2),.bool ((iT r i j ((kA K qM wx).c i j)).c 0 3),.bool ((iT r i j ((kA K qM wx).c i j)).c 1 0),.bool ((iT r i j ((kA K qM wx).c i j)).c 1 1),.bool ((iT r i j ((kA K qM wx).c i j)).c 1 2),.bool ((iT r i j ((kA K qM wx).c i j)).c 1 3),.bool ((iT r i j ((kA K qM wx).c i j)).c 2 0),.bool ((iT r i j ((kA K qM wx).c i j)).c 2 1),.bool ((iT r i j ((kA K qM wx).c i j)).c 2 2),.bool ((iT r i j ((kA K qM wx).c i j)).c 2 3),.bool ((iT r i j ((kA K qM wx).c i j)).c 3 0),.bool ((iT r i j ((kA K qM wx).c i j)).c 3 1),.bool ((iT r i j ((kA K qM wx).c i j)).c 3 2),.bool ((iT r i j ((kA K qM wx).c i j)).c 3 3)]⟩ 153 (0,0))] (L:=[(b9,.cells ⟨dA [.bool (r.c 0 0),.bool (r.c 0 1),.bool (r.c 0 2),.bool (r.c 0 3),.bool (r.c 1 0),.bool (r.c 1 1),.bool (r.c 1 2),.bool (r.c 1 3),.bool (r.c 2 0),.bool (r.c 2 1),.bool (r.c 2 2),.bool (r.c 2 3),.bool (r.c 3 0),.bool (r.c 3 1),.bool (r.c 3 2),.bool (r.c 3 3)] (0+(i:Int).toNat*4+(j:Int).toNat*1) [.bool (decide (bR (pg EY.st EY.no 0) (qM wx Pn) 0≥0))]⟩ 153 (0,0))]) (by rw[XF (by omega) (by omega),hRW];rfl) ?_
    refine gx Sa []<|zD 2<|ja ((j:Int)+1) (by omega)<|zD 2<|bE hK8 (⟨j+1,(iT r i j ((kA K qM wx).c i j))⟩) ⟨by dsimp only;omega,hU.2.set⟩ (by dsimp only;omega) [0,2,3,4,5,6,7,8,9] (Sub.refl _)
   refine zD 3<|ja ((i:Int)+1) (by omega)<|zD 2<|bE hK6 (⟨i+1,r⟩) ⟨by dsimp only;omega,ES.nxt (fun x y h=>atV x y h) (by have:=hU.2;rwa[show j=K.after.length by omega] at this)⟩ (by dsimp only;omega) [0,2,3,4,5,6,7,8] aEN
  refine jd 9 [6,6,4,0]<|aS 6 fun Fx FY wG=>jn fun ay5=>eo wG (zN 1 8)<|aS 7 fun Fw FX zn=>iE (sz:=16) (ps:=((W.take k).map (kA K qM))) (qs:=[(r:bG)]) (enc:=Bp) (w:= .slice (some ⟨ay5,0,none⟩) 1 1) [4] [0] [(ay5,.cells ⟨([(r:bG)].map Bp).flatten⟩ 153 (0,0))] (hI.2) (fun s _ hZ=>bN [(r:bG)] (hZ _ (.head _)) (by intro p hp;rfl)) (fun p _=>ai rfl) (by simp only[List.length_map,List.length_take,List.length_cons,List.length_nil];omega) (fun aZm aUX YY=>?_)
  obtain⟨aBb,aA4,aF7⟩:=YY.form
  subst aF7
  refine gx zn [[7],[7]]<|zD 2<|aS 10 fun Pm PJ C3=>jd 1 [5]<|gx C3 []<|zD 2<|ja ((k:Int)+1) (by omega)<|zD 2<|bE bF (⟨k+1,(.slice aBb ((((W.take k).map (kA K qM))++[(r:bG)])).length aA4),aUX⟩) ⟨by dsimp only;omega,by rw[iA aFG,List.map_append];have e:=ES.fin (fun x y h=>atW x y h) (by have:=hQ.2;rwa[show i=K.before.length by omega] at this);subst e;exact YY⟩ (by dsimp only;omega) [0,5,6,7,8] (Sub.refl _)
 refine jd 9 [3,3,4]<|jrD (g:=70) (ca:=[zP b2,zP b3]) ⟨rfl,rfl⟩ (.tuple ⟨[zP IA,zI 0]⟩) [3,4] [1,0] ((IA,.cells ⟨[.slice lu ib.length kB,.slice eP iN.length dQ,.slice fa 0 fc,.slice eg K.cs.length dV,.slice dI hv.length du,.slice kU K.rules.length kT,.slice mw K.before.length mo,.slice lP K.after.length lG,zI K.gone,zI K.new,zI K.af,.slice gX K.facts.length fT,vR]⟩ 150 (0,0))::LR) 9 cg ⟨_,_,rfl,rfl,IA,rfl,fun lj hs hk=>by have hvt:=hI.2;rw[List.take_of_length_le (by omega)] at hvt;exact⟨⟨_,_,_,_,_,_,_,_,_,_,hv,hk _ (.head _),qo.up hs,nJ,vu.up hs,u9.up hs,ha0.up hs,hf0.up hs,hvt.jW hk.tail⟩,⟨_,hk _ (.head _),hvt.jW hk.tail⟩⟩⟩
theorem Tf.v(h:Tf K):eG K where
 rules:=⟨by have:=h.rules.1;omega,fun r hr=>atT (h.rules.2 r hr)⟩
 before:=⟨by have:=h.before.1;omega,fun p hp=>by
  obtain⟨h1,h2,_⟩:=(h.before.2 p hp).1
  exact⟨⟨⟨h1.1.1,by have:=h1.1.2;omega⟩,h1.2⟩,h2⟩⟩
 after:=⟨by have:=h.after.1;omega,fun p hp=>by
  obtain⟨h1,h2,_⟩:=(h.after.2 p hp).1
  exact⟨⟨⟨h1.1.1,by have:=h1.1.2;omega⟩,h1.2⟩,h2⟩⟩
 c8:=h.c8.v
 facts:=⟨by have:=h.facts.1;omega,h.facts.2⟩
theorem qI.up{aD:Nat→Option Obj}(h:qI ro l W)(hs:Sub ro aD):qI aD l W:=fun aG h1=>h aG (hs.trans h1)
theorem xR.up{aD:Nat→Option Obj}{qM:List Int→aA→List an}(h:xR ro l K W qM)(hs:Sub ro aD):xR aD l K W qM:=fun w hw x hx=>⟨(h w hw x hx).1,fun aG h1=>(h w hw x hx).2 aG (hs.trans h1)⟩
theorem apx{qM:List Int→aA→List an}(hK:fF ro l K)(hO:jz K)(hV:eG K)(hW:WV K W)(h76:qI ro l W)(h47:xR ro l K W qM):jk ro l K (W.map (kA K qM)):=
 fun aG hs=>(avB (hK.up hs) hO hV hW (h76.up hs) (h47.up hs)).mono fun _ _ ⟨f,e,h⟩=>⟨f,e,fun lj h1 h2=>(h lj h1 h2).1⟩
def qV(a b:Int):Int:=if a <b then-1 else if a>b then 1 else 0
def orL:List Int→Int
 | []=>0
 |x::l=>if x=0 then orL l else x
theorem afp{l:List Int}{x:Int}(h:l[k]?=some x):orL (l.drop k)=if x=0 then orL (l.drop (k+1)) else x:=by rw[eB h];rfl
theorem amT{l:List Int}(h:¬k <l.length):orL (l.drop k)=0:=by rw[ep h];rfl
def acn(x y:ah):Int:=orL [qV x.n y.n,qV x.l y.l]
theorem apk{x y:ah}(h:amN x y):acn x y <0:=by
 rcases h with h| ⟨h1,h2⟩
 ·have e:qV x.n y.n= -1:=if_pos h
  simp[acn,orL,e]
 have e:qV x.n y.n=0:=by simp only[qV];rw[if_neg (by omega),if_neg (by omega)]
 have e2:qV x.l y.l= -1:=if_pos h2
 simp[acn,orL,e,e2]
theorem aHp{a:Int}:dr zT 151 [zI a] ro (.bool false):=by
 refine zE<|zD 12<|zX (.bool (!decide (a=a))) ⟨by simp,rfl⟩
theorem ayu{a:Int}:dr zT 112 [zI a,zI b] ro (zI (qV a b)):=by
 refine zE<|zD 7<|jp (vs:=[zI a]) [] [] (fun aG hs hZ=>aHp)<|zD 5<|jp (vs:=[zI b]) [] [] (fun aG hs hZ=>aHp)<|zD 23<|zJ 16 (a <b) (fun h1=>?_) fun h1=>?_
 ·
  refine zD 6<|zX (zI (-1)) ⟨by simp only[qV];first|rw[if_pos (by omega)]|rw[if_neg (by omega),if_pos (by omega)]|rw[if_neg (by omega),if_neg (by omega)],rfl⟩
 refine zD 9<|zJ 19 (a>b) (fun h2=>?_) fun h2=>?_
 ·
  refine zD 6<|zX (zI 1) ⟨by simp only[qV];first|rw[if_pos (by omega)]|rw[if_neg (by omega),if_pos (by omega)]|rw[if_neg (by omega),if_neg (by omega)],rfl⟩
 refine zD 7<|zX (zI 0) ⟨by simp only[qV];first|rw[if_pos (by omega)]|rw[if_neg (by omega),if_pos (by omega)]|rw[if_neg (by omega),if_neg (by omega)],rfl⟩
theorem gOr{v:Value}(hl:bC ro v 1 cm xs)(hn:xs.length≤1000):dr zT 183 [v] ro (zI (orL xs)):=by
 obtain⟨fw,rQ,rP,eL,rfl,tO,lM,mC⟩:=hl
 refine zE<|zD 16<|dB [1,1,0,1,0,0] [] (fun(zz:Nat)=>[(3,zI 0),(6,.slice fw xs.length eL),(7,zI (xs.length:Int)),(8,zI (zz:Int))]) (fun zz=>[]) (fun zz=>zz≤xs.length∧orL xs=orL (xs.drop zz)) (fun zz=>xs.length-zz) 0 ⟨by omega,rfl⟩ [] ?_
 rintro k hI K1 bF rest
 refine zD 5<|zJ 9 ((k:Int) <(xs.length:Int)) (fun h1=>?_) fun h1=>?_
 ·
  refine zD 6 ?_
  obtain⟨x10,rY⟩:=zG xs k
  refine gY eL 1 lM rY<|jl 0 (mC _ _ rY)<|zD 8<|js 14 (!decide (x10=0)) (fun h2=>?_) (fun h2=>?_)
  ·
   replace h2:=of_decide_eq_false (by simpa using h2)
   refine zD 7<|zX (zI x10) ⟨by rw[hI.2,afp rY,if_neg (by simp_all)],rfl⟩
  replace h2:=of_decide_eq_true (by simpa using h2)
  refine zD 3<|ja ((k:Int)+1) (by omega)<|zD 2<|bE bF (k+1) ⟨by omega,by rw[hI.2,afp rY,if_pos (by simp_all)]⟩ (by omega) [] (Sub.refl _)
 refine zD 8<|zX (zI 0) ⟨by rw[hI.2,amT (by omega)],rfl⟩
theorem ar1{x y:ah}:dr zT 184 [.agg ⟨[zI x.n,zI x.l]⟩,.agg ⟨[zI y.n,zI y.l]⟩] ro (zI (acn x y)):=by
 refine zE<|zD 2<|jn fun b2=>jn fun b3=>jd 12 [1,0,1,0]<|jp (vs:=[zI x.n,zI y.n]) [] [] (fun aG hs hZ=>ayu)<|jp (vs:=[zI x.l,zI y.l]) [] [] (fun aG hs hZ=>ayu)<|aS 10 fun BV B3 An=>jn fun IB=>eo An [1,2]<|jp (vs:=[.slice (some ⟨IB,0,none⟩) 2 2]) [0] [(IB,.cells ⟨([(qV x.n y.n),(qV x.l y.l)].map cm).flatten⟩ 3 (0,0))] (fun aG hs hZ=>gOr (bU [(qV x.n y.n),(qV x.l y.l)] hZ.head (by intro p hp;rfl)) (by first|omega| (simp only[List.length_set,zM];omega))) ?_
 refine zD 3<|zX (zI (orL [(qV x.n y.n),(qV x.l y.l)])) ⟨rfl,rfl⟩
theorem Bb{lo hi:Int}:dr zT 170 [zI n,zI lo,zI hi] ro (.bool (iI n lo hi)):=by
 refine zE<|zD 10<|jj 4 [(6,.bool false),(14,.bool ((decide (lo≤n))&&(decide (n≤hi))))] (fun gH=>?_) (fun hj=>?_)
 rotate_left
 refine js 10 (decide (lo≤n)) (fun h1=>?_) (fun h1=>?_)
 ·
  have fp:=h1
  replace fp:=of_decide_eq_true fp
  refine zD 4<|jw 14 (.bool ((decide (lo≤n))&&(decide (n≤hi)))) (w:= .bool (decide (n≤hi))) (by rw[h1]<;>rfl) ?_
  exact zK hj
 ·
  have fp:=h1
  replace fp:=of_decide_eq_false fp
  refine zD 4<|jw 14 (.bool ((decide (lo≤n))&&(decide (n≤hi)))) (w:= .bool false) (by rw[h1]<;>rfl) ?_
  exact zK hj
 refine zD 3<|zX (.bool ((decide (lo≤n))&&(decide (n≤hi)))) ⟨rfl,rfl⟩
theorem ayo{x:ah}(hx:BF x):dr zT 172 [.agg ⟨[zI x.n,zI x.l]⟩] ro (.bool true):=by
 obtain⟨⟨hx1,hx2⟩,hx3,hx4⟩:=hx
 refine zE<|zD 2<|jn fun b1=>jd 6 [0]<|jp (vs:=[zI x.n,zI 1,zI 40]) [] [] (fun aG hs hZ=>Bb)<|zD 1<|jj 4 [(2,.bool false),(10,.bool ((iI x.n 1 40)&&(iI x.l 0 4)))] (fun gH=>?_) (fun hj=>?_)
 rotate_left
 refine js 6 (iI x.n 1 40) (fun h1=>?_) (fun h1=>?_)
 ·
  refine jd 2 [0]<|jp (vs:=[zI x.l,zI 0,zI 4]) [] [] (fun aG hs hZ=>Bb)<|zD 1<|jw 10 (.bool ((iI x.n 1 40)&&(iI x.l 0 4))) (w:= .bool (iI x.l 0 4)) (by rw[h1]<;>rfl) ?_
  exact zK hj
 ·
  refine zD 4<|jw 10 (.bool ((iI x.n 1 40)&&(iI x.l 0 4))) (w:= .bool false) (by rw[h1]<;>rfl) ?_
  exact zK hj
 refine zD 3<|zX (.bool ((iI x.n 1 40)&&(iI x.l 0 4))) ⟨by simp only[iI,Value.bool.injEq,Bool.and_eq_true,decide_eq_true_eq];omega,rfl⟩
theorem ayv{v:Value}{S:List (List ah)}(hS:cU ro v S)(hO:eQ S):dr zT 169 [.agg ⟨[v]⟩] ro (zI 0):=by
 obtain⟨ws,ht,dg⟩:=hS
 obtain⟨eP,AG,AE,dQ,rfl,AF,sr,sq⟩:=ht
 have hln:=dg.len
 have Jv:=hO.two
 refine zE<|zD 2<|jn fun b1=>jd 10 [0]<|zJ 10 ((ws.length:Int)=0) (fun h1=>?_) fun h1=>?_
 ·
  exfalso;omega
 refine jd 10 [0]<|zJ 14 ((ws.length:Int)>3) (fun h2=>?_) fun h2=>?_
 ·
  exfalso;omega
 refine jd 11 [0]<|dB [1,1,1,0,1,0,0] [] (fun(zz:Nat)=>[(16,.slice eP ws.length dQ),(17,zI (ws.length:Int)),(18,zI (zz:Int))]) (fun zz=>[.b b1 (.cells ⟨[.slice eP ws.length dQ]⟩ 27 (0,0))]) (fun zz=>zz≤ws.length) (fun zz=>ws.length-zz) 0 (by omega) [0] ?_
 rintro k hI K1 bF rest
 refine zD 5<|zJ 19 ((k:Int) <(ws.length:Int)) (fun h3=>?_) fun h3=>?_
 ·
  refine zD 6 ?_
  obtain⟨TQ,CL⟩:=zG ws k
  refine gY dQ 1 sr CL ?_
  obtain⟨l21,awN,h21⟩:=dg.get CL
  obtain bcA:=hO.len _ (zL awN)
  obtain aPi:=hO.ok _ (zL awN)
  obtain an5:=hO.asc _ (zL awN)
  obtain⟨aC3,baA,bay,amK,rfl,baz,aC2,aC1⟩:=h21
  refine jl 0 (sq _ _ CL)<|zD 9<|zJ 24 ((l21.length:Int)>8) (fun h4=>?_) fun h4=>?_
  ·
   exfalso;omega
  refine zD 9<|dB [1,1,1,0,1,0,0,1,1,0,0,1,1,1,0,0] [K1] (fun(zz:Nat)=>[(4,.slice aC3 l21.length amK),(16,.slice eP ws.length dQ),(17,zI (ws.length:Int)),(18,zI (k:Int)),(25,.slice aC3 l21.length amK),(26,zI (l21.length:Int)),(27,zI (zz:Int))]) (fun zz=>[.b b1 (.cells ⟨[.slice eP ws.length dQ]⟩ 27 (0,0))]) (fun zz=>zz≤l21.length) (fun zz=>l21.length-zz) 0 (by omega) [0] ?_
  rintro i hJ K2 kL rest
  refine zD 5<|zJ 28 ((i:Int) <(l21.length:Int)) (fun h5=>?_) fun h5=>?_
  ·
   refine zD 7 ?_
   obtain⟨ku,fO⟩:=zG l21 i
   refine gY amK 2 aC2 fO<|jl 0 (aC1 _ _ fO)<|jn fun b6=>jd 7 [0,0]<|jp (vs:=[.agg ⟨[zI ku.n,zI ku.l]⟩]) [] [] (fun aG hs hZ=>(ayo (x:=ku) (aPi _ (zL fO))))<|zD 9<|js 2 (decide ((i:Int)>0)) (fun h6=>?_) (fun h6=>?_)
   ·
    have h6g:=h6
    replace h6g:=of_decide_eq_true h6g
    refine zD 2<|ja ((i:Int)-1) (by omega) ?_
    obtain⟨x41,Vi⟩:=zG l21 (((i:Int)-1).toNat)
    refine IU ((i:Int)-1) amK 2 aC2 Vi (by omega)<|jl 0 (aC1 _ _ Vi)<|jd 1 [0]<|jp (vs:=[.agg ⟨[zI x41.n,zI x41.l]⟩,.agg ⟨[zI ku.n,zI ku.l]⟩]) [] [] (fun aG hs hZ=>(ar1 (x:=x41) (y:=ku)))<|zD 3<|zJ 46 ((acn x41 ku)≥0) (fun h7=>?_) fun h7=>?_
    ·
     exfalso;have:=apk (qd an5 (show ((i:Int)-1).toNat <i by omega) Vi fO);simp_all;omega
    refine zD 3<|ja ((i:Int)+1) (by omega)<|zD 2<|bE kL (i+1) (by omega) (by omega) [1] (Sub.refl _)
   have h6g:=h6
   replace h6g:=of_decide_eq_false h6g
   refine zD 13<|ja ((i:Int)+1) (by omega)<|zD 2<|bE kL (i+1) (by omega) (by omega) [1] (Sub.refl _)
  refine zD 3<|ja ((k:Int)+1) (by omega)<|zD 2<|bE bF (k+1) (by omega) (by omega) [0] (Sub.refl _)
 refine zD 7<|zX (zI 0) ⟨rfl,rfl⟩
abbrev oU(x:an):Value:= .agg ⟨cK x⟩
instance:DecidableEq an:=fun x y=>match x,y with
 | ⟨a,b,c⟩,⟨d,e,f⟩=>if h:a=d∧b=e∧c=f then isTrue (by obtain⟨rfl,rfl,rfl⟩:=h;rfl) else isFalse fun k=>h (by cases k;exact⟨rfl,rfl,rfl⟩)
def mD(s:Int)(x:ah):an:=⟨s,x.n,x.l⟩
def Ru(S:List (List ah)):Nat→List an
 |0=>[]
 |k+1=>Ru S k++(match S[k]? with
  |some l=>l.map (mD k)
  |none=>[])
def bI(S:List (List ah)):List an:=Ru S S.length
theorem av7{S:List (List ah)}{l:List ah}(h:S[k]?=some l):Ru S (k+1)=Ru S k++l.map (mD k):=by simp only[Ru,h]
theorem E9{S:List (List ah)}{x:an}:∀ {k:Nat},x∈Ru S k↔∃j l p,j <k∧S[j]?=some l∧p∈l∧x=mD j p
 |0=>by simp[Ru]
 |k+1=>by
  simp only[Ru,List.mem_append,E9 (k:=k)]
  constructor
  ·rintro(⟨j,l,p,h1,h2⟩|h)
   ·exact⟨j,l,p,by omega,h2⟩
   split at h
   ·rename_i l hl
    obtain⟨p,hp,rfl⟩:=List.mem_map.1 h
    exact⟨k,l,p,by omega,hl,hp,rfl⟩
   cases h
  rintro⟨j,l,p,h1,h2,h3,rfl⟩
  by_cases hj:j=k
  ·subst hj;rw[h2];exact .inr (List.mem_map_of_mem h3)
  exact .inl ⟨j,l,p,by omega,h2,h3,rfl⟩
theorem Hr{S:List (List ah)}{j:Nat}{l:List ah}{p:ah}(h1:S[j]?=some l) (h2:p∈l):mD j p∈bI S:=E9.2 ⟨j,l,p,(List.getElem?_eq_some_iff.1 h1).1,h1,h2,rfl⟩
theorem Vm{S:List (List ah)}(hO:eQ S):∀k,(Ru S k).Nodup
 |0=>List.nodup_nil
 |k+1=>by
  simp only[Ru]
  refine List.nodup_append.2 ⟨Vm hO k,?_,fun x hx y hy e=>?_⟩
  ·split
   ·rename_i l hl
    refine List.pairwise_map.2 ((hO.asc l (zL hl)).imp fun {a b} h e=>?_)
    simp only[mD,an.mk.injEq] at e
    rcases h with h|h<;>omega
   exact List.nodup_nil
  subst e
  obtain⟨j,l,p,h1,_,_,rfl⟩:=E9.1 hx
  split at hy
  ·obtain⟨q,_,hq⟩:=List.mem_map.1 hy
   simp only[mD,an.mk.injEq] at hq
   omega
  cases hy
theorem NF{S:List (List ah)}(hO:eQ S):∀k,(Ru S k).length≤4*k
 |0=>by simp[Ru]
 |k+1=>by
  have:=NF hO k
  simp only[Ru,List.length_append]
  split
  ·rename_i l hl
   have:=hO.len l (zL hl)
   rw[List.length_map];omega
  simp;omega
theorem ui{S:List (List ah)}(hO:eQ S):(bI S).length≤8:=by
 have:=NF hO S.length
 have:=hO.two
 unfold bI;omega
theorem aHJ(a b:an):EqD zT 10000 158 (oU a) (oU b) (decide (a=b)):=by
 have h:=(uw (ni Tryz.typeInfo158 Tryz.underlying158 rfl rfl rfl rfl rfl rfl) Tryz.stoodInHeld158 (.cons (by decide) (j5 mz rfl) (j5 mz rfl) (od mz _ _) (.cons (by decide) (GC (ni Tryz.typeInfo79 Tryz.underlying79 rfl rfl rfl rfl rfl rfl) rfl) (GC (ni Tryz.typeInfo79 Tryz.underlying79 rfl rfl rfl rfl rfl rfl) rfl) (ajI _ _ _ _ 9997) .nil)):EqD zT 10000 158 (oU a) (oU b) _)
 have e:(a.h==b.h&&((a.n==b.n&&(a.l==b.l&&true))&&true))=decide (a=b):=by
  rcases a with ⟨x,y,z⟩;rcases b with ⟨u,v,w⟩
  rw[Bool.eq_iff_iff];simp
 rwa[e] at h
theorem aTI(a:an):CkD zT 10000 158 (oU a):=
 SS (ni Tryz.typeInfo158 Tryz.underlying158 rfl rfl rfl rfl rfl rfl) (.cons (by decide) (j5 mz rfl) (Ie mz _) (.cons (by decide) (GC (ni Tryz.typeInfo79 Tryz.underlying79 rfl rfl rfl rfl rfl rfl) rfl) (SS (dep:=9998) (ni Tryz.typeInfo79 Tryz.underlying79 rfl rfl rfl rfl rfl rfl) (.cons (by decide) (j5 mz rfl) (Ie mz _) (.cons (by decide) (j5 mz rfl) (Ie mz _) .nil))) .nil))
theorem DM:Tj zT 158 oU:=agv (ni Tryz.typeInfo158 Tryz.underlying158 rfl rfl rfl rfl rfl rfl) (fun k=>⟨_,rfl⟩) aTI aHJ (fun k=>by simp[Instr.sameBits])
def MV(Z:Cells)(F:List (an×Value))(g:an→an):Prop:=∀aD,Knows aD Z→∀x∈F,bC aD x.2 3 cK [g x.1]
theorem HS[DecidableEq κ]{k:κ}:∀ {F:List (κ×Value)} {i:Nat},k∈F.map (·.1)→∃j v,su k F i=some (j,v)
 | [],_,h=>by cases h
 |x::F,i,h=>by
  simp only[su]
  split
  ·exact⟨_,_,rfl⟩
  rename_i hk
  refine HS ?_
  rcases List.mem_cons.1 h with h|h
  ·exact absurd h hk
  exact h
theorem Yn[DecidableEq κ]{k:κ}{F:List (κ×Value)}(h:k∈F.map (·.1)):∃v,lkM k F=some v∧(k,v)∈F:=by
 obtain⟨j,v,h1⟩:=HS (i:=0) h
 exact⟨v,by simp[lkM,h1],zL (qv h1).2⟩
theorem adY[DecidableEq κ]{k:κ}{v:Value}{F:List (κ×Value)}(h:k∉F.map (·.1)):mi k v F=F++[(k,v)]:=by
 have:su k F 0=none:=by
  cases hf:su k F 0 with
  |none=>rfl
  |some y=>exact absurd (List.mem_map_of_mem (f:=(·.1)) (zL (qv (j:=y.1) (v:=y.2) hf).2)) h
 simp only[mi,this]
theorem Py[DecidableEq κ]{k:κ}{v:Value}{F:List (κ×Value)}(h:k∈F.map (·.1))(hn:(F.map (·.1)).Nodup):(mi k v F).map (·.1)=F.map (·.1)∧∀x∈mi k v F,x=(k,v)∨(x∈F∧x.1≠k):=by
 obtain⟨j,u,h1⟩:=HS (i:=0) h
 have h2:=(qv h1).2
 rw[Nat.sub_zero] at h2
 obtain⟨hj,TD⟩:=List.getElem?_eq_some_iff.1 h2
 simp only[mi,h1,E1]
 refine⟨?_,fun x hx=>?_⟩
 ·rw[List.map_set]
  refine List.ext_getElem? fun i=>?_
  rw[List.getElem?_set]
  split
  ·rename_i hi;subst hi;simp[h2,hj,TD]
  rfl
 obtain⟨i,hi⟩:=List.getElem?_of_mem hx
 rw[List.getElem?_set] at hi
 split at hi
 ·cases hi;exact .inl rfl
 rename_i I1
 refine .inr ⟨zL hi,fun e=>I1 ?_⟩
 obtain⟨hi1,RQ⟩:=List.getElem?_eq_some_iff.1 hi
 exact(List.getElem_inj (xs:=F.map (·.1)) (h₀:=by simpa using hj) (h₁:=by simpa using hi1) hn).1 (by simp[TD,RQ,e])
theorem MV.set{F:List (an×Value)}{g:an→an}(h:MV Z F g){k y:an}{v:Value}(hk:k∈F.map (·.1))(hn:(F.map (·.1)).Nodup)(hv:∀aD,Knows aD Z2→bC aD v 3 cK [y]):MV (Z++Z2) (mi k v F) (fun x=>if x=k then y else g x):=fun aD hr x hx=>by
 rcases(Py hk hn).2 x hx with rfl| ⟨h1,h2⟩
 ·simp only[if_true];exact hv aD hr.right
 simp only[h2,if_false];exact h aD hr.left x h1
theorem MV.add{F:List (an×Value)}{g:an→an}(h:MV Z F g){k:an}{v:Value}(hv:∀aD,Knows aD Z2→bC aD v 3 cK [g k]):MV (Z++Z2) (F++[(k,v)]) g:=fun aD hr x hx=>by
 rcases List.mem_append.1 hx with h1|h1
 ·exact h aD hr.left x h1
 rw[List.mem_singleton] at h1;subst h1;exact hv aD hr.right
theorem aHB{v:Value}(hl:bC ro v 1 cm xs)(hn:xs.length≤1000):dE zT 177 [v] ro [] (fun r Y=>aw r 1 3 cm xs Y):=by
 obtain⟨fw,rQ,rP,eL,rfl,tO,lM,mC⟩:=hl
 refine zE<|zD 8<|jsn 22 (a:=fw) (l:=xs.length) (c:=eL)<|zD 1<|js 4 (fw.isNone) (fun h1=>?_) (fun h1=>?_)
 ·
  refine zD 6<|zX (zS) (by rw[rh lM (by assumption)];exact aw.nil _ _ _)
 refine zD 4<|jn fun b5=>zD 1<|iE (sz:=1) (ps:=[]) (qs:=xs) (enc:=cm) (w:= .slice fw xs.length eL) [0] [] [] (bB (b:=b5) (T:=3)) (fun s he _=>⟨fw,rQ,rP,eL,rfl,lM,fun i p hp=>(mC i p hp).ext he⟩) (fun p _=>ai rfl) (by simp<;>omega) (fun v7 L7 iF=>?_)
 rw[List.nil_append] at iF
 obtain⟨OU,OT,NM⟩:=iF.form
 subst NM
 refine zD 3<|zR ((.slice OU (xs).length OT)) [] [0] L7 iF
theorem aTm{v:Value}{xs:List ah}(hl:bC ro v 2 cJ xs)(hn:xs.length≤1000):dE zT 211 [v] ro [] (fun r Y=>aw r 2 79 cJ xs Y):=by
 obtain⟨fw,rQ,rP,eL,rfl,tO,lM,mC⟩:=hl
 refine zE<|zD 8<|jsn 80 (a:=fw) (l:=xs.length) (c:=eL)<|zD 1<|js 4 (fw.isNone) (fun h1=>?_) (fun h1=>?_)
 ·
  refine zD 6<|zX (zS) (by rw[rh lM (by assumption)];exact aw.nil _ _ _)
 refine zD 4<|jn fun b5=>zD 1<|iE (sz:=2) (ps:=[]) (qs:=xs) (enc:=cJ) (w:= .slice fw xs.length eL) [0] [] [] (bB (b:=b5) (T:=79)) (fun s he _=>⟨fw,rQ,rP,eL,rfl,lM,fun i p hp=>(mC i p hp).ext he⟩) (fun p _=>ai rfl) (by simp<;>omega) (fun v7 L7 iF=>?_)
 rw[List.nil_append] at iF
 obtain⟨OU,OT,NM⟩:=iF.form
 subst NM
 refine zD 3<|zR ((.slice OU (xs).length OT)) [] [0] L7 iF
theorem aTn{v:Value}{xs:List an}(hl:bC ro v 3 cK xs)(hn:xs.length≤1000):dE zT 128 [v] ro [] (fun r Y=>aw r 3 158 cK xs Y):=by
 obtain⟨fw,rQ,rP,eL,rfl,tO,lM,mC⟩:=hl
 refine zE<|zD 8<|jsn 154 (a:=fw) (l:=xs.length) (c:=eL)<|zD 1<|js 4 (fw.isNone) (fun h1=>?_) (fun h1=>?_)
 ·
  refine zD 6<|zX (zS) (by rw[rh lM (by assumption)];exact aw.nil _ _ _)
 refine zD 4<|jn fun b5=>zD 1<|iE (sz:=3) (ps:=[]) (qs:=xs) (enc:=cK) (w:= .slice fw xs.length eL) [0] [] [] (bB (b:=b5) (T:=158)) (fun s he _=>⟨fw,rQ,rP,eL,rfl,lM,fun i p hp=>(mC i p hp).ext he⟩) (fun p _=>ai rfl) (by simp<;>omega) (fun v7 L7 iF=>?_)
 rw[List.nil_append] at iF
 obtain⟨OU,OT,NM⟩:=iF.form
 subst NM
 refine zD 3<|zR ((.slice OU (xs).length OT)) [] [0] L7 iF
theorem ao1{v:Value}{S:List (List ah)}(hS:cU ro v S)(hO:eQ S):dE zT 180 [.agg ⟨[v]⟩] ro [] (fun r Y=>∃a n c,r= .agg ⟨[.slice a n c]⟩∧∀aD,Knows aD Y→cU aD (.slice a n c) S):=by
 obtain⟨ws,ht,dg⟩:=hS
 obtain⟨eP,AG,AE,dQ,rfl,AF,sr,sq⟩:=ht
 have hln:=dg.len
 have Jv:=hO.two
 refine zE<|zD 2<|jn fun b1=>jn fun b2=>zD 4<|jn fun b3=>jd 11 [0,2]<|n8<|n8<|dB [1,1,0,1,0,0] [] (fun(zz:Nat×Value×Cells×(List Value)×Cells)=>[(2,zP b2),(3,zP b3),(8,.slice eP ws.length dQ),(9,zI (ws.length:Int)),(10,zI (zz.1:Int))]) (fun zz=>[.b b3 (.cells ⟨[zz.2.1]⟩ 27 (0,0)),.l zz.2.2.1,.l zz.2.2.2.2,.b b2 (.cells ⟨[zS]⟩ 27 (0,0)),.b b1 (.cells ⟨[.slice eP ws.length dQ]⟩ 27 (0,0))]) (fun zz=>(zz.1≤ws.length∧zz.2.2.2.1.length=zz.1)∧aw zz.2.1 1 80 fK zz.2.2.2.1 zz.2.2.1∧∀aD,Knows aD zz.2.2.2.2→di (fun w l=>bC aD w 2 cJ l) zz.2.2.2.1 (S.take zz.1)) (fun zz=>ws.length-zz.1) (⟨0,zS,[],[],[]⟩) ⟨⟨by dsimp only;omega,rfl⟩,aw.nil _ _ _,fun _ _=> .nil⟩ [2,1,0,3,4] ?_
 rintro⟨k,vO,LO,es,Z⟩ hI K1 bF rest
 dsimp only at hI
 refine zD 5<|zJ 11 ((k:Int) <(ws.length:Int)) (fun h1=>?_) fun h1=>?_
 ·
  refine zD 6 ?_
  obtain⟨tD,qi⟩:=zG ws k
  refine gY dQ 1 sr qi ?_
  obtain⟨l13,aFJ,uU⟩:=dg.get qi
  obtain aFx:=hO.len _ (zL aFJ)
  obtain⟨aDc,aNF,aNB,aDb,rfl,aND,aNE,aNC⟩:=uU
  refine jl 0 (sq _ _ qi)<|jd 6 [0]<|aS 3 fun yD yK ya=>jc (vs:=[.slice aDc l13.length aDb]) [] (aTm (show bC _ _ _ _ _ from ⟨aDc,aNF,aNB,aDb,rfl,aND,aNE,aNC⟩) (by first|omega| (simp only[List.length_set,zM];omega))) ?_
  rintro v17 L17 uk
  obtain⟨xV,xU,JA⟩:=uk.form
  subst JA
  refine eo ya (zN 1 5)<|aS 4 fun oh ov mZ=>jn fun Ab=>eo mZ (zN 1 6)<|aS 5 fun pX p6 oZ=>iE (sz:=1) (ps:=es) (qs:=[((.slice xV (l13).length xU):Value)]) (enc:=fK) (w:= .slice (some ⟨Ab,0,none⟩) 1 1) [3] [0] [(Ab,.cells ⟨([((.slice xV (l13).length xU):Value)].map fK).flatten⟩ 80 (0,0))] (hI.2.1) (fun s _ hZ=>bN [((.slice xV (l13).length xU):Value)] (hZ _ (.head _)) (by intro p hp;rfl)) (by intro p hp;rw[List.mem_singleton] at hp;subst hp;exact ai rfl) (by simp<;>omega) (fun v19 L19 ahB=>?_)
  obtain⟨aLR,aLx,aRd⟩:=ahB.form
  subst aRd
  refine gx oZ []<|zD 1<|aS 7 fun yC yJ zm=>jd 1 [3]<|fU zm<|zD 2<|ja ((k:Int)+1) (by omega)<|zD 2<|KY bF (⟨k+1,(.slice aLR ((es++[((.slice xV (l13).length xU):Value)])).length aLx),L19,(es++[((.slice xV (l13).length xU):Value)]),L17++Z⟩) ⟨⟨by dsimp only;omega,by simp only[zM];omega⟩,ahB,fun aD hk=>pW (hI.2.2 aD hk.right) aFJ (uk.jW hk.left)⟩ (by dsimp only;omega) [[3],[0],[2,4],[5],[6]] (Sub.refl _)
 refine jd 5 [0] ?_
 obtain⟨va6,vc6,he6⟩:=hI.2.1.form
 subst he6
 refine jd 3 [3]<|zR (.agg ⟨[(.slice va6 (es).length vc6)]⟩) [3] [1,2] (LO++Z) ⟨_,_,_,rfl,fun aD hk=>⟨es,hI.2.1.jW hk.left,by have:=hI.2.2 aD hk.right;rwa[List.take_of_length_le (by omega)] at this⟩⟩
theorem Zo{v:Value}{S:List (List ah)}(hS:cU ro v S)(hO:eQ S):dE zT 171 [.agg ⟨[v]⟩] ro [] (fun r Y=>aw r 3 158 cK (bI S) Y):=by
 obtain⟨ws,ht,dg⟩:=hS
 obtain⟨eP,AG,AE,dQ,rfl,AF,sr,sq⟩:=ht
 have hln:=dg.len
 have Jv:=hO.two
 refine zE<|zD 2<|jn fun b1=>jd 15 [0]<|n8<|dB [1,1,0,1,0,0] [] (fun(zz:Nat×Value×Cells)=>[(2,zS),(3,zz.2.1),(9,.slice eP ws.length dQ),(10,zI (ws.length:Int)),(11,zI (zz.1:Int))]) (fun zz=>[.l zz.2.2,.b b1 (.cells ⟨[.slice eP ws.length dQ]⟩ 27 (0,0))]) (fun zz=>zz.1≤ws.length∧aw zz.2.1 3 158 cK (Ru S zz.1) zz.2.2) (fun zz=>ws.length-zz.1) (⟨0,zS,[]⟩) ⟨by dsimp only;omega,aw.nil _ _ _⟩ [0,1] ?_
 rintro⟨k,vO,LO⟩ hI K1 bF rest
 dsimp only at hI
 refine zD 5<|zJ 12 ((k:Int) <(ws.length:Int)) (fun h1=>?_) fun h1=>?_
 ·
  refine zD 7 ?_
  obtain⟨fG,eE⟩:=zG ws k
  refine gY dQ 1 sr eE ?_
  obtain⟨Rb,abO,N0⟩:=dg.get eE
  obtain aQp:=hO.len _ (zL abO)
  obtain⟨auu,aNA,aNy,ae7,rfl,aNz,aut,aus⟩:=N0
  refine jl 0 (sq _ _ eE)<|zD 10<|dB [1,1,0,1,0,0,1,1,0,0,1,1,0,0] [K1] (fun(zz:Nat×Value×Cells)=>[(2,zS),(3,zz.2.1),(4,zI (k:Int)),(9,.slice eP ws.length dQ),(10,zI (ws.length:Int)),(11,zI (k:Int)),(16,.slice auu Rb.length ae7),(17,zI (Rb.length:Int)),(18,zI (zz.1:Int))]) (fun zz=>[.l zz.2.2,.b b1 (.cells ⟨[.slice eP ws.length dQ]⟩ 27 (0,0))]) (fun zz=>zz.1≤Rb.length∧aw zz.2.1 3 158 cK (Ru S k++(Rb.take zz.1).map (mD k)) zz.2.2) (fun zz=>Rb.length-zz.1) (⟨0,vO,LO⟩) ⟨by dsimp only;omega,by simpa using hI.2⟩ [0,1] ?_
  rintro⟨i,vO,LO⟩ hJ K2 kL rest
  dsimp only at hJ
  refine zD 5<|zJ 19 ((i:Int) <(Rb.length:Int)) (fun h2=>?_) fun h2=>?_
  ·
   refine zD 6 ?_
   obtain⟨TQ,CL⟩:=zG Rb i
   refine gY ae7 2 aut CL<|jl 0 (aus _ _ CL)<|jn fun b7=>jd 7 [0,0]<|jn fun b26=>iE (sz:=3) (ps:=(Ru S k++(Rb.take i).map (mD k))) (qs:=[(⟨(k:Int),TQ.n,TQ.l⟩:an)]) (enc:=cK) (w:= .slice (some ⟨b26,0,none⟩) 1 1) [2] [0] [(b26,.cells ⟨([(⟨(k:Int),TQ.n,TQ.l⟩:an)].map cK).flatten⟩ 158 (0,0))] (hJ.2) (fun s _ hZ=>bN [(⟨(k:Int),TQ.n,TQ.l⟩:an)] (hZ _ (.head _)) (by intro p hp;rfl)) (fun p _=>ai rfl) (by have:=NF hO k;simp only[List.length_append,List.length_map,List.length_take,List.length_cons,List.length_nil];omega) (fun v27 L27 ahz=>?_)
   obtain⟨aLO,aLu,aRb⟩:=ahz.form
   subst aRb
   refine zD 3<|ja ((i:Int)+1) (by omega)<|zD 2<|bE kL (⟨i+1,(.slice aLO (((Ru S k++(Rb.take i).map (mD k))++[(⟨(k:Int),TQ.n,TQ.l⟩:an)])).length aLu),L27⟩) ⟨by dsimp only;omega,by rw[dZ CL,List.map_append,←List.append_assoc];exact ahz⟩ (by dsimp only;omega) [0,3] (Sub.refl _)
  refine zD 3<|ja ((k:Int)+1) (by omega)<|zD 2<|bE bF (⟨k+1,vO,LO⟩) ⟨by dsimp only;omega,by rw[av7 abO];have:=hJ.2;rwa[List.take_of_length_le (by omega)] at this⟩ (by dsimp only;omega) [0,1] (Sub.refl _)
 refine zD 8<|zR (vO) [] [0] LO (by have:=hI.2;rwa[show k=S.length by omega] at this)
theorem T6{l:List α}{x:α}(hn:l.Nodup)(h:l[k]?=some x):x∉l.take k:=fun hx=>by
 obtain⟨hk,he⟩:=List.getElem?_eq_some_iff.1 h
 obtain⟨i,hi⟩:=List.getElem?_of_mem hx
 have hik:i <k:=by have:=(List.getElem?_eq_some_iff.1 hi).1;rw[List.length_take] at this;omega
 rw[List.getElem?_take_of_lt hik] at hi
 obtain⟨hi1,RQ⟩:=List.getElem?_eq_some_iff.1 hi
 have:=(List.getElem_inj (h₀:=hi1) (h₁:=hk) hn).1 (RQ.trans he.symm)
 omega
def xZ(n:Int):Bool:= !decide (Int.tmod n 2=0)
def EJ(n:Int):Bool:=decide (Int.tmod n 2=0)
theorem rz{p:α→Bool}{l:List α}{x:α}(h:l[i]?=some x):(l.take (i+1)).filter p=(l.take i).filter p++bif p x then [x] else []:=by
 rw[dZ h,List.filter_append]
 cases hp:p x<;>simp[hp]
def rn(l:List ah):List (List ah):=[l.filter fun x=>xZ x.n,l.filter fun x=>EJ x.n]
theorem ail{l h:List ah}{x:ah}(hh:h∈rn l)(hx:x∈h):x∈l:=by
 simp only[rn,List.mem_cons,List.not_mem_nil,or_false] at hh
 rcases hh with rfl|rfl<;>exact(List.mem_filter.1 hx).1
theorem aim{l h:List ah}(hh:h∈rn l):h.length≤l.length:=by
 simp only[rn,List.mem_cons,List.not_mem_nil,or_false] at hh
 rcases hh with rfl|rfl<;>exact List.length_filter_le _ _
def Jh(s:Int)(h:List ah):List (an×an):=(h.zip h.reverse).map fun p=>(mD s p.1,mD s p.2)
def adZ(s:Int)(l:List ah):List (an×an):=(rn l).flatMap (Jh s)
def JY(s:Int)(l:List ah):List (an×an):=l.map fun x=>(mD s x,⟨s,if xZ x.n=true then x.n+1 else x.n-1,x.l⟩)
def rO(l:List ah):Int:=match l[l.length-1]? with
 |some y=>y.n+Int.tmod y.n 2
 |none=>0
def KX(s o:Int)(l:List ah)(r:Int):List (an×an):=l.map fun x=>(mD s x,⟨o,x.n+r,x.l⟩)
def gU(u:List (an×an))(x:an):an:=u.foldl (fun y p=>if x=p.1 then p.2 else y) x
theorem aoY(u:List (an×an))(a b:an):gU (u++[(a,b)])=fun x=>if x=a then b else gU u x:=by
 funext x;simp only[gU,List.foldl_append,List.foldl_cons,List.foldl_nil]
theorem amt{s:Int}{h:List ah}{x y:ah}(hx:h[i]?=some x) (hy:h[(((h.length:Int)-1)-(i:Int)).toNat]?=some y):(Jh s h)[i]?=some (mD s x,mD s y):=by
 have hi:=(List.getElem?_eq_some_iff.1 hx).1
 have h2:h.reverse[i]?=some y:=by rw[List.getElem?_reverse hi,←hy];congr 1;omega
 have:=(List.getElem?_zip_eq_some (z:=(x,y))).2 ⟨hx,h2⟩
 simp only[Jh,List.getElem?_map,this];rfl
theorem aeF(s:Int)(h:List ah):(Jh s h).length=h.length:=by simp[Jh]
theorem af5{β:Type}{f:α→β}{l:List α}{x:α}(h:l[i]?=some x):(l.map f)[i]?=some (f x):=by rw[List.getElem?_map,h];rfl
theorem ao5{β:Type}{f:α→List β}{l:List α}{x:α}(h:l[i]?=some x):(l.take (i+1)).flatMap f=(l.take i).flatMap f++f x:=by rw[dZ h,List.flatMap_append,List.flatMap_singleton]
theorem MV.upd{S:List (List ah)}(hO:eQ S){F:List (an×Value)}{u:List (an×an)}{l:List ah}{x:ah}{y:an}{b:Nat}{T:TypeId}(h:MV Z F (gU u))(hk:F.map (·.1)=bI S)(hl:S[s]?=some l) (hx:x∈l):
 MV (Z++[(b,.cells ⟨cK y⟩ T (0,0))]) (mi (mD s x) (.slice (some ⟨b,0,none⟩) 1 1) F) (gU (u++[(mD s x,y)]))∧(mi (mD s x) (.slice (some ⟨b,0,none⟩) 1 1) F).map (·.1)=bI S:=by
 have hm:mD s x∈F.map (·.1):=by rw[hk];exact Hr hl hx
 have hn:(F.map (·.1)).Nodup:=by rw[hk];exact Vm hO _
 rw[aoY]
 exact⟨h.set hm hn fun aD hk=>bU [y] (hk _ (.head _)) (fun _ _=>rfl),(Py hm hn).1.trans hk⟩
theorem PY{S:List (List ah)}(hO:eQ S){F:List (an×Value)}{x:an}{b:Nat}{T:TypeId}(h:MV Z F id)(hk:F.map (·.1)=(bI S).take k)(hx:(bI S)[k]?=some x):
 MV (Z++[(b,.cells ⟨cK x⟩ T (0,0))]) (mi x (.slice (some ⟨b,0,none⟩) 1 1) F) id∧(mi x (.slice (some ⟨b,0,none⟩) 1 1) F).map (·.1)=(bI S).take (k+1):=by
 have:x∉F.map (·.1):=by rw[hk];exact T6 (Vm hO _) hx
 rw[adY this]
 exact⟨h.add fun aD hk=>bU [x] (hk _ (.head _)) (fun _ _=>rfl),by rw[List.map_append,hk,dZ hx];rfl⟩
theorem Lu{v:Value}{S:List (List ah)}(hS:cU ro v S)(hO:eQ S):dE zT 181 [.agg ⟨[v]⟩] ro [] (fun r Y=>∃rm F LM Z,r= .map (some rm)∧Y=LM++Z∧jP rm oU F LM∧F.map (·.1)=bI S∧MV Z F id):=by
 have yp:=hS
 obtain⟨ws,ht,dg⟩:=hS
 obtain⟨eP,AG,AE,dQ,rfl,AF,sr,sq⟩:=ht
 have hln:=dg.len
 have Jv:=hO.two
 have hhl:=ui hO
 refine zE<|zD 2<|jn fun b1=>zD 4<|jmk oU fun r6 L6 hm6=>jd 6 [1]<|jc (vs:=[.agg ⟨[.slice eP ws.length dQ]⟩]) [] (Zo yp hO) ?_
 rintro v8 L8 ho8
 refine CG ho8<|zD 1<|jf [0] L8 (fun yS cg iK=>?_)
 have hzh:=ho8.jW iK
 obtain⟨aMB,aZS,aZQ,aCg,rfl,aZR,aMA,aMz⟩:=hzh
 refine zD 2<|n8<|dB [1,1,0,1,0,0] [] (fun(zz:Nat×(List (an×Value))×Cells×Cells)=>[(2,(.map none)),(3,(.map (some r6))),(8,.slice aMB ((bI S).length) aCg),(9,zI ((bI S).length:Int)),(10,zI (zz.1:Int))]) (fun(zz:Nat×(List (an×Value))×Cells×Cells)=>[.l zz.2.2.1,.l zz.2.2.2,.b b1 (.cells ⟨[.slice eP ws.length dQ]⟩ 27 (0,0))]) (fun(zz:Nat×(List (an×Value))×Cells×Cells)=>zz.1≤(bI S).length∧jP r6 oU zz.2.1 zz.2.2.1∧zz.2.1.map (·.1)=(bI S).take zz.1∧MV zz.2.2.2 zz.2.1 id) (fun(zz:Nat×(List (an×Value))×Cells×Cells)=>(bI S).length-zz.1) (⟨0,[],L6,[]⟩) ⟨by dsimp only;omega,hm6,rfl,fun _ _ _ h=>(by cases h)⟩ [1,0,2] ?_
 rintro⟨k,F,LM,Z⟩ hI K1 bF rest
 dsimp only at hI
 refine zD 5<|zJ 11 ((k:Int) <((bI S).length:Int)) (fun h4=>?_) fun h4=>?_
 ·
  refine zD 6 ?_
  obtain⟨tD,qi⟩:=zG ((bI S)) k
  refine gY aCg 3 aMA qi<|jl 0 (aMz _ _ qi)<|jn fun b5=>jd 6 [0,0,0]<|jn fun b17=>jmu (kv:=oU) (F:=F) (r:=r6) (K:=158) 2 tD (.slice (some ⟨b17,0,none⟩) 1 1) DM hI.2.1 fun Lm5 hm5=>zD 2<|ja ((k:Int)+1) (by omega)<|zD 2<|KY bF (⟨k+1,_,Lm5,Z++[(b17,.cells ⟨[zI tD.h,zI tD.n,zI tD.l]⟩ 158 (0,0))]⟩) ⟨by dsimp only;omega,hm5,(PY (T:=158) hO hI.2.2.2 hI.2.2.1 qi).2,(PY (T:=158) hO hI.2.2.2 hI.2.2.1 qi).1⟩ (by dsimp only;omega) [[0],[3,1],[4]] (Sub.refl _)
 refine zD 8<|aL q0.a ((.map (some r6))) [] [0,1] (LM++Z) cg ⟨_,_,rfl,rfl,_,F,LM,Z,rfl,rfl,hI.2.1,by rw[hI.2.2.1,List.take_of_length_le (by omega)],hI.2.2.2⟩
theorem gAt{h l:Int}:dr zT 254 [zI h,zI n,zI l] ro (.agg ⟨[zI h,zI n,zI l]⟩):=by
 refine zE<|zD 2<|jn fun b6=>jd 11 [0]<|zR (.agg ⟨[zI h,zI n,zI l]⟩) [0] [] [] ⟨rfl,rfl⟩
theorem aHo{x:ah}:dr zT 252 [.agg ⟨[zI x.n,zI x.l]⟩] ro (.bool (xZ x.n)):=by
 refine zE<|zD 2<|jn fun b1=>jd 11 [0]<|zX (.bool (!decide ((Int.tmod x.n 2)=0))) ⟨rfl,rfl⟩
theorem aji{v:Value}{l:List ah}(hl:bC ro v 2 cJ l)(hn:l.length≤4):dE zT 251 [v,.func (.func 252) ⟨[]⟩ ⟨[]⟩] ro [] (fun r Y=>aw r 2 79 cJ (l.filter fun x=>xZ x.n) Y):=by
 obtain⟨fw,rQ,rP,eL,rfl,tO,lM,mC⟩:=hl
 refine zE<|zD 16<|n8<|dB [1,1,0,1,0,0] [] (fun(zz:Nat×Value×Cells)=>[(1,.func (.func 252) ⟨[]⟩ ⟨[]⟩),(4,zS),(5,zz.2.1),(8,.slice fw l.length eL),(9,zI (l.length:Int)),(10,zI (zz.1:Int))]) (fun zz=>[.l zz.2.2]) (fun zz=>zz.1≤l.length∧aw zz.2.1 2 79 cJ ((l.take zz.1).filter fun x=>xZ x.n) zz.2.2) (fun zz=>l.length-zz.1) (⟨0,zS,[]⟩) ⟨by dsimp only;omega,aw.nil _ _ _⟩ [0] ?_
 rintro⟨k,vO,LO⟩ hI K1 bF rest
 dsimp only at hI
 refine zD 5<|zJ 11 ((k:Int) <(l.length:Int)) (fun h1=>?_) fun h1=>?_
 ·
  refine zD 6 ?_
  obtain⟨tD,qi⟩:=zG l k
  refine gY eL 2 lM qi<|jl 0 (mC _ _ qi)<|jn fun b7=>jd 6 [0,0]<|jp (vs:=[.agg ⟨[zI tD.n,zI tD.l]⟩]) [] [] (fun aG hs hZ=>(aHo (x:=tD)))<|zD 1<|js 16 (xZ tD.n) (fun h2=>?_) (fun h2=>?_)
  ·
   refine jd 4 [0]<|jn fun IA=>iE (sz:=2) (ps:=((l.take k).filter fun x=>xZ x.n)) (qs:=[(⟨tD.n,tD.l⟩:ah)]) (enc:=cJ) (w:= .slice (some ⟨IA,0,none⟩) 1 1) [2] [0] [(IA,.cells ⟨([(⟨tD.n,tD.l⟩:ah)].map cJ).flatten⟩ 79 (0,0))] (hI.2) (fun s _ hZ=>bN [(⟨tD.n,tD.l⟩:ah)] (hZ _ (.head _)) (by intro p hp;rfl)) (fun p _=>ai rfl) (by have:=List.length_filter_le (fun x:ah=>xZ x.n) (l.take k);rw[List.length_take] at this;simp only[List.length_cons,List.length_nil];omega) (fun v20 L20 Hp=>?_)
   obtain⟨atb,as1,axm⟩:=Hp.form
   subst axm
   refine zD 3<|ja ((k:Int)+1) (by omega)<|zD 2<|bE bF (⟨k+1,(.slice atb ((((l.take k).filter fun x=>xZ x.n)++[(⟨tD.n,tD.l⟩:ah)])).length as1),L20⟩) ⟨by dsimp only;omega,by rw[rz qi,show xZ tD.n=true from (by assumption)];exact Hp⟩ (by dsimp only;omega) [0] (Sub.refl _)
  refine zD 3<|ja ((k:Int)+1) (by omega)<|zD 2<|bE bF (⟨k+1,vO,LO⟩) ⟨by dsimp only;omega,by rw[rz qi,show xZ tD.n=false from (by assumption)];simpa using hI.2⟩ (by dsimp only;omega) [1] (Sub.refl _)
 refine zD 8<|zR (vO) [] [0] LO (by have:=hI.2;rwa[List.take_of_length_le (by omega)] at this)
theorem aHv{x:ah}:dr zT 253 [.agg ⟨[zI x.n,zI x.l]⟩] ro (.bool (EJ x.n)):=by
 refine zE<|zD 2<|jn fun b1=>jd 11 [0]<|zX (.bool (decide ((Int.tmod x.n 2)=0))) ⟨rfl,rfl⟩
theorem ajh{v:Value}{l:List ah}(hl:bC ro v 2 cJ l)(hn:l.length≤4):dE zT 251 [v,.func (.func 253) ⟨[]⟩ ⟨[]⟩] ro [] (fun r Y=>aw r 2 79 cJ (l.filter fun x=>EJ x.n) Y):=by
 obtain⟨fw,rQ,rP,eL,rfl,tO,lM,mC⟩:=hl
 refine zE<|zD 16<|n8<|dB [1,1,0,1,0,0] [] (fun(zz:Nat×Value×Cells)=>[(1,.func (.func 253) ⟨[]⟩ ⟨[]⟩),(4,zS),(5,zz.2.1),(8,.slice fw l.length eL),(9,zI (l.length:Int)),(10,zI (zz.1:Int))]) (fun zz=>[.l zz.2.2]) (fun zz=>zz.1≤l.length∧aw zz.2.1 2 79 cJ ((l.take zz.1).filter fun x=>EJ x.n) zz.2.2) (fun zz=>l.length-zz.1) (⟨0,zS,[]⟩) ⟨by dsimp only;omega,aw.nil _ _ _⟩ [0] ?_
 rintro⟨k,vO,LO⟩ hI K1 bF rest
 dsimp only at hI
 refine zD 5<|zJ 11 ((k:Int) <(l.length:Int)) (fun h1=>?_) fun h1=>?_
 ·
  refine zD 6 ?_
  obtain⟨tD,qi⟩:=zG l k
  refine gY eL 2 lM qi<|jl 0 (mC _ _ qi)<|jn fun b7=>jd 6 [0,0]<|jp (vs:=[.agg ⟨[zI tD.n,zI tD.l]⟩]) [] [] (fun aG hs hZ=>(aHv (x:=tD)))<|zD 1<|js 16 (EJ tD.n) (fun h2=>?_) (fun h2=>?_)
  ·
   refine jd 4 [0]<|jn fun IA=>iE (sz:=2) (ps:=((l.take k).filter fun x=>EJ x.n)) (qs:=[(⟨tD.n,tD.l⟩:ah)]) (enc:=cJ) (w:= .slice (some ⟨IA,0,none⟩) 1 1) [2] [0] [(IA,.cells ⟨([(⟨tD.n,tD.l⟩:ah)].map cJ).flatten⟩ 79 (0,0))] (hI.2) (fun s _ hZ=>bN [(⟨tD.n,tD.l⟩:ah)] (hZ _ (.head _)) (by intro p hp;rfl)) (fun p _=>ai rfl) (by have:=List.length_filter_le (fun x:ah=>EJ x.n) (l.take k);rw[List.length_take] at this;simp only[List.length_cons,List.length_nil];omega) (fun v20 L20 Hp=>?_)
   obtain⟨atb,as1,axm⟩:=Hp.form
   subst axm
   refine zD 3<|ja ((k:Int)+1) (by omega)<|zD 2<|bE bF (⟨k+1,(.slice atb ((((l.take k).filter fun x=>EJ x.n)++[(⟨tD.n,tD.l⟩:ah)])).length as1),L20⟩) ⟨by dsimp only;omega,by rw[rz qi,show EJ tD.n=true from (by assumption)];exact Hp⟩ (by dsimp only;omega) [0] (Sub.refl _)
  refine zD 3<|ja ((k:Int)+1) (by omega)<|zD 2<|bE bF (⟨k+1,vO,LO⟩) ⟨by dsimp only;omega,by rw[rz qi,show EJ tD.n=false from (by assumption)];simpa using hI.2⟩ (by dsimp only;omega) [1] (Sub.refl _)
 refine zD 8<|zR (vO) [] [0] LO (by have:=hI.2;rwa[List.take_of_length_le (by omega)] at this)
theorem Zm{v:Value}{S:List (List ah)}{l:List ah}{c2 c3 c4:Int}{F:List (an×Value)}(hS:cU ro v S)(hO:eQ S)(hl:S[s]?=some l) (hm:jP rm oU F LM) (hk:F.map (·.1)=bI S) (hM:MV Z F id):dE zT 230 [.agg ⟨[v]⟩,.agg ⟨[zI ck,zI (s:Int),zI c2,zI c3,zI c4,zI c5,zI c6]⟩,(.map (some rm))] ro (LM++Z) (fun r Y=>∃F' L' Z',r= zI 0∧Y=L'++Z'∧jP rm oU F' L'∧F'.map (·.1)=bI S∧MV Z' F' (gU (adZ (s:Int) l))):=by
 obtain⟨ws,ht,dg⟩:=hS
 obtain⟨eP,AG,AE,dQ,rfl,AF,sr,sq⟩:=ht
 have hln:=dg.len
 have Jv:=hO.two
 have He:=(List.getElem?_eq_some_iff.1 hl).1
 have hlm:=zL hl
 have hll:=hO.len _ hlm
 refine zC [.l LM,.l Z]<|zD 2<|jn fun b3=>jn fun b4=>zD 4<|Es [1,0,1] [] (fun(zz:Nat×Value×Value×Cells×Cells)=>[(2,(.map (some rm))),(4,zP b4),(6,zI 0),(25,.slice (some ⟨zz.1,0,none⟩) 2 2),(26,zI 2),(27,zI 0)]) (fun zz=>[.b zz.1 (.cells ⟨[zz.2.1,zz.2.2.1]⟩ 80 (0,0)),.l zz.2.2.2.1,.l zz.2.2.2.2,.l LM,.l Z,.b b4 (.cells ⟨[zI ck,zI (s:Int),zI c2,zI c3,zI c4,zI c5,zI c6]⟩ 83 (0,0)),.b b3 (.cells ⟨[.slice eP ws.length dQ]⟩ 27 (0,0))]) (fun zz=>aw zz.2.1 2 79 cJ (l.filter fun x=>xZ x.n) zz.2.2.2.1∧aw zz.2.2.1 2 79 cJ (l.filter fun x=>EJ x.n) zz.2.2.2.2) ?_ (fun K1 bF=>?_)
 ·
  rintro⟨nQ,v1,v2,L1,L2⟩ hC rest
  dsimp only at hC
  refine jf [0,1,2] ((nQ,.cells ⟨[v1,v2]⟩ 80 (0,0))::(L1++L2)) (fun yS cg iK=>?_)
  have hhv:=bU (enc:=fK) (T:=80) [v1,v2] (iK _ (.head _)) (fun _ _=>rfl)
  have aFQ:di (fun w l=>bC yS w 2 cJ l) [v1,v2] (rn l):= .cons (hC.1.jW (Knows.left (Knows.tail iK))) (.cons (hC.2.jW (Knows.right (Knows.tail iK))) .nil)
  have hvl: [v1,v2].length=2:=rfl
  obtain⟨qga,qgb,qgo,qgc,RU,qgk,qgh,qgl⟩:=hhv
  simp only[Value.slice.injEq] at RU
  obtain⟨rfl,_,rfl⟩:=RU
  refine zD 1<|dB [1,0,1,0,0] [] (fun(zz:Nat×(List (an×Value))×Cells×Cells)=>[(2,(.map (some rm))),(4,zP b4),(6,zI 0),(25,.slice (some ⟨nQ,0,none⟩) 2 2),(26,zI 2),(27,zI (zz.1:Int))]) (fun(zz:Nat×(List (an×Value))×Cells×Cells)=>[.l zz.2.2.1,.l zz.2.2.2,.b b4 (.cells ⟨[zI ck,zI (s:Int),zI c2,zI c3,zI c4,zI c5,zI c6]⟩ 83 (0,0)),.b b3 (.cells ⟨[.slice eP ws.length dQ]⟩ 27 (0,0))]) (fun(zz:Nat×(List (an×Value))×Cells×Cells)=>zz.1≤2∧jP rm oU zz.2.1 zz.2.2.1∧zz.2.1.map (·.1)=bI S∧MV zz.2.2.2 zz.2.1 (gU (((rn l).take zz.1).flatMap (Jh (s:Int))))) (fun(zz:Nat×(List (an×Value))×Cells×Cells)=>2-zz.1) (⟨0,F,LM,Z⟩) ⟨by dsimp only;omega,hm,hk,hM⟩ (zN 0 4) ?_
  rintro⟨k,F,LM,Z⟩ hI K2 kL rest
  dsimp only at hI
  refine zD 5<|zJ 28 ((k:Int) <2) (fun h4=>?_) fun h4=>?_
  ·
   refine zD 6 ?_
   obtain⟨Ef,A1⟩:=zG ([v1,v2]) k
   refine gY 2 1 qgh A1 ?_
   obtain⟨U4,awM,h30⟩:=aFQ.get A1
   obtain aFu:U4.length≤4:=by have:=aim (zL awM);omega
   obtain⟨aCT,bar,bap,amH,rfl,baq,aCS,aCR⟩:=h30
   refine jl 0 (qgl _ _ A1)<|zD 9<|dB [1,0,1,0,0,1,1,0,0,1,1,0,0] [K2] (fun(zz:Nat×(List (an×Value))×Cells×Cells)=>[(2,(.map (some rm))),(4,zP b4),(6,zI 0),(8,.slice aCT U4.length amH),(25,.slice (some ⟨nQ,0,none⟩) 2 2),(26,zI 2),(27,zI (k:Int)),(31,.slice aCT U4.length amH),(32,zI (U4.length:Int)),(33,zI (zz.1:Int))]) (fun(zz:Nat×(List (an×Value))×Cells×Cells)=>[.l zz.2.2.1,.l zz.2.2.2,.b b4 (.cells ⟨[zI ck,zI (s:Int),zI c2,zI c3,zI c4,zI c5,zI c6]⟩ 83 (0,0)),.b b3 (.cells ⟨[.slice eP ws.length dQ]⟩ 27 (0,0))]) (fun(zz:Nat×(List (an×Value))×Cells×Cells)=>zz.1≤U4.length∧jP rm oU zz.2.1 zz.2.2.1∧zz.2.1.map (·.1)=bI S∧MV zz.2.2.2 zz.2.1 (gU (((rn l).take k).flatMap (Jh (s:Int))++(Jh (s:Int) U4).take zz.1))) (fun(zz:Nat×(List (an×Value))×Cells×Cells)=>U4.length-zz.1) (⟨0,F,LM,Z⟩) ⟨by dsimp only;omega,hI.2.1,hI.2.2.1,by simpa using hI.2.2.2⟩ (zN 0 4) ?_
   rintro⟨i,F,LM,Z⟩ hJ K3 hK3 rest
   dsimp only at hJ
   refine zD 5<|zJ 34 ((i:Int) <(U4.length:Int)) (fun h5=>?_) fun h5=>?_
   ·
    refine zD 7 ?_
    obtain⟨x36,za⟩:=zG U4 i
    refine gY amH 2 aCS za<|jl 0 (aCR _ _ za)<|jn fun sw=>jd 14 [0,3,0,3]<|ja ((U4.length:Int)-1) (by omega)<|zD 1<|ja (((U4.length:Int)-1)-(i:Int)) (by omega) ?_
    obtain⟨x51,y9⟩:=zG U4 (((((U4.length:Int)-1)-(i:Int))).toNat)
    refine IU (((U4.length:Int)-1)-(i:Int)) amH 2 aCS y9 (by omega)<|jl 0 (aCR _ _ y9)<|zD 1<|aS 16 fun pX p6 oZ=>jn fun b54=>eo oZ (zN 1 5)<|aS 17 fun yC yJ zm=>jmu (kv:=oU) (F:=F) (r:=rm) (K:=158) 2 (mD (s:Int) x36) (.slice (some ⟨b54,0,none⟩) 1 1) DM hJ.2.1 fun Lm8 hm8=>fU zm<|zD 2<|ja ((i:Int)+1) (by omega)<|zD 2 ?_
    have hup:=MV.upd (T:=158) (b:=b54) (y:=mD s x51) hO hJ.2.2.2 hJ.2.2.1 hl (ail (zL awM) (zL za))
    exact KY hK3 (⟨i+1,_,Lm8,Z++[(b54,.cells ⟨[zI (s:Int),zI x51.n,zI x51.l]⟩ 158 (0,0))]⟩) ⟨by dsimp only;omega,hm8,hup.2,by rw[dZ (amt za y9),←List.append_assoc];exact hup.1⟩ (by dsimp only;omega) [[0],[3,1],[4],[5]] (Sub.refl _)
   refine zD 3<|ja ((k:Int)+1) (by omega)<|zD 2<|bE kL (⟨k+1,F,LM,Z⟩) ⟨by dsimp only;omega,hJ.2.1,hJ.2.2.1,by have:=hJ.2.2.2;rw[List.take_of_length_le (l:=Jh (s:Int) U4) (by rw[aeF];omega)] at this;rw[ao5 awM];exact this⟩ (by dsimp only;omega) (zN 0 4) (Sub.refl _)
  refine zD 7<|aL q0.a (zI 0) [] [0,1] (LM++Z) cg ⟨_,_,rfl,rfl,F,LM,Z,rfl,rfl,hI.2.1,hI.2.2.1,by have:=hI.2.2.2;rwa[show k=2 by omega] at this⟩
 refine jd 5 [1,0] ?_
 obtain⟨yd,Ju⟩:=zG ws s
 refine gY dQ 1 sr Ju ?_
 obtain⟨l16,aFI,V4⟩:=dg.get Ju
 obtain bcC:=hO.len _ (zL aFI)
 obtain aid:l16=l:=Option.some.inj (aFI.symm.trans hl)
 obtain⟨aDa,aNx,aNt,aC9,rfl,aNv,aNw,aNu⟩:=V4
 refine jl 0 (sq _ _ Ju)<|jd 4 [1,0] ?_
 obtain⟨sj,uf⟩:=zG ws s
 refine gY dQ 1 sr uf ?_
 obtain⟨l23,aFH,Fi⟩:=dg.get uf
 obtain bcz:=hO.len _ (zL aFH)
 obtain axl:l23=l:=Option.some.inj (aFH.symm.trans hl)
 obtain⟨aC0,aNg,aNc,aCZ,rfl,aNe,aNf,aNd⟩:=Fi
 refine jl 0 (sq _ _ uf)<|zD 1<|aS 6 fun adj ad5 hL6=>jc (vs:=[.slice aDa l16.length aC9,.func (.func 252) ⟨[]⟩ ⟨[]⟩]) [] (aji (show bC _ _ _ _ _ from ⟨aDa,aNx,aNt,aC9,rfl,aNv,aNw,aNu⟩) (by omega)) ?_
 rintro v17 L17 uk
 obtain⟨xV,xU,aor⟩:=uk.form
 subst aor
 refine eo hL6 (zN 1 4)<|aS 13 fun alO amc Sb=>jc (vs:=[.slice aC0 l23.length aCZ,.func (.func 253) ⟨[]⟩ ⟨[]⟩]) [] (ajh (show bC _ _ _ _ _ from ⟨aC0,aNg,aNc,aCZ,rfl,aNe,aNf,aNd⟩) (by omega)) ?_
 rintro v24 L24 aFb
 obtain⟨adV,adN,aQU⟩:=aFb.form
 subst aQU
 refine eo Sb (zN 1 5)<|aS 14 fun aae aat hL8=>jn fun nQ=>eo hL8 (zN 1 6)<|zD 2<|bE bF ⟨nQ,(.slice xV (l16.filter fun x=>xZ x.n).length xU),(.slice adV (l23.filter fun x=>EJ x.n).length adN),L17,L24⟩ ⟨by rw[←aid];exact uk,by rw[←axl];exact aFb⟩ Nat.zero_lt_one [0,2,1,5,6,3,4] (Sub.refl _)
theorem Xu{s:Int}{l:List ah}{x:ah}(h:l[i]?=some x):(JY s l)[i]?=some (mD s x,⟨s,if xZ x.n=true then x.n+1 else x.n-1,x.l⟩):=af5 h
theorem anR{s o r:Int}{l:List ah}{x:ah}(h:l[i]?=some x):(KX s o l r)[i]?=some (mD s x,⟨o,x.n+r,x.l⟩):=af5 h
theorem raise_at{l:List ah}{x:ah}(h:l[(((l.length:Int)-1)).toNat]?=some x):rO l=x.n+Int.tmod x.n 2:=by
 have:l[l.length-1]?=some x:=by rw[←h];congr 1;omega
 simp only[rO,this]
theorem aaT{l:List ah}(h:¬(l.length:Int)>0):rO l=0:=by
 have:l=[]:=List.eq_nil_of_length_eq_zero (by omega)
 subst this;rfl
theorem tm2(h:1≤n∧n≤9):0≤Int.tmod n 2∧Int.tmod n 2≤1:=by
 rw[Int.tmod_eq_emod_of_nonneg (by omega)]
 omega
theorem aeT{l:List ah}(h:∀x∈l,BF x):0≤rO l∧rO l≤10:=by
 unfold rO
 split
 ·rename_i y hy
  have h1:=(h y (zL hy)).1
  have:=tm2 h1
  omega
 omega
theorem So{v:Value}{S:List (List ah)}{l:List ah}{c2 c3 c4:Int}{F:List (an×Value)}(hS:cU ro v S)(hO:eQ S)(hl:S[s]?=some l) (hm:jP rm oU F LM) (hk:F.map (·.1)=bI S) (hM:MV Z F id):dE zT 231 [.agg ⟨[v]⟩,.agg ⟨[zI ck,zI (s:Int),zI c2,zI c3,zI c4,zI c5,zI c6]⟩,(.map (some rm))] ro (LM++Z) (fun r Y=>∃F' L' Z',r= zI 0∧Y=L'++Z'∧jP rm oU F' L'∧F'.map (·.1)=bI S∧MV Z' F' (gU (JY (s:Int) l))):=by
 obtain⟨ws,ht,dg⟩:=hS
 obtain⟨eP,AG,AE,dQ,rfl,AF,sr,sq⟩:=ht
 have hln:=dg.len
 have Jv:=hO.two
 have He:=(List.getElem?_eq_some_iff.1 hl).1
 have hlm:=zL hl
 have hll:=hO.len _ hlm
 refine zC [.l LM,.l Z]<|zD 2<|jn fun b3=>jn fun b4=>jd 9 [1,0] ?_
 obtain⟨fG,eE⟩:=zG ws s
 refine gY dQ 1 sr eE ?_
 obtain⟨Rb,abO,N0⟩:=dg.get eE
 obtain aQp:=hO.len _ (zL abO)
 obtain NO:Rb=l:=Option.some.inj (abO.symm.trans hl)
 obtain aPl:=hO.ok _ (zL abO)
 obtain⟨auu,aNA,aNy,ae7,rfl,aNz,aut,aus⟩:=N0
 refine jl 0 (sq _ _ eE)<|zD 4<|dB [1,0,1,0,0] [] (fun(zz:Nat×(List (an×Value))×Cells×Cells)=>[(2,(.map (some rm))),(4,zP b4),(6,zI 0),(15,.slice auu Rb.length ae7),(16,zI (Rb.length:Int)),(17,zI (zz.1:Int))]) (fun(zz:Nat×(List (an×Value))×Cells×Cells)=>[.l zz.2.2.1,.l zz.2.2.2,.b b4 (.cells ⟨[zI ck,zI (s:Int),zI c2,zI c3,zI c4,zI c5,zI c6]⟩ 83 (0,0)),.b b3 (.cells ⟨[.slice eP ws.length dQ]⟩ 27 (0,0))]) (fun(zz:Nat×(List (an×Value))×Cells×Cells)=>zz.1≤Rb.length∧jP rm oU zz.2.1 zz.2.2.1∧zz.2.1.map (·.1)=bI S∧MV zz.2.2.2 zz.2.1 (gU ((JY (s:Int) l).take zz.1))) (fun(zz:Nat×(List (an×Value))×Cells×Cells)=>Rb.length-zz.1) (⟨0,F,LM,Z⟩) ⟨by dsimp only;omega,hm,hk,hM⟩ [2,3,0,1] ?_
 rintro⟨i,F,LM,Z⟩ hI K1 bF rest
 dsimp only at hI
 refine zD 5<|zJ 18 ((i:Int) <(Rb.length:Int)) (fun h1=>?_) fun h1=>?_
 ·
  refine zD 6 ?_
  obtain⟨BW,rX⟩:=zG Rb i
  refine gY ae7 2 aut rX<|jl 0 (aus _ _ rX)<|jn fun b8=>jd 3 [0] ?_
  have Jw:=aPl _ (zL rX)
  have aPL:=Jw.1.1
  have aPK:=Jw.1.2
  refine jd 3 [0]<|ja (BW.n-1) (by omega)<|jd 6 [0]<|jp (vs:=[.agg ⟨[zI BW.n,zI BW.l]⟩]) [] [] (fun aG hs hZ=>(aHo (x:=BW)))<|zD 1<|js 25 (xZ BW.n) (fun h2=>?_) (fun h2=>?_)
  ·
   refine jd 4 [0]<|ja (BW.n+1) (by omega)<|jd 13 [3,0,3,0]<|jp (vs:=[zI (s:Int),zI (BW.n+1),zI BW.l]) [] [] (fun aG hs hZ=>gAt)<|aS 11 fun yD yK ya=>jn fun qW=>eo ya (zN 1 5)<|aS 12 fun oh ov mZ=>jmu (kv:=oU) (F:=F) (r:=rm) (K:=158) 2 (mD (s:Int) BW) (.slice (some ⟨qW,0,none⟩) 1 1) DM hI.2.1 fun Lm5 hm5=>fU mZ<|zD 2<|ja ((i:Int)+1) (by omega)<|zD 2 ?_
   have hup:=MV.upd (T:=158) (b:=qW) (y:=⟨s,BW.n+1,BW.l⟩) hO hI.2.2.2 hI.2.2.1 hl (by rw[←NO];exact zL rX)
   exact KY bF (⟨i+1,_,Lm5,Z++[(qW,.cells ⟨[zI (s:Int),zI (BW.n+1),zI BW.l]⟩ 158 (0,0))]⟩) ⟨by dsimp only;omega,hm5,hup.2,by rw[dZ (Xu (by rw[←NO];exact rX))];rw[if_pos (by assumption)];exact hup.1⟩ (by dsimp only;omega) [[0],[3,1],[4],[5]] (Sub.refl _)
  refine jd 13 [3,0,3,0]<|jp (vs:=[zI (s:Int),zI (BW.n-1),zI BW.l]) [] [] (fun aG hs hZ=>gAt)<|aS 11 fun pX p6 oZ=>jn fun qW=>eo oZ (zN 1 5)<|aS 12 fun yC yJ zm=>jmu (kv:=oU) (F:=F) (r:=rm) (K:=158) 2 (mD (s:Int) BW) (.slice (some ⟨qW,0,none⟩) 1 1) DM hI.2.1 fun Lm8 hm8=>fU zm<|zD 2<|ja ((i:Int)+1) (by omega)<|zD 2 ?_
  have hup:=MV.upd (T:=158) (b:=qW) (y:=⟨s,BW.n-1,BW.l⟩) hO hI.2.2.2 hI.2.2.1 hl (by rw[←NO];exact zL rX)
  exact KY bF (⟨i+1,_,Lm8,Z++[(qW,.cells ⟨[zI (s:Int),zI (BW.n-1),zI BW.l]⟩ 158 (0,0))]⟩) ⟨by dsimp only;omega,hm8,hup.2,by rw[dZ (Xu (by rw[←NO];exact rX))];rw[if_neg (by rw[show xZ BW.n=false from (by assumption)];decide)];exact hup.1⟩ (by dsimp only;omega) [[0],[3,1],[4],[5]] (Sub.refl _)
 refine zD 7<|zR (zI 0) [] [0,1] (LM++Z) ⟨F,LM,Z,rfl,rfl,hI.2.1,hI.2.2.1,by have:=hI.2.2.2;rwa[List.take_of_length_le (by simp only[JY,List.length_map];rw[←NO];omega)] at this⟩
theorem ao0{v:Value}{S:List (List ah)}{o:Nat}{l lo:List ah}{c3 c4:Int}{F:List (an×Value)}(hS:cU ro v S)(hO:eQ S)(hl:S[s]?=some l) (hm:jP rm oU F LM) (hk:F.map (·.1)=bI S) (hM:MV Z F id) (A6:S[o]?=some lo):dE zT 233 [.agg ⟨[v]⟩,.agg ⟨[zI ck,zI (s:Int),zI (o:Int),zI c3,zI c4,zI c5,zI c6]⟩,(.map (some rm))] ro (LM++Z) (fun r Y=>∃F' L' Z',r= zI 0∧Y=L'++Z'∧jP rm oU F' L'∧F'.map (·.1)=bI S∧MV Z' F' (gU (KX (s:Int) (o:Int) l (rO lo)))):=by
 obtain⟨ws,ht,dg⟩:=hS
 obtain⟨eP,AG,AE,dQ,rfl,AF,sr,sq⟩:=ht
 have hln:=dg.len
 have Jv:=hO.two
 have He:=(List.getElem?_eq_some_iff.1 hl).1
 have hlm:=zL hl
 have hll:=hO.len _ hlm
 have hso:=(List.getElem?_eq_some_iff.1 A6).1
 have aFy:=zL A6
 have hr:=aeT (hO.ok _ aFy)
 have bcG:=hO.len _ aFy
 refine zC [.l LM,.l Z]<|zD 2<|jn fun b3=>jn fun b4=>jd 8 [1,0] ?_
 obtain⟨Xe,G9⟩:=zG ws s
 refine gY dQ 1 sr G9 ?_
 obtain⟨l18,awP,h18⟩:=dg.get G9
 obtain bcB:=hO.len _ (zL awP)
 obtain NN:l18=l:=Option.some.inj (awP.symm.trans hl)
 obtain jO:=hO.ok _ (zL awP)
 obtain⟨aC6,baD,baB,aur,rfl,baC,aNn,aNm⟩:=h18
 refine jl 0 (sq _ _ G9)<|jd 4 [1,0] ?_
 obtain⟨vk,sZ⟩:=zG ws o
 refine gY dQ 1 sr sZ ?_
 obtain⟨U5,Vz,h24⟩:=dg.get sZ
 obtain aFw:=hO.len _ (zL Vz)
 obtain VG:U5=lo:=Option.some.inj (Vz.symm.trans A6)
 obtain aEB:=hO.ok _ (zL Vz)
 obtain⟨auq,aCY,aCW,ae6,rfl,aCX,amJ,amI⟩:=h24
 refine jl 0 (sq _ _ sZ)<|zD 10<|ja ((l18.length:Int)+(U5.length:Int)) (by omega)<|zD 2<|zJ 30 (((l18.length:Int)+(U5.length:Int))>8) (fun h1=>?_) fun h1=>?_
 ·
  exfalso;omega
 refine zD 18<|Es [1,1,1,1,1] [] (fun(zz:Int)=>[(2,(.map (some rm))),(4,zP b4),(6,zI 0),(7,.slice aC6 l18.length aur),(9,zI zz)]) (fun zz=>[.l LM,.l Z,.b b4 (.cells ⟨[zI ck,zI (s:Int),zI (o:Int),zI c3,zI c4,zI c5,zI c6]⟩ 83 (0,0)),.b b3 (.cells ⟨[.slice eP ws.length dQ]⟩ 27 (0,0))]) (fun zz=>zz=rO lo) ?_ (fun K1 bF=>?_)
 ·
  rintro q hQ rest
  refine zD 8<|dB [1,1,1,1,1,0,1,0,0] [] (fun(zz:Nat×(List (an×Value))×Cells×Cells)=>[(2,(.map (some rm))),(4,zP b4),(9,zI q),(49,.slice aC6 l18.length aur),(50,zI (l18.length:Int)),(51,zI (zz.1:Int))]) (fun(zz:Nat×(List (an×Value))×Cells×Cells)=>[.l zz.2.2.1,.l zz.2.2.2,.b b4 (.cells ⟨[zI ck,zI (s:Int),zI (o:Int),zI c3,zI c4,zI c5,zI c6]⟩ 83 (0,0)),.b b3 (.cells ⟨[.slice eP ws.length dQ]⟩ 27 (0,0))]) (fun(zz:Nat×(List (an×Value))×Cells×Cells)=>zz.1≤l18.length∧jP rm oU zz.2.1 zz.2.2.1∧zz.2.1.map (·.1)=bI S∧MV zz.2.2.2 zz.2.1 (gU ((KX (s:Int) (o:Int) l (rO lo)).take zz.1))) (fun(zz:Nat×(List (an×Value))×Cells×Cells)=>l18.length-zz.1) (⟨0,F,LM,Z⟩) ⟨by dsimp only;omega,hm,hk,hM⟩ (zN 0 4) ?_
  rintro⟨i,F,LM,Z⟩ hI K2 kL rest
  dsimp only at hI
  refine zD 5<|zJ 52 ((i:Int) <(l18.length:Int)) (fun h2=>?_) fun h2=>?_
  ·
   refine zD 6 ?_
   obtain⟨x53,ag0⟩:=zG l18 i
   refine gY aur 2 aNn ag0<|jl 0 (aNm _ _ ag0)<|jn fun wZ=>jd 4 [0] ?_
   have Jw:=jO _ (zL ag0)
   have aPL:=Jw.1.1
   have aPK:=Jw.1.2
   refine jd 4 [0]<|ja (x53.n+q) (by omega)<|zD 2<|zJ 59 ((x53.n+q)>40) (fun h3=>?_) fun h3=>?_
   ·
    exfalso;omega
   refine jd 13 [3,0,3,0]<|ja (x53.n+q) (by omega)<|jd 2 [0]<|jp (vs:=[zI (o:Int),zI (x53.n+q),zI x53.l]) [] [] (fun aG hs hZ=>gAt)<|aS 14 fun oh ov mZ=>jn fun b74=>eo mZ (zN 1 5)<|aS 15 fun pX p6 oZ=>jmu (kv:=oU) (F:=F) (r:=rm) (K:=158) 2 (mD (s:Int) x53) (.slice (some ⟨b74,0,none⟩) 1 1) DM hI.2.1 fun Lm6 hm6=>fU oZ<|zD 2<|ja ((i:Int)+1) (by omega)<|zD 2 ?_
   have hup:=MV.upd (T:=158) (b:=b74) (y:=⟨o,x53.n+q,x53.l⟩) hO hI.2.2.2 hI.2.2.1 hl (by rw[←NN];exact zL ag0)
   exact KY kL (⟨i+1,_,Lm6,Z++[(b74,.cells ⟨[zI (o:Int),zI (x53.n+q),zI x53.l]⟩ 158 (0,0))]⟩) ⟨by dsimp only;omega,hm6,hup.2,by rw[dZ (anR (by rw[←NN];exact ag0))];have e:=hup.1;rw[hQ] at e ⊢;exact e⟩ (by dsimp only;omega) [[0],[3,1],[4],[5]] (Sub.refl _)
  refine zD 7<|zR (zI 0) [] [0,1] (LM++Z) ⟨F,LM,Z,rfl,rfl,hI.2.1,hI.2.2.1,by have:=hI.2.2.2;rwa[List.take_of_length_le (by simp only[KX,List.length_map];rw[←NN];omega)] at this⟩
 refine zJ 34 ((U5.length:Int)>0) (fun h7=>?_) fun h7=>?_
 ·
  refine zD 4<|ja ((U5.length:Int)-1) (by omega) ?_
  obtain⟨x38,NA⟩:=zG U5 ((((U5.length:Int)-1)).toNat)
  refine IU ((U5.length:Int)-1) ae6 2 amJ NA (by omega)<|zD 1<|jl 0 (amI _ _ NA)<|zD 2<|ja ((U5.length:Int)-1) (by omega) ?_
  obtain⟨x44,Jt⟩:=zG U5 ((((U5.length:Int)-1)).toNat)
  refine IU ((U5.length:Int)-1) ae6 2 amJ Jt (by omega)<|zD 1<|jl 0 (amI _ _ Jt)<|zD 1<|ja (x38.n+(Int.tmod x44.n 2)) (by have h1:=(aEB _ (zL NA)).1;have h2:=(aEB _ (zL Jt)).1;have:=tm2 h2;omega) ?_
  refine zD 2 ?_
  have hra:=raise_at NA
  rw[VG] at hra
  exact bE bF (x38.n+(Int.tmod x44.n 2)) (by rw[←VG];have e:x38=x44:=Option.some.inj (NA.symm.trans Jt);subst e;exact(raise_at NA).symm) Nat.zero_lt_one [2,3,0,1] (Sub.refl _)
 refine zD 2<|bE bF 0 (by rw[←VG];exact(aaT (by omega)).symm) Nat.zero_lt_one [2,3,0,1] (Sub.refl _)
end Go.L
